/- A part of the proof that HouseLogs holds. No condition. -/
import Derived.Test.YtgplmdgpmbegiaaGreatDoorLo7
import Derived.Lib.Bytealg
import Derived.Test.YtgplmdgpmbegiaaGreatDoorLo6
import Derived.Lib.ItoaNum
import Derived.Lib.ItoaLen
import Derived.Lib.ItoaMem
import Derived.Lib.Join
import Derived.Test.YtgplmdgpmbegiaaGreatDoorLo0
set_option maxHeartbeats 4000000
set_option linter.all false
open Nat (reduceAdd reduceMul reduceLeDiff reduceEqDiff)
namespace Go.Abs
def k8(l:List fp)(n:Int):Bool:=decide ((l.length:Int)<=n)&&l.all λe=>decide (e.kind.length<=40)&&decide (e.names.length<=6)&&decide (e.ba.length<=8)&&decide (e.text.length<=200)&&e.names.all λx=>decide (x.length<=40)
def aA(c:UInt8):By->List (By)
 |[]=>[[]]
 |x::r=>
  if x=c then []::aA c r
  else match aA c r with
   |p::ps=>(x::p)::ps
   |[]=>[[x]]
def eo{c:UInt8}:∀{s:By},aA c s≠[]
 |[]=>by simp[aA]
 |x::r=>by
  unfold aA;split
  ·simp
  ·split<;>simp
theorem qy{c:UInt8}:∀{s:By},c∉s->aA c s=[s]
 |[],_=>rfl
 |x::r,h=>by
  unfold aA;rw[Ur (λe=>h (by simp[e])),qy (λhr=>h (UL _ hr))]
theorem o7{c:UInt8}{q:By}:∀{p:By},c∉p->aA c (p++c::q)=p::aA c q
 |[],_=>by simp[aA]
 |x::r,h=>by
  rw[Vp,aA,Ur (λe=>h (by simp[e])),o7 (λhr=>h (UL _ hr))]
theorem jr{c:UInt8}:∀{s:By},(aA c s).length=s.count c+1
 |[]=>rfl
 |x::r=>by
  have ih:=jr (c:=c) (s:=r);unfold aA;by_cases h:x=c
  ·subst h;rw[Ut rfl,Ui,ih,List.count_cons_self]
  ·rw[Ur h,List.count_cons_of_ne h];cases hs:aA c r with
   |nil=>exact absurd hs eo
   |cons p ps=>rw[hs]at ih;simpa using ih
theorem iX{c:UInt8}:∀{s:By},∀p∈aA c s,p.length<=s.length
 |[]=>by simp[aA]
 |x::r=>by
  have ih:=iX (c:=c) (s:=r);intro p hp;unfold aA at hp;rw[Ui];by_cases h:x=c
  ·rw[Ut h]at hp;rcases UR.1 hp with rfl|hp
   ·simp
   ·have:=ih p hp;omega
  ·rw[Ur h]at hp;cases hs:aA c r with
   |nil=>exact absurd hs eo
   |cons q qs=>
    rw[hs]at hp ih;rcases UR.1 hp with rfl|hp
    ·have:=ih q Si;rw[Ui];omega
    ·have:=ih p (by simp[hp]);omega
def ga(c:UInt8):List (By)->By
 |[]=>[]
 |[p]=>p
 |p::ps=>p++c::ga c ps
def iu{c:UInt8}{p:By}{r:List (By)}(h:r≠[]):ga c (p::r)=p++c::ga c r:=by
 cases r with
 |nil=>exact absurd rfl h
 |cons=>rfl
theorem gp{c:UInt8}:∀{s:By},ga c (aA c s)=s
 |[]=>rfl
 |x::r=>by
  have ih:=gp (c:=c) (s:=r);unfold aA;by_cases h:x=c
  ·subst h;rw[Ut rfl];cases hs:aA x r with
   |nil=>exact absurd hs eo
   |cons p ps=>rw[hs]at ih;rw[ga,ih]<;>simp
  ·rw[Ur h];cases hs:aA c r with
   |nil=>exact absurd hs eo
   |cons p ps=>
    rw[hs]at ih;cases ps with
    |nil=>rw[ga]at ih ⊢;rw[ih]
    |cons q qs=>
     rw[ga]at ih ⊢<;>first|(rw[<-ih];rfl)|simp
theorem EG{c:UInt8}:∀{s:By},c∉s->Lib.indexByte s c= -1
 |[],_=>rfl
 |x::r,h=>by
  unfold Lib.indexByte;have h1:(x==c)=false:=by simp;exactλe=>h (by simp[e])
  rw[h1,EG (λhr=>h (UL _ hr))];rfl
theorem AL{c:UInt8}{q:By}:∀{p:By},c∉p->Lib.indexByte (p++c::q) c=p.length
 |[],_=>by simp[Lib.indexByte]
 |x::r,h=>by
  have ih:=AL (q:=q) (λhr=>h (UL _ hr):c∉r);rw[Vp,Lib.indexByte];have h1:(x==c)=false:=by simp;exactλe=>h (by simp[e])
  rw[h1,ih];have h2:((r.length:Int) == -1)=false:=Si
  rw[h2];simp
def tW(c:UInt8)(s:By):(c∉s/\Lib.indexByte s c= -1)\/∃p q,c∉p/\s=p++c::q/\Lib.indexByte s c=p.length:=by
 by_cases h:c∈s
 ·right
  obtain⟨p,q,rfl,hp⟩:=List.eq_append_cons_of_mem h;exact⟨p,q,hp,rfl,AL hp⟩
 ·exact .inl ⟨h,EG h⟩
def gI(s:By):Int:=s.foldl (λn c=>10*n+((c.toNat:Int)-48)) 0
def bQ(s:By):Bool:=!decide (s.length=0)&&decide (s.length<=9) && !(decide (1<s.length)&&decide (s.head? =some 48))&&s.all cj
def jC(s:By):Bool:=!decide (s=[])&&s.all cj
def cT(s:By):Int:=if bQ s then gI s else 0
def C7:Nat->Nat->By
 | 0,u=>[UInt8.ofNat (48+u)]
 |f+1,u=>
  match Nat.blt u 10 with
  |true=>[UInt8.ofNat (48+u)]
  |false=>C7 f (u / 10)++[UInt8.ofNat (48+u%10)]
theorem xD:∀(f u:Nat),u<10^(f+1)->C7 f u=Lib.decDigits u
 | 0,u,h=>by rw[Lib.decDigits,dif_pos (by simpa using h)];rfl
 |f+1,u,h=>by
  unfold C7;cases hb:Nat.blt u 10 with
  |true=>rw[Lib.decDigits,dif_pos (by rw[Nat.blt_eq]at hb;exact hb)]
  |false=>
   have hn:¬u<10:=λx=>by rw[<-Nat.blt_eq,hb]at x;cases x
   rw[Lib.decDigits,dif_neg hn,xD f (u / 10) (by rw[Nat.pow_succ]at h;omega)]
def dS(n:Int):By:=C7 n.toNat n.toNat
def gJ(n:Int):dS n=Lib.decDigits n.toNat:=xD _ _ (Nat.lt_trans (Nat.lt_succ_self _) (Nat.lt_pow_self De))
def gD(s:By):Int:=s.foldl (λx c=>(339*x+(c.toNat:Int)).tmod 9999749) 1
def gC(s:By):By:=List.replicate (7-(dS (gD s)).length) 48++dS (gD s)
def pW(e:fp):List (By):=[dS e.num,e.kind]++e.names++e.ba.map dS
def cX(e:fp):By:=ga 32 (pW e)
def fN(e:fp):By:=cX e++[35]++gC (cX e)++[10]
def gm(l:List fp):By:=(l.map fN).flatten
def aW:List (By)->Bool->By×List (By)×Bool
 |[],_=>([],[],true)
 |w::r,wr=>if w=[]then([],[],true)else(w,r,wr)
def bI:Nat->List (By)->Bool->List (By)×List (By)×Bool
 | 0,ws,b=>([],ws,b)
 |n+1,ws,b=>((aW ws b).1:: (bI n (aW ws b).2.1 (aW ws b).2.2).1,(bI n (aW ws b).2.1 (aW ws b).2.2).2)
def cP:Nat->List (By)->Bool->List Int×List (By)×Bool
 | 0,ws,b=>([],ws,b)
 |n+1,ws,b=>(cT (aW ws b).1:: (cP n (aW ws b).2.1 ((aW ws b).2.2 || !bQ (aW ws b).1)).1,(cP n (aW ws b).2.1 ((aW ws b).2.2 || !bQ (aW ws b).1)).2)
def dQ:fp:=⟨0,[],[],[],[]⟩
def bV(ws:List (By)):fp×Bool:=
 match eC (aW ws false).1 with
 |none=>(dQ,false)
 |some d=>
  let n:=bI (aC d).length (aW ws false).2.1 (aW ws false).2.2
  let v:=cP (a8 d) n.2.1 n.2.2
  (⟨0,bw d,n.1,v.1,[]⟩,!v.2.2&&decide (v.2.1.length=0))
def bU(c:UInt8):By->By×By×Bool
 |[]=>([],[],false)
 |x::r=>if x=c then([],r,true)else(x:: (bU c r).1,(bU c r).2)
def cg(s:By)(n:Int):fp×Int:=
 if s.length<8 then(dQ,25)else
 if s.getD (s.length-8) 0≠35\/¬jC (s.drop (s.length-7))=true then(dQ,25)else
 if gC (s.take (s.length-8))≠s.drop (s.length-7)then(dQ,27)else
 let h:=bU 32 (s.take (s.length-8))
 let e:=bV (aA 32 h.2.1)
 if !bQ h.1 || !e.2||decide (dK {e.1 with num:=cT h.1}≠0)then(dQ,25)else
 ({e.1 with num:=cT h.1},bB (decide (cT h.1≠n)) 11)
def eJ:Nat->By->List fp->Nat->List fp×Int×Int
 | 0,_,l,a=>(l,(a:Int),0)
 |f+1,s,l,a=>
  if s=[]then(l,(a:Int),0)else
  if !(bU 10 s).2.2 then(l,(a:Int),28)else
  let e:=cg (bU 10 s).1 ((l.length:Int)+1)
  if e.2≠0 then(l,(a:Int),e.2)else eJ f (bU 10 s).2.1 (l++[e.1]) (a+(bU 10 s).1.length+1)
def cH(s:By):List fp×Int×Int:=if 1000000<s.length then([],0,26)else eJ (s.length+1) s [] 0
def jL(w:By):Option (Nat×Bool×Nat):=
 if w=[108,101,102,116]then some (0,true,4)else
 if w=[102,114,111,109]then some (1,true,5)else
 if w=[108,105,110,101,115]then some (2,true,3)else
 if w=[117,110,115,97,102,101]then some (3,false,2)else
 if w=[116,97,112,101,115]then some (4,true,2)else
 if w=[114,101,108,101,97,115,101,100]then some (5,false,5)else
 if w=[119,97,110,116]then some (6,true,0)else none
def qc(l:List rv):List (By):=(l.map λp=>if p.rel then [p.name,dS p.lA]else []).flatten
def jD(R:gB)(n:By):Nat->List (By)
 | 0=>(dC (iD R n).b9 0).map dS
 | 1=>qH R n
 | 2=>(jT R n).map jO.name
 | 3=>jo R R.tick
 | 4=>(sX R n).aK
 | 5=>qc R.aU
 |_=>[dS (Cg R n).length,dS (fP R n).want,if(fP R n).acc then [97,99,99,101,112,116,101,100]else [111,112,101,110]]
def wb(l:List (By)):By:=if l=[]then [110,111,110,101]else ga 32 l
def lD(R:gB)(ws:List (By))(q:Nat×Bool×Nat):By×Int:=
 let n:=if q.2.1=true/\ws.length=2 then ws.getD 1 []else []
 if(q.2.1=true/\¬(ws.length=2/\n≠[]))\/(q.2.1=false/\ws.length≠1)then([],25)else
 if q.2.1=true/\fk R q.2.2 n=false then([],10)else(wb (jD R n q.1),0)
def yB(H:kf)(s:By):kf×By×Int:=
 if 4096<s.length then(H,[],26)else
 if s=[]then(H,[],25)else
 match jL ((aA 32 s).headD [])with
 |some q=>(H,lD H.now (aA 32 s) q)
 |none=>
  match eC ((aA 32 s).headD [])with
  |none=>(H,[],13)
  |some _=>
   if !(bV (aA 32 s)).2 then(H,[],25)else
   if 1000<=H.cS.length then(H,[],5)else
   let e:={ (bV (aA 32 s)).1 with num:=(H.cS.length:Int)+1}
   if gK H e≠0 then(H,[],gK H e)else(p3 H e,[100,111,110,101,32]++dS e.num,0)
structure yR(P:Program):Prop where
 ib:∀(args:Array Value) (w:World),(callFunc 288 args).run P w=((Extern.BytealgIndexByte.indexByte args).run P w).andThen λv w'=>.ok (.value v) w'
 ct:∀(args:Array Value) (w:World),(callFunc 262 args).run P w=((Extern.BytealgCount.count args).run P w).andThen λv w'=>.ok (.value v) w'
def zl(c:UInt8):(c.toNat:Int).toNat.toUInt8=c:=Si
def k7{s}{n:Nat}{kk}(hn:n<=s.length):ou (.str s) none (some (.int kk (n:Int)))=some (.str (s.take n)):=by
 simp only[ou,kH hn,VI,Nat.sub_zero]
def fF{s}{n:Nat}{kk}(hn:n<=s.length):ou (.str s) (some (.int kk (n:Int))) none=some (.str (s.drop n)):=by
 simp only[ou,mE hn];rw[UO Si]
def rJ{p r kk}:ou (.str (p++r)) none (some (.int kk (p.length:Int)))=some (.str p):=by
 rw[k7 Si];simp
def lM{p r c kk}:ou (.str (p++c::r)) (some (.int kk ((p.length+1:Nat):Int))) none=some (.str r):=by
 rw[fF Si];simp
def wE{α:Type}{don:List α}{z q:α}{m k:Nat}(hk:don.length=k)(hm:0<m):(don++List.replicate m z).set k q=(don++[q])++List.replicate (m-1) z:=by
 subst hk;obtain⟨n,rfl⟩:∃n,m=n+1:=⟨m-1,Om⟩;rw[VT,U0 _ _ (Uq _),Vb];simp
section
variable {P:Program}(X:yR P) {h:af}
include X
def KL(s:By)(c:UInt8):aV P (.func (.func 288) [] []) [.str s,.int .u8 c.toNat] h (λv h'=>v=.int .i64 (Lib.indexByte s c)/\h' =h):=by
 refine⟨_,[],?_,rfl,Si⟩;rw[UE];intro m w cv vs hr hf hargs;rw[VR]at hf;obtain⟨f',a',c',rfl,hfn,ha,hc⟩:=hf;simp only[y0]at hfn;subst hfn;rw[aT]at ha hc;subst ha;subst hc;obtain⟨v1,vs1,rfl,h1,hargs⟩:=aF.1 hargs;obtain⟨v2,vs2,rfl,h2,hargs⟩:=aF.1 hargs;rw[aT]at hargs;subst hargs;have h1:v1=.string ⟨⟨s⟩⟩:=h1;have h2:v2=.int .u8 (c.toNat:Int):=h2;subst h1;subst h2;refine⟨_,λw=>rfl,?_⟩;simp only[invoke];rw[X.ib];have e:=Lib.run_indexByteString (P:=P) ⟨⟨s⟩⟩ (c.toNat:Int) w;rw[zl]at e;have e':(Extern.BytealgIndexByte.indexByte (#[]++#[.string ⟨⟨s⟩⟩,.int .u8 (c.toNat:Int)]++#[])).run P w=.ok (.int .i64 (Lib.indexByte s c)) w:=by simpa using e
 exact Np
def KM(s:By)(c:UInt8):aV P (.func (.func 262) [] []) [.str s,.int .u8 c.toNat] h (λv h'=>v=.int .i64 (s.count c:Nat)/\h' =h):=by
 refine⟨_,[],?_,rfl,Si⟩;rw[UE];intro m w cv vs hr hf hargs;rw[VR]at hf;obtain⟨f',a',c',rfl,hfn,ha,hc⟩:=hf;simp only[y0]at hfn;subst hfn;rw[aT]at ha hc;subst ha;subst hc;obtain⟨v1,vs1,rfl,h1,hargs⟩:=aF.1 hargs;obtain⟨v2,vs2,rfl,h2,hargs⟩:=aF.1 hargs;rw[aT]at hargs;subst hargs;have h1:v1=.string ⟨⟨s⟩⟩:=h1;have h2:v2=.int .u8 (c.toNat:Int):=h2;subst h1;subst h2;refine⟨_,λw=>rfl,?_⟩;simp only[invoke];rw[X.ct];have e:=Lib.run_countString (P:=P) ⟨⟨s⟩⟩ (c.toNat:Int) w;rw[zl]at e;have e':(Extern.BytealgCount.count (#[]++#[.string ⟨⟨s⟩⟩,.int .u8 (c.toNat:Int)]++#[])).run P w=.ok (.int .i64 (s.count c:Nat)) w:=by simpa [Lib.countByte]using e
 exact Np
end
attribute [local irreducible] WP WC WE WB WR WF WL WG fo
section
variable {P:Program}(T:eF P) (X:yR P) {h:af}
include T X
def r272(s:By)(c:UInt8):ak P 272 [.str s,.int .u8 c.toNat] h (λv _=>v=.int .i64 (Lib.indexByte s c)):=by
 refine .of T.mix T.c272 ?_;unfold fn272 Il;refine Wn ?_;refine WF.val (KL X s c) ?_;rintro _ g ⟨rfl,hg⟩;exact Wn Tv
def r221(s:By)(c:UInt8):ak P 221 [.str s,.str [c]] h (λv _=>v=.int .i64 (s.count c:Nat)):=by
 refine .of T.mix T.c221 ?_;unfold fn221 gA;simp only[aL,aR,bd,bf,reduceAdd,reduceMul,reduceLeDiff,reduceEqDiff,Us,show decide (((1:Nat):Int)=0)=false from rfl,show decide (((1:Nat):Int)=1)=true from rfl,pK];refine WF.val (KM X s c) ?_;rintro _ g ⟨rfl,hg⟩;exact Wn Tv
def r253(s:By)(c:UInt8):ak P 253 [.str s,.str [c]] h (λv _=>v=.int .i64 (Lib.indexByte s c)):=by
 refine .of T.mix T.c253 ?_;unfold fn253 gA;by_cases hs:[c]=s
 ·have d1:decide ([c]=s)=true:=Uk hs;have e:Lib.indexByte s c=0:=by rw[<-hs];simp[Lib.indexByte]
  simp only[aL,aR,bd,bf,reduceAdd,reduceMul,reduceLeDiff,reduceEqDiff,Us,show decide (((1:Nat):Int)=0)=false from rfl,d1,e]
 ·have d1:decide ([c]=s)=false:=Uh hs;simp only[aL,aR,bd,bf,reduceAdd,reduceMul,reduceLeDiff,reduceEqDiff,Us,show decide (((1:Nat):Int)=0)=false from rfl,show decide (((1:Nat):Int)=1)=true from rfl,d1,pK];refine WF.ce T.c272 (r272 T X s c) λg=>?_
  exact Wn Tv
def r222(s:By)(c:UInt8):ak P 222 [.str s,.str [c]] h (λv _=>v=.int .i64 (Lib.indexByte s c)):=by
 refine .of T.mix T.c222 ?_;unfold fn222 gA;refine Wn ?_;refine WF.ce T.c253 (r253 T X s c) λg=>?_
 exact Wn Tv
set_option maxRecDepth 10000 in
def r128(s:By)(c:UInt8)(hs:s.length<=2^40):ak P 128 [.str s,.str [c],.int .i64 0,.int .i64 (-1)] h (λv h'=>aB h' v 1 ((aA c s).map al)):=by
 refine .of T.mix T.c128 ?_;obtain⟨ts,Ol⟩:∃ts,ts=aQ 66 [.str s,.str [c],.int .i64 0,.int .i64 (-1)]:=⟨_,rfl⟩;have hlen:ts.length=66:=by rw[Ol];rfl
 have t0:slot ts 0=.str s:=by rw[Ol];rfl
 have t1:slot ts 1=.str [c]:=by rw[Ol];rfl
 have t2:slot ts 2=.int .i64 0:=by rw[Ol];rfl
 have t3:slot ts 3=.int .i64 (-1):=by rw[Ol];rfl
 unfold fn128 gA;show WC P cB _ [] (aQ 66 [.str s,.str [c],.int .i64 0,.int .i64 (-1)]) h _;rw[<-Ol];clear Ol;have hcnt:s.count c<=s.length:=WN;have w1:IntKind.i64.wrap ((s.count c:Int)+1)=((s.count c+1:Nat):Int):=by rw[aH Om Om];omega
 have w2:IntKind.i64.wrap ((s.length:Int)+1)=((s.length+1:Nat):Int):=by rw[aH Om Om];omega
 have e1:min ((s.count c+1:Nat):Int) ((s.length+1:Nat):Int)=((s.count c+1:Nat):Int):=Om
 have w3:IntKind.i64.wrap (((s.count c+1:Nat):Int)-1)=((s.count c:Nat):Int):=by rw[aH Om Om];omega
 have dn:decide ([c]=([] :By))=false:=Uh Si;have d1:decide ((-1:Int)=0)=false:=rfl;have d2:decide (-1<(0:Int))=true:=rfl;refine Rs (A7 t0 t1 t2 t3 @dn @d1 @d2) ?_;refine WF.ce T.c221 (r221 T X s c) λg1=>?_
 repeat (first|simp (config:={maxSteps:=1000000}) only[aL,aR,bd,bf,reduceAdd,reduceMul,reduceLeDiff,reduceEqDiff,bj,hlen,UC,UD,t0,t1,t2,t3,w1,w2,e1,w3,l9 (es:=1) (w:=16) (N0:=(h++g1).length) (n:=s.count c+1) (z:=[AV.str []]) (k:=.i64) (k':=.i64) Om Om]|simp (config:={maxSteps:=1000000}) (disch:=first|(simp only[Ud,Ui,Ul]<;>omega)|rfl|omega|fail) only[dZ,aL,aR,bd,bf,reduceAdd,reduceMul,reduceLeDiff,reduceEqDiff,bj,hlen,UC,UD,t0,t1,t2,t3,w1,w2,e1,w3,l9 (es:=1) (w:=16) (N0:=(h++g1).length) (n:=s.count c+1) (z:=[AV.str []]) (k:=.i64) (k':=.i64) Om Om])
 have hF:=Fr.zd (N:=h.length) (n:=s.count c+1) (h:=h++g1) (z:=[AV.str []]) (es:=1) Si rfl;obtain⟨sv,hsv⟩:∃sv,sv=AV.slice (h++g1).length 0 (s.count c+1) 1:=⟨_,rfl⟩;rw[<-hsv]at hF ⊢;have er:List.replicate (s.count c+1) [AV.str []]=(List.replicate (s.count c+1) ([] :By)).map al:=by simp[al]
 rw[er,Uf]at hF;rw[Uf];refine WL.inv T.mix (λn ts' h'=>∃(k:Nat) (don:List (By)) (q:By) (g':af),don.length=k/\aA c s=don++aA c q/\k+q.count c=s.count c/\n=s.count c-k/\h' =h++g'/\Fr h.length h' sv 1 ((don++List.replicate (s.count c+1-k) ([] :By)).map al)/\ts'.length=66/\slot ts' 0=.str q/\slot ts' 1=.str [c]/\slot ts' 2=.int .i64 0/\slot ts' 3=.int .i64 ((s.count c:Nat):Int)/\slot ts' 9=sv/\slot ts' 10=.int .i64 k) (s.count c)
  ⟨0,[],s,_,rfl,rfl,Om,rfl,rfl,hF,(Sq t0),(Sq t0),(Sq t1),(Sq t2),(Sq t0),(Sq t0),iR⟩ ?_
 rintro _ ts' _ ⟨k,don,q,g',hdl,hsp,hkc,rfl,rfl,hF',ON,u0,u1,u2,u3,u9,Tk⟩;clear hlen t0 t1 t2 t3;have hlen:=ON;have R5:k<(don++List.replicate (s.count c+1-k) ([] :By)).length:=by simp;omega
 have hql:q.length<=s.length:=by
  have e1:=gp (c:=c) (s:=s);have:∀(d:List (By)) (z:List (By)),(ga c z).length<=(ga c (d++z)).length:=by
   intro d
   induction d with
   |nil=>intro z;exact Uq _
   |cons x d ih=>
    intro z;by_cases hz:d++z=[]
    ·have:z=[]:=by simp at hz;exact hz.2
     subst this;simp[ga]
    ·rw[Vp,iu hz];have:=ih z;simp;omega
  have:=this don (aA c q);rw[<-hsp,gp,gp]at this;exact this
 rcases tW c q with⟨hno,hix⟩|⟨p,q',hp,hq,hix⟩
 ·have hc0:q.count c=0:=List.count_eq_zero.2 hno;have e3:¬(k:Int)<((s.count c:Nat):Int):=Om
  have ek:s.count c+1-k=1:=Om
  have ixk:=hF'.aM.fx (kk:=.i64) R5;have w4:IntKind.i64.wrap ((k:Int)+1)=((k+1:Nat):Int):=by rw[aH Om Om];omega
  refine Rs (A9 @u0 @u1 @u2 @u3 @u9 @Tk e3 @Va @ixk) ?_;refine WR.tu (h0:=h) (off:=0) (x':=q) hF' R5 De rfl (by simp[al]) ?_;intro g3 hl3 Td _;rw[wE hdl Om,ek]at Td;simp only[Vb,WX,UE]at Td;have esp:don++[q]=aA c s:=by rw[hsp,qy hno]
  rw[esp]at Td;have Qe:gx none (some (AV.int .i64 ((k+1:Nat):Int))) (aA c s).length=some (0,k+1):=kH (by rw[<-esp];simp;omega);obtain⟨s',es',On⟩:=Td.aM.Iw Qe;refine Rs (A8 @u0 @u1 @u2 @u3 @u9 @Tk @w4 @es') ?_;have et:List.take (k+1-0) (List.drop 0 (aA c s))=aA c s:=by
   rw[VI,UO (by rw[<-esp];simp;omega)]
  rw[et]at On;exact On
 ·have hcq:q.count c=q'.count c+1:=by rw[hq,List.count_append,List.count_eq_zero.2 hp,List.count_cons_self];omega
  have e3:(k:Int)<((s.count c:Nat):Int):=Om
  refine Rs (A8 @u0 @u1 @u2 @u3 @u9 @Tk e3 @US) ?_;refine WF.ce T.c222 (r222 T X q c) λg2=>?_
  have ixk:=(hF'.app g2).aM.fx (kk:=.i64) R5;have w4:IntKind.i64.wrap ((k:Int)+1)=((k+1:Nat):Int):=by rw[aH Om Om];omega
  have QM:p.length<q.length:=by rw[hq];simp
  have w5:IntKind.i64.wrap ((p.length:Int)+0)=(p.length:Int):=by rw[aH Om Om];omega
  have w6:IntKind.i64.wrap ((p.length:Int)+((1:Nat):Int))=((p.length+1:Nat):Int):=by rw[aH Om Om];omega
  have dp:decide ((p.length:Int)<0)=false:=Uh Om;have Ua:=hF'.app g2;rw[Uf]at Ua ⊢;rw[hix];subst hq
  repeat (first|simp (config:={maxSteps:=1000000}) only[aL,aR,bd,bf,reduceAdd,reduceMul,reduceLeDiff,reduceEqDiff,bj,hlen,UC,UD,u0,u1,u2,u3,u9,Tk,dp,w5,ixk,rJ,Us,w6,lM]|simp (config:={maxSteps:=1000000}) (disch:=first|(simp only[Ud,Ui,Ul]<;>omega)|rfl|omega|fail) only[dZ,aL,aR,bd,bf,reduceAdd,reduceMul,reduceLeDiff,reduceEqDiff,bj,hlen,UC,UD,u0,u1,u2,u3,u9,Tk,dp,w5,ixk,rJ,Us,w6,lM])
  refine WR.tu (h0:=h) (off:=0) (x':=p) Ua R5 De rfl (by simp[al]) ?_;intro g3 hl3 Td _;rw[wE hdl Om]at Td
  repeat (first|simp (config:={maxSteps:=1000000}) only[aL,aR,bd,bf,reduceAdd,reduceMul,reduceLeDiff,reduceEqDiff,bj,hlen,UC,UD,u0,u1,u2,u3,u9,Tk,Us,w6,lM,w4]|simp (config:={maxSteps:=1000000}) (disch:=first|(simp only[Ud,Ui,Ul]<;>omega)|rfl|omega|fail) only[dZ,aL,aR,bd,bf,reduceAdd,reduceMul,reduceLeDiff,reduceEqDiff,bj,hlen,UC,UD,u0,u1,u2,u3,u9,Tk,Us,w6,lM,w4])
  have em:s.count c+1-k-1=s.count c+1-(k+1):=Om
  rw[em]at Td;exact⟨s.count c-(k+1),Om,k+1,don++[p],q',g3,by simp[hdl],by rw[hsp,o7 hp];simp,Om,rfl,rfl,Td,rfl,rfl⟩
def r64(s:By)(c:UInt8)(hs:s.length<=2^40):ak P 64 [.str s,.str [c]] h (λv h'=>aB h' v 1 ((aA c s).map al)):=by
 refine .of T.mix T.c64 ?_;unfold fn64 gA;refine Wn ?_;refine WF.res T.c128 (r128 T X s c hs) ?_;intro v g hv;refine Wn ?_;exact hv
omit T X in
theorem xG{c}:∀{s},c∉s->bU c s=(s,[],false)
 |[],_=>rfl
 |x::r,h=>by
  simp only[UR,not_or]at h;rw[bU,Ur (λe=>h.1 e.symm),xG h.2]
omit T X in
theorem uD{c}:∀{p q},c∉p->bU c (p++c::q)=(p,q,true)
 |[],q,_=>by rw[VD,bU,Ut rfl]
 |x::r,q,h=>by
  simp only[UR,not_or]at h;rw[Vp,bU,Ur (λe=>h.1 e.symm),uD h.2]
def r188(s:By)(c:UInt8)(hs:s.length<=2^40):ak P 188 [.str s,.str [c]] h (λv _=>v=.dt [.str (bU c s).1,.str (bU c s).2.1,.bool (bU c s).2.2]):=by
 refine .of T.mix T.c188 ?_;unfold fn188 gA;refine Wn ?_;refine WF.ce T.c253 (r253 T X s c) λg=>?_
 rcases tW c s with⟨hno,hix⟩|⟨p,q,hp,hq,hix⟩
 ·refine Ws (A2 @hix (show decide ((0:Int)<=-1)=false from rfl)) ?_;rw[xG hno]
 ·have d1:decide ((0:Int)<=(p.length:Int))=true:=Uk Om;have QM:p.length<s.length:=by rw[hq];simp
  have w6:IntKind.i64.wrap ((p.length:Int)+((1:Nat):Int))=((p.length+1:Nat):Int):=by rw[aH Om Om];omega
  rw[hix];subst hq;simp only[aL,aR,bd,bf,reduceAdd,reduceMul,reduceLeDiff,reduceEqDiff,d1,Us,w6,rJ,lM];rw[uD hp]
def r98(s:By)(c:UInt8)(hs:s.length<=2^40):ak P 98 [.str s,.str [c]] h (λv _=>v=.dt [.str (bU c s).1,.str (bU c s).2.1,.bool (bU c s).2.2]):=by
 refine .of T.mix T.c98 ?_;unfold fn98 gA;refine Wn ?_;refine WF.ce T.c188 (r188 T X s c hs) λg=>?_
 exact Wn Tv
end
def Pw(h:af):Prop:=∃mu tl,h[2]? =some (.cells (Lib.pow10Tab.map (AV.int .u64)) mu tl)
def Pw.ext{h k}(o:Pw h)(e:Ext h k):Pw k:=by
 obtain⟨mu,tl,hb⟩:=o;exact⟨mu,tl,e.some hb⟩
structure nJ(P:Program):Prop where
 itoa:∀{h:af}{n:Int},-9223372036854775808<=n->n<=9223372036854775807->Pw h->ak P 113 [.i n] h (λv _=>v=.str (Lib.itoa n))
 join:∀{h:af}{s:AV}{sep:By}{xs:List (By)},aB h s 1 (xs.map al)->(Lib.join xs sep).length<=140737488355328/\xs.length<=140737488355328->ak P 114 [s,.str sep] h (λv _=>v=.str (Lib.join xs sep))
 atoi:∀{h:af}{s:By},s.all cj=true->s≠[]->s.length<=9->ak P 254 [.str s] h (λv _=>v=.dt [.i (gI s),.ju])
 rep:∀{h:af}{n:Nat},n<=7->ak P 252 [.str [48],.i (n:Nat)] h (λv _=>v=.str (List.replicate n 48))
def fQ{n}(h:0<=n):Lib.itoa n=dS n:=by rw[gJ];unfold Lib.itoa;rw[Ur Om]
theorem jB:∀{k u},u<10^(k+1)->(Lib.decDigits u).length<=k+1
 | 0,u,h=>by rw[Lib.decDigits,dif_pos (by simpa using h)];simp
 |k+1,u,h=>by
  by_cases hu:u<10
  ·rw[Lib.decDigits,dif_pos hu];simp
  ·rw[Lib.decDigits,dif_neg hu,Ud];have:=jB (k:=k) (u:=u / 10) (by rw[Nat.pow_succ]at h;omega);simp;omega
def uz{s c}:gI (s++[c])=10*gI s+((c.toNat:Int)-48):=by simp[gI]
def dx{c}:cj c=true↔48<=c.toNat/\c.toNat<=57:=by simp[cj]
theorem xE:∀(s:By) (a:Int),s.all cj=true->0<=a->0<=s.foldl (λn c=>10*n+((c.toNat:Int)-48)) a/\s.foldl (λn c=>10*n+((c.toNat:Int)-48)) a<(a+1)*10^s.length
 |[],a,_,h=>by simp;omega
 |c::s,a,h,h0=>by
  simp only[VJ,UH]at h;have hc:=dx.1 h.1;have ih:=xE s (10*a+((c.toNat:Int)-48)) h.2 Om;rw[W9,Ui,Int.pow_succ];refine⟨ih.1,Int.lt_of_lt_of_le ih.2 ?_⟩;have h1:(10*a+((c.toNat:Int)-48)+1)*10^s.length<=((a+1)*10)*10^s.length:=Int.mul_le_mul_of_nonneg_right Om (Int.pow_nonneg De)
  calc _<=((a+1)*10)*10^s.length:=h1
   _=(a+1)*(10^s.length*10):=by rw[Int.mul_assoc,Int.mul_comm 10]
def C6{s}(h:s.all cj=true):0<=gI s/\gI s<10^s.length:=by
 have:=xE s 0 h De;rw[Int.zero_add,Int.one_mul]at this;exact this
def db{α:Type}{s:List α}{k:Nat}(hk:k<s.length):s.take (k+1)=s.take k++[s[k]]:=by
 rw[U9,Uj hk];rfl
def MA{s:By}{k:Nat}(hl:s.length<=9)(hk:k<=s.length)(h:(s.take k).all cj=true):0<=gI (s.take k)/\gI (s.take k)<1000000000:=by
 have:=C6 h;have e:(s.take k).length=k:=by rw[U6];omega
 rw[e]at this;have:(10:Int)^k<=10^9:=by exact_mod_cast Nat.pow_le_pow_right (n:=10) De (show k<=9 by omega)
 omega
def fX(sw:AV)(wr:Bool):ai:=.b [sw,.bool wr]
section
variable {P:Program}(T:eF P) {h A B:af}
include T
set_option maxRecDepth 10000 in
def r189(s:By)(hs:s.length<=2^40):ak P 189 [.str s] h (λv _=>v=.bool (jC s)):=by
 refine .jP 18 T.mix T.c189 ?_;intro ts hlen t0;unfold fn189 gA;refine Rs t0 ?_;refine WL.inv T.mix (λn ts' h'=>∃k:Nat,k<=s.length/\n=s.length-k/\h' =h++[.iter s k]/\(s.take k).all cj=true/\ts'.length=18/\slot ts' 0=.str s/\slot ts' 6=.ptr h.length 0) s.length
  ⟨0,Om,rfl,rfl,rfl,(Sq t0),(Sq t0),(Sq t0)⟩ ?_
 rintro _ ts' _ ⟨k,hk,rfl,rfl,hd,ON,u0,u6⟩;clear hlen t0;have hlen:=ON;by_cases hlt:k<s.length
 ·obtain⟨c,w,Qi,hcw⟩:∃c w,Utf8.decode ⟨⟨s⟩⟩ k=(c,w)/\(c=s[k].toNat/\w=1/\s[k].toNat<128\/128<=c/\128<=s[k].toNat):=by
   by_cases hc:s[k].toNat<128
   ·exact⟨_,_,dec_lt hlt hc,.inl ⟨rfl,rfl,hc⟩⟩
   ·exact z167
  have hall:cj s[k]=false->AV.bool false=AV.bool (jC s):=λhx=>by
   have:s.all cj=false:=by rw[List.all_eq_false];exact⟨s[k],UB hlt,by simp[hx]⟩
   simp only[jC,this,WU]
  by_cases a5:(48:Int)<=c
  ·by_cases a6:(c:Int)<=57
   ·have hc:c=s[k].toNat/\w=1:=Om
    obtain⟨rfl,rfl⟩:=hc;have hy:cj s[k]=true:=dx.2 Om;have d1:decide ((s[k].toNat:Int)<48)=false:=Uh Om;have d2:decide ((57:Int)<(s[k].toNat:Int))=false:=Uh Om
    repeat (first|simp (config:={maxSteps:=1000000}) only[aL,aR,bd,bf,reduceAdd,reduceMul,reduceLeDiff,reduceEqDiff,bj,hlen,UC,UD,u0,u6,dF,hlt,UD,Qi,d1,d2]|simp (config:={maxSteps:=1000000}) (disch:=first|(simp only[Ud,Ui,Ul]<;>omega)|rfl|omega|fail) only[dZ,aL,aR,bd,bf,reduceAdd,reduceMul,reduceLeDiff,reduceEqDiff,bj,hlen,UC,UD,u0,u6,dF,hlt,UD,Qi,d1,d2])
    refine⟨s.length-(k+1),Om,k+1,Om,rfl,rfl,?_,trivial⟩;rw[db hlt,Wj,hd];simp[hy]
   ·have d1:decide ((c:Int)<48)=false:=Uh Om;have d2:decide ((57:Int)<(c:Int))=true:=Uk Om
    repeat (first|simp (config:={maxSteps:=1000000}) only[aL,aR,bd,bf,reduceAdd,reduceMul,reduceLeDiff,reduceEqDiff,bj,hlen,UC,UD,u0,u6,dF,hlt,UD,Qi,d1,d2]|simp (config:={maxSteps:=1000000}) (disch:=first|(simp only[Ud,Ui,Ul]<;>omega)|rfl|omega|fail) only[dZ,aL,aR,bd,bf,reduceAdd,reduceMul,reduceLeDiff,reduceEqDiff,bj,hlen,UC,UD,u0,u6,dF,hlt,UD,Qi,d1,d2])
    exact Ia
  ·have d1:decide ((c:Int)<48)=true:=Uk Om
   repeat (first|simp (config:={maxSteps:=1000000}) only[aL,aR,bd,bf,reduceAdd,reduceMul,reduceLeDiff,reduceEqDiff,bj,hlen,UC,UD,u0,u6,dF,hlt,UD,Qi,d1]|simp (config:={maxSteps:=1000000}) (disch:=first|(simp only[Ud,Ui,Ul]<;>omega)|rfl|omega|fail) only[dZ,aL,aR,bd,bf,reduceAdd,reduceMul,reduceLeDiff,reduceEqDiff,bj,hlen,UC,UD,u0,u6,dF,hlt,UD,Qi,d1])
   exact Ia
 ·have ek:k=s.length:=Om
  rw[ek,UU]at hd
  repeat (first|simp (config:={maxSteps:=1000000}) only[aL,aR,bd,bf,reduceAdd,reduceMul,reduceLeDiff,reduceEqDiff,bj,hlen,UC,UD,u0,u6,dF,hlt,UC]|simp (config:={maxSteps:=1000000}) (disch:=first|(simp only[Ud,Ui,Ul]<;>omega)|rfl|omega|fail) only[dZ,aL,aR,bd,bf,reduceAdd,reduceMul,reduceLeDiff,reduceEqDiff,bj,hlen,UC,UD,u0,u6,dF,hlt,UC])
  simp only[jC,hd,Bool.and_true,decide_not]
omit T in
theorem yD{s}:bQ s=(jC s&&decide (s.length<=9) && !(decide (1<s.length)&&decide (s.head? =some 48))):=by
 unfold bQ jC;cases s with
 |nil=>rfl
 |cons x r=>cases (x::r).all cj<;>cases decide ((x::r).length<=9)<;>simp
set_option maxRecDepth 10000 in
def r190(Z:nJ P)(s:By)(hs:s.length<=2^40):ak P 190 [.str s] h (λv _=>v=.dt [.i (cT s),.bool (bQ s)]):=by
 refine .jP 30 T.mix T.c190 ?_;intro ts hlen t0;unfold fn190 gA;refine Rs t0 ?_;refine WF.ce T.c189 (r189 T s hs) λg=>?_
 have bad:bQ s=false->AV.dt [.i 0,.bool false]=AV.dt [.i (cT s),.bool (bQ s)]:=λhb=>by unfold cT;rw[hb];rfl
 have e0:=yD (s:=s);cases hd:jC s with
 |false=>
  rw[hd]at e0;refine Rs (A3 t0 @hd @UF) ?_;exact bad (by rw[e0];rfl)
 |true=>
  rw[hd]at e0;have OR:=hd;unfold jC at OR;simp only[UH,Vs,VV]at OR;by_cases h9:9<s.length
  ·have d9:decide ((9:Int)<s.length)=true:=Uk Om;have q9:decide (s.length<=9)=false:=Uh Om;rw[q9]at e0;refine Rs (A4 t0 @hd @UA @d9) ?_;exact bad (by rw[e0];rfl)
  ·have d9:decide ((9:Int)<s.length)=false:=Uh Om;have q9:decide (s.length<=9)=true:=Uk Om;rw[q9]at e0;obtain⟨c,r,rfl⟩:∃c r,s=c::r:=by cases s with|nil=>exact absurd rfl OR.1|cons c r=>exact⟨c,r,rfl⟩
   by_cases h1:1<(c::r).length
   ·have d1:decide ((1:Int)<((c::r).length:Int))=true:=Uk Om;have q1:decide (1<(c::r).length)=true:=Uk h1;rw[q1]at e0;by_cases h2:c=48
    ·have d2:decide ((c.toNat:Int)=48)=true:=by rw[h2];rfl
     have q2:decide ((c::r).head? =some 48)=true:=by rw[h2];rfl
     rw[q2]at e0;refine Rs (A7 t0 @hd @UA @d9 @d1 @pK @d2) ?_;exact bad (by rw[e0];rfl)
    ·have d2:decide ((c.toNat:Int)=48)=false:=Uh λe=>h2 (V9.1 (by simpa using (by omega:c.toNat=48)))
     have q2:decide ((c::r).head? =some 48)=false:=Uh (by simp[h2]);rw[q2]at e0;have e1:bQ (c::r)=true:=by rw[e0];rfl
     refine Rs (A7 t0 @hd @UA @d9 @d1 @pK @d2) ?_;exact MU
   ·have d1:decide ((1:Int)<((c::r).length:Int))=false:=Uh Om;have q1:decide (1<(c::r).length)=false:=Uh h1;rw[q1]at e0;have e1:bQ (c::r)=true:=by rw[e0];rfl
    refine Rs (A5 t0 @hd @UA @d9 @d1) ?_;exact MU
set_option maxRecDepth 10000 in
def Gm{sw ws wr}(hs:aB A sw 1 (ws.map al)):
  c9 P 207 [.ptr A.length 0] (A++[fX sw wr]++B) (λv h'=>∃sw',v=.str (aW ws wr).1/\h' =A++[fX sw' (aW ws wr).2.2]++B/\aB A sw' 1 ((aW ws wr).2.1.map al)):=by
 refine .of T.mix T.c207 ?_;obtain⟨ts,Ol⟩:∃ts,ts=aQ 40 [.ptr A.length 0]:=⟨_,rfl⟩;have hlen:ts.length=40:=by rw[Ol];rfl
 have t0:slot ts 0=.ptr A.length 0:=by rw[Ol];rfl
 unfold fn207 gA;show WC P cB _ [] (aQ 40 [.ptr A.length 0]) (A++[fX sw wr]++B) _;rw[<-Ol];clear Ol;unfold fX;have c0:=hs.one;have hsE:∀{k:af},aB (A++k) sw 1 (ws.map al):=λ{k}=>hs.ext ⟨k,rfl⟩
 cases ws with
 |nil=>
  have d0:decide ((([] :List (By)).length:Int)=0)=true:=rfl;refine Rs (A4 t0 hs.aS @d0 @c0) ?_;exact⟨.ah,by rw[aW];exact⟨rfl,rfl,aB.nil⟩⟩
 |cons w r=>
  have d0:decide (((w::r).length:Int)=0)=false:=Uh (by simp;omega);have ix:=hs.oB (kk:=.i64) Si;have ld:∀{k:af},Ext A k->aq none (eO sw 1 0) (λb=>k[b]?)=some (.str w,.ar):=λ{k} e=>hs.kK (i:=0) Si rfl e
  by_cases hw:w=[]
  ·have d1:decide (w=[])=true:=Uk hw;refine Rs (A7 t0 hs.aS @d0 ix @ld @d1 @c0) ?_;exact⟨.ah,by rw[aW,Ut hw];exact⟨rfl,rfl,aB.nil⟩⟩
  ·have d1:decide (w=[])=false:=Uh hw;have Qe:gx (some (AV.i 1)) none (w::r).length=some (1,(w::r).length):=mE (k:=1) Si;obtain⟨s',es',On⟩:=hs.Iw Qe;have et:List.take ((w::r).length-1) (List.drop 1 (w::r))=r:=Si
   rw[et]at On;refine Rs (A9 t0 hs.aS @d0 ix @ld @d1 @c0 @es' On.one) ?_;exact⟨s',by rw[aW,Ur hw];exact⟨rfl,rfl,On⟩⟩
set_option maxRecDepth 10000 in
def LN(Z:nJ P){sw ws wr}(hs:aB A sw 1 (ws.map al))(hl:∀x∈ws,x.length<=2^40):
  c9 P 208 [.ptr A.length 0] (A++[fX sw wr]++B) (λv h'=>∃(sw':AV) (g:af),v=.i (cT (aW ws wr).1)/\h' =A++[fX sw' ((aW ws wr).2.2 || !bQ (aW ws wr).1)]++(B++g)/\aB A sw' 1 ((aW ws wr).2.1.map al)):=by
 refine .of T.mix T.c208 ?_;obtain⟨ts,Ol⟩:∃ts,ts=aQ 23 [.ptr A.length 0]:=⟨_,rfl⟩;have hlen:ts.length=23:=by rw[Ol];rfl
 have t0:slot ts 0=.ptr A.length 0:=by rw[Ol];rfl
 unfold fn208 gA;show WC P cB _ [] (aQ 23 [.ptr A.length 0]) (A++[fX sw wr]++B) _;rw[<-Ol];clear Ol;refine Rs t0 ?_;refine WF.gen T.c207 (Gm T hs) ?_;rintro _ _ ⟨sw',rfl,rfl,On⟩;have hwl:(aW ws wr).1.length<=2^40:=by
  cases ws with
  |nil=>simp[aW]
  |cons w r=>
   by_cases hw:w=[]
   ·rw[aW,Ut hw];simp
   ·rw[aW,Ur hw];exact hl w Si
 generalize (aW ws wr).1=w at hwl ⊢;generalize (aW ws wr).2.2=wr' at On ⊢;generalize (aW ws wr).2.1=ws' at On ⊢;refine Rs t0 ?_;refine WF.ce T.c190 (r190 T Z w hwl) λg=>?_
 unfold fX;have c0:=On.one;cases wr' with
 |true=>
  refine Rs (A3 t0 @c0 @W6) ?_;exact⟨sw',g,by rw[Uf],On⟩
 |false=>
  refine Rs (A3 t0 @c0 @Wr) ?_;exact⟨sw',g,by rw[Uf],On⟩
end
set_option maxRecDepth 10000
section
variable {P:Program}(T:eF P) {h:af}
include T
def r20(n lo hi:Int):ak P 20 [.i n,.i lo,.i hi] h (λv _=>v=.bool (decide (bn n lo hi≠0))):=by
 refine .uP 15 T.mix T.c20 ?_;intro ts hlen t0 t1 t2;unfold fn20 gA;by_cases h1:n<lo
 ·have q1:decide (n<lo)=true:=Uk h1;refine Rs (A4 t0 t1 t2 q1) ?_;rw[bn,Ut (.inl h1)];rfl
 ·have q1:decide (n<lo)=false:=Uh h1;by_cases h2:hi<n
  ·have q2:decide (hi<n)=true:=Uk h2;refine Rs (A5 t0 t1 t2 q1 q2) ?_;rw[bn,Ut (.inr h2)];rfl
  ·have q2:decide (hi<n)=false:=Uh h2;refine Rs (A5 t0 t1 t2 q1 q2) ?_;rw[bn,Ur Om];rfl
def r25{L M:List (By)}{s t:AV}(hs:aB h s 1 (L.map al))(ht:aB h t 1 (M.map al))(hl:L.length<2^40)(hm:M.length<2^40):ak P 25 [s,t] h (λv _=>v=.bool (decide (L=M))):=by
 refine .eQ 26 T.mix T.c25 ?_;intro ts hlen t0 t1;unfold fn25 gA;by_cases h1:L.length=M.length
 case neg=>
  exact Nk
 have q:decide ((L.length:Int)≠M.length)=false:=Uh Om;refine Rs (A5 t0 t1 hs.aS ht.aS q) ?_;refine WL.inv T.mix (λm ts h'=>∃k:Nat,k<=L.length/\m=L.length-k/\h' =h/\L.take k=M.take k/\ts.length=26/\slot ts 0=s/\slot ts 1=t/\slot ts 5=.i k) L.length
  ⟨0,Om,rfl,rfl,rfl,Sn,(Sq t0),(Sq t1),iR⟩ ?_
 rintro _ ts h' ⟨k,hk,rfl,rfl,hi,hlen,t0,t1,t5⟩;by_cases hlt:k<L.length
 ·have O3:k<M.length:=Om
  have e3:=gh hlt;have ix:=hs.fx (kk:=.i64) hlt;have iy:=ht.fx (kk:=.i64) O3;have ld:∀{kk:af},Ext h' kk->_:=λ{kk} e=>hs.kK (i:=k) (x:=.str L[k]) (k:=kk) hlt rfl e
  have ly:∀{kk:af},Ext h' kk->_:=λ{kk} e=>ht.kK (i:=k) (x:=.str M[k]) (k:=kk) O3 rfl e
  exact Ny
 ·exact z59
def r62{L M:List (Int)}{s t:AV}(hs:aB h s 1 (L.map aE))(ht:aB h t 1 (M.map aE))(hl:L.length<2^40)(hm:M.length<2^40):ak P 62 [s,t] h (λv _=>v=.bool (decide (L=M))):=by
 refine .eQ 26 T.mix T.c62 ?_;intro ts hlen t0 t1;unfold fn62 gA;by_cases h1:L.length=M.length
 case neg=>
  exact Nk
 have q:decide ((L.length:Int)≠M.length)=false:=Uh Om;refine Rs (A5 t0 t1 hs.aS ht.aS q) ?_;refine WL.inv T.mix (λm ts h'=>∃k:Nat,k<=L.length/\m=L.length-k/\h' =h/\L.take k=M.take k/\ts.length=26/\slot ts 0=s/\slot ts 1=t/\slot ts 5=.i k) L.length
  ⟨0,Om,rfl,rfl,rfl,Sn,(Sq t0),(Sq t1),iR⟩ ?_
 rintro _ ts h' ⟨k,hk,rfl,rfl,hi,hlen,t0,t1,t5⟩;by_cases hlt:k<L.length
 ·have O3:k<M.length:=Om
  have e3:=gh hlt;have ix:=hs.fx (kk:=.i64) hlt;have iy:=ht.fx (kk:=.i64) O3;have ld:∀{kk:af},Ext h' kk->_:=λ{kk} e=>hs.kK (i:=k) (x:=.i L[k]) (k:=kk) hlt rfl e
  have ly:∀{kk:af},Ext h' kk->_:=λ{kk} e=>ht.kK (i:=k) (x:=.i M[k]) (k:=kk) O3 rfl e
  exact Ny
 ·exact z59
end
def NY(r:Nat×Bool):UInt8:=
 match r.1,r.2 with
 | 0,true=>108
 | 1,true=>116
 | 2,true=>115
 | 3,true=>109
 | 4,true=>106
 |_,true=>112
 | 0,false=>76
 | 1,false=>84
 | 2,false=>83
 | 3,false=>77
 | 4,false=>74
 |_,false=>80
def y5(d:Kd):By:=(aC d).map NY
def w9(k:By):List AV:=
 match eC k with
 |none=>[.str [],.i 0,.bool false]
 |some d=>[.str (y5 d),.i (a8 d:Int),.bool true]
def ue(d:Kd):decide (bw d=[108,105,110,101])=decide (d=.line):=by cases d<;>rfl
def ua(d:Kd):decide (bw d=[116,97,112,101])=decide (d=.tape):=by cases d<;>rfl
def ub(d:Kd):decide (bw d=[115,104,111,116])=decide (d=.iY):=by cases d<;>rfl
def ug(d:Kd):decide (bw d=[99,111,112,121])=decide (d=.copy):=by cases d<;>rfl
def pN(d:Kd):decide (bw d=[97,99,99,101,112,116])=decide (d=.accept):=by cases d<;>rfl
def pM(d:Kd):decide (bw d=[115,111,117,114,99,101])=decide (d=.source):=by cases d<;>rfl
def ud(d:Kd):decide (bw d=[109,111,100,117,108,101])=decide (d=.iP):=by cases d<;>rfl
def qY(d:Kd):decide (bw d=[109,101,114,103,101])=decide (d=.merge):=by cases d<;>rfl
def w7(d:Kd):decide (bw d=[114,117,110])=decide (d=.run):=by cases d<;>rfl
def tZ(d:Kd):decide (bw d=[116,105,108,101])=decide (d=.iW):=by cases d<;>rfl
def uf(d:Kd):decide (bw d=[102,97,105,108])=decide (d=.fail):=by cases d<;>rfl
def uc(d:Kd):decide (bw d=[112,105,99,116,117,114,101])=decide (d=.jd):=by cases d<;>rfl
def w8(d:Kd):decide (bw d=[114,101,108,101,97,115,101])=decide (d=.rel):=by cases d<;>rfl
def tY(d:Kd):decide (bw d=[117,110,100,111])=decide (d=.fW):=by cases d<;>rfl
def LL:type_of% (Ec @ue @ua @ub @ug @pN @pM @ud @qY @w7 @tZ @uf @uc @w8 @tY):=Ec @ue @ua @ub @ug @pN @pM @ud @qY @w7 @tZ @uf @uc @w8 @tY
section
variable {P:Program}(T:eF P) {h:af}
include T
def r101(k:By):ak P 101 [.str k] h (λv _=>v=.agg (w9 k)):=by
 refine .jP 47 T.mix T.c101 ?_;intro ts hlen t0;unfold fn101 gA;unfold w9;cases hk:eC k with
 |none=>
  have Tr:decide (k=[108,105,110,101])=false:=Uh (c7 hk .line);have Tn:decide (k=[116,97,112,101])=false:=Uh (c7 hk .tape);have To:decide (k=[115,104,111,116])=false:=Uh (c7 hk .iY);have Tt:decide (k=[99,111,112,121])=false:=Uh (c7 hk .copy);have Rk:decide (k=[97,99,99,101,112,116])=false:=Uh (c7 hk .accept);have Rj:decide (k=[115,111,117,114,99,101])=false:=Uh (c7 hk .source);have Tq:decide (k=[109,111,100,117,108,101])=false:=Uh (c7 hk .iP);have R9:decide (k=[109,101,114,103,101])=false:=Uh (c7 hk .merge);have q_run:decide (k=[114,117,110])=false:=Uh (c7 hk .run);have Tm:decide (k=[116,105,108,101])=false:=Uh (c7 hk .iW)
  have Ts:decide (k=[102,97,105,108])=false:=Uh (c7 hk .fail);have Tp:decide (k=[112,105,99,116,117,114,101])=false:=Uh (c7 hk .jd);have q_rel:decide (k=[114,101,108,101,97,115,101])=false:=Uh (c7 hk .rel);have Tl:decide (k=[117,110,100,111])=false:=Uh (c7 hk .fW);exact Rs (Kx t0 @Tr @Tn @To @Tt @Rk @Rj @Tq @R9 @q_run @Tm @Ts @Tp @q_rel @Tl) Tv
 |some d=>
  have P1:=fj hk;subst P1;clear hk;cases d
  all_goals
   refine N8 (A4 t0 @LL @US @Va) ?_;rfl
def r39{x}(o:aZ h x)(hl:x.ev.names.length<=2^40/\x.ev.ba.length<=2^40)(hn:∀n∈x.ev.names,n.length<2^63):ak P 39 [.agg x.row] h (λv _=>v=.i (dK x.ev)):=by
 refine .jP 59 T.mix T.c39 ?_;intro ts hlen t0;unfold fn39 gA;have Oj:=@aZ.box _ _ o;refine Rs (A3 t0 @Oj @gF) ?_;refine WF.ce T.c20 (r20 T _ _ _) λg1=>?_
 by_cases h0:bn x.ev.num 1 1000=0
 case neg=>
  have e0:decide (bn x.ev.num 1 1000≠0)=true:=Uk h0;refine Rs (A2 t0 e0) ?_;rw[dK,Ut h0]
 have e0:decide (bn x.ev.num 1 1000≠0)=false:=Uh (λz=>z h0);refine Rs (A3 t0 e0 @fH) ?_;refine WF.ce T.c101 (r101 T _) λg2=>?_
 unfold w9;rw[dK,Ur (λz=>z h0)];cases hd:eC x.ev.kind with
 |none=>
  exact Rs (A2 t0 @UF) Tv
 |some d=>
  have Po:(y5 d).length=(aC d).length:=by rw[y5,Uv]
  have hr3:(aC d).length<=3/\a8 d<=3:=by cases d<;>decide
  refine Rs (A7 t0 @UA @bD @bY o.n.aS o.v.aS @Po) ?_;by_cases h1:x.ev.names.length=(aC d).length
  case neg=>
   have q:decide ((x.ev.names.length:Int)≠(aC d).length)=true:=Uk Om;refine Rs (A2 t0 q) ?_;rw[Ut (.inl h1)]
  have q:decide ((x.ev.names.length:Int)≠(aC d).length)=false:=Uh Om;by_cases h2:x.ev.ba.length=a8 d
  case neg=>
   have q2:decide ((x.ev.ba.length:Int)≠a8 d)=true:=Uk Om;refine Rs (A5 t0 @bY q q2 o.v.aS) ?_;rw[Ut (.inr h2)]
  have q2:decide ((x.ev.ba.length:Int)≠a8 d)=false:=Uh Om;refine Rs (A5 t0 @bY q q2 o.v.aS) ?_;rw[Ur Om];obtain⟨H,hH⟩:∃H,H=h++[ai.b x.row]++g1++g2++[ai.b [AV.str (y5 d),.i (a8 d:Int),.bool true]]:=⟨_,rfl⟩;obtain⟨fb,S3⟩:∃fb,fb=(h++[ai.b x.row]++g1++g2).length:=⟨_,rfl⟩;have hxH:Ext h H:=by rw[hH];exact Xx
  have me:H[h.length]? =some (.b x.row):=by rw[hH];exact(show Ext (h++[ai.b x.row]) _ from Xx).some bO
  have mf:H[fb]? =some (.b [AV.str (y5 d),.i (a8 d:Int),.bool true]):=by rw[hH,S3];exact bO
  rw[<-hH,<-S3];refine WL.inv T.mix (λm ts h'=>∃k:Nat,k<=x.ev.names.length/\m=x.ev.names.length-k/\Ext H h'/\x.ev.names.any (λs=>!dG s)=(x.ev.names.drop k).any (λs=>!dG s)/\ts.length=59/\slot ts 1=.ptr h.length 0/\slot ts 3=.ptr fb 0/\slot ts 4=.i k) x.ev.names.length
   ⟨0,Om,rfl,.refl _,rfl,Sn,Sw,Sw,iR⟩ ?_
  rintro _ ts h' ⟨k,hk,rfl,hx,hi,hlen,t1,t3,t4⟩;have le:∀{kk n a},Ext h' kk->aq n (.ptr h.length a) (λz=>kk[z]?)=dI n a (.b x.row):=λ{_ _ _} e=>az ((hx.trans e).some me)
  have lf:∀{kk n a},Ext h' kk->aq n (.ptr fb a) (λz=>kk[z]?)=dI n a (.b [AV.str (y5 d),.i (a8 d:Int),.bool true]):=λ{_ _ _} e=>az ((hx.trans e).some mf)
  by_cases hlt:k<x.ev.names.length
  ·have e3:decide ((k:Int)<(aC d).length)=true:=Uk Om;have e5:=wrapN (n:=k) Om;have ix:=o.n.fx (kk:=.i64) hlt;have ld:∀{kk:af},Ext h' kk->aq none (eO x.sn 1 k) (λb=>kk[b]?)=some (.str x.ev.names[k],.ar):=λ{kk} e=>o.n.kK hlt rfl ((hxH.trans hx).trans e)
   have Sv:x.ev.names.drop k=x.ev.names[k]::x.ev.names.drop (k+1):=Si
   rw[Sv,List.any_cons]at hi;have hnk:=hn x.ev.names[k] (UB _);obtain⟨y,hy⟩:∃y,y=x.ev.names[k]:=⟨_,rfl⟩;rw[<-hy]at ld hi hnk;refine Rs (uO t1 t3 t4 @le @lf @Po e3 @bD ix @ld) ?_;refine WF.ce T.c102 (r102 T y hnk) λg3=>?_
   cases hny:dG y with
   |false=>
    rw[hny]at hi;have hi:x.ev.names.any (λs=>!dG s)=true:=hi;refine Rs (A4 t1 t3 t4 @UF) ?_;refine⟨(hxH.trans hx).trans Xx,?_⟩;rw[Ut hi]
   |true=>
    rw[hny]at hi;refine Rs (A5 t1 t3 t4 @UA e5) ?_;exact HE
  ·have e3:decide ((k:Int)<(aC d).length)=false:=Uh Om;have e4:k=x.ev.names.length:=Om
   have hi0:x.ev.names.any (λs=>!dG s)=false:=by rw[hi,e4,Vr];rfl
   rw[Ur (by rw[hi0];decide)];refine Rs (A6 t1 t3 t4 @lf @Po e3) ?_;refine WL.inv T.mix (λm ts SD=>∃k:Nat,k<=x.ev.ba.length/\m=x.ev.ba.length-k/\Ext H SD/\x.ev.ba.any (λn=>decide (bn n 0 999999999≠0))=(x.ev.ba.drop k).any (λn=>decide (bn n 0 999999999≠0))/\ts.length=59/\slot ts 1=.ptr h.length 0/\slot ts 3=.ptr fb 0/\slot ts 5=.i k) x.ev.ba.length
    ⟨0,Om,rfl,hx,rfl,Sn,(Sq t1),(Sq t3),iR⟩ ?_
   clear t1 t3 t4 hlen hlt hi e3 e4 hk le lf hx;clear ts k h';rintro _ ts h' ⟨k,hk,rfl,hx,hi,hlen,t1,t3,t5⟩;have le:∀{kk n a},Ext h' kk->aq n (.ptr h.length a) (λz=>kk[z]?)=dI n a (.b x.row):=λ{_ _ _} e=>az ((hx.trans e).some me)
   have lf:∀{kk n a},Ext h' kk->aq n (.ptr fb a) (λz=>kk[z]?)=dI n a (.b [AV.str (y5 d),.i (a8 d:Int),.bool true]):=λ{_ _ _} e=>az ((hx.trans e).some mf)
   by_cases hlt:k<x.ev.ba.length
   ·have e3:decide ((k:Int)<a8 d)=true:=Uk Om;have e5:=wrapN (n:=k) Om;have ix:=o.v.fx (kk:=.i64) hlt;have ld:∀{kk:af},Ext h' kk->aq none (eO x.sv 1 k) (λb=>kk[b]?)=some (.i x.ev.ba[k],.ar):=λ{kk} e=>o.v.kK hlt rfl ((hxH.trans hx).trans e)
    have Sv:x.ev.ba.drop k=x.ev.ba[k]::x.ev.ba.drop (k+1):=Si
    rw[Sv,List.any_cons]at hi;obtain⟨y,hy⟩:∃y,y=x.ev.ba[k]:=⟨_,rfl⟩;rw[<-hy]at ld hi;refine Rs (A9 t1 t3 t5 @le @lf e3 @bY ix @ld) ?_;refine WF.ce T.c20 (r20 T _ _ _) λg3=>?_
    cases hny:decide (bn y 0 999999999≠0)with
    |true=>
     rw[hny]at hi;have hi:x.ev.ba.any (λn=>decide (bn n 0 999999999≠0))=true:=hi;refine Rs (A3 t1 t3 t5) ?_;refine⟨(hxH.trans hx).trans Xx,?_⟩;rw[Ut hi]
    |false=>
     rw[hny]at hi;refine Rs (A4 t1 t3 t5 e5) ?_;exact HE
   ·have e3:decide ((k:Int)<a8 d)=false:=Uh Om;have e4:k=x.ev.ba.length:=Om
    have hi0:x.ev.ba.any (λn=>decide (bn n 0 999999999≠0))=false:=by rw[hi,e4,Vr];rfl
    rw[Ur (by rw[hi0];decide)];by_cases ht:x.ev.text=[]
    ·have q:decide (x.ev.text≠[])=false:=Uh (λz=>z ht);refine Rs (A8 t1 t3 t5 @lf @le e3 @vS q) ?_;refine⟨hxH.trans hx,?_⟩;rw[Ur (λz=>z ht)]
    ·have q:decide (x.ev.text≠[])=true:=Uk ht;refine Rs (A8 t1 t3 t5 @lf @le e3 @vS q) ?_;refine⟨hxH.trans hx,?_⟩;rw[Ut ht]
end
section
variable {P:Program}(T:eF P) {h:af}
include T
end
section
variable {P:Program}(T:eF P) {h:af}
include T
end
section
variable {P:Program}(T:eF P) {h:af}
include T
end
end Go.Abs
namespace Go.Abs
section
variable {P:Program}{ro:Option Nat->Prop}{ks:List Kt}{ts:TS}{Q:Ex->TS->af->Prop}
def WR.GY{h s y es cs ys h0 w d l}
  (hs:Fr h0.length h s es cs) (hy:aB h y es ys) (hes:0<es) (dO:(cs.length+ys.length)*w<=2^46) (he:Ext h0 h)
  (K:∀s' g,Fr h0.length (h0++g) s' es (cs++ys)->(∀b,b<h.length->sB s≠some b->(h0++g)[b]? =h[b]?)->h.length<=(h0++g).length->WP P ro l ks (put ts d s') (h0++g) Q):
  WR P ro (nE es w s y (λb=>h[b]?) h.length) false d l ks ts h Q:=by
 by_cases hn:ys.length=0
 ·have hys:ys=[]:=Vd.1 hn;subst hys;obtain⟨g,rfl⟩:=he;rw[UE]at K;have e:nE es w s y (λb=>(h0++g)[b]?) (h0++g).length=some (s,.ar):=by
   simp only[nE,hy.eE];cases hs with
   |nil=>simp
   |mk hN hb h'=>simp
  rw[e,gV];exact K s g hs (λ_ _ _=>rfl) (Uq _)
 ·refine WR.gj hs hy hes Om dO he λg h1 h2 h3=>K _ g h2 (λb hb hne=>h3 b hb λb0 o n e TH hbb=>hne (by rw[TH,hbb];rfl)) Om
end
set_option maxRecDepth 10000
attribute [local irreducible] WP WC WE WB WR WF WL WG fo WM
section
variable {P:Program}(T:eF P) {h:af}
include T
end
def sV{s c}:gD (s++[c])=(339*gD s+(c.toNat:Int)).tmod 9999749:=by simp[gD]
theorem wB:∀(s:By) (a:Int),0<=a/\a<9999749->0<=s.foldl (λx c=>(339*x+(c.toNat:Int)).tmod 9999749) a/\s.foldl (λx c=>(339*x+(c.toNat:Int)).tmod 9999749) a<9999749
 |[],_,h=>h
 |c::s,a,h=>by
  rw[W9];exact wB s _ ⟨Int.tmod_nonneg _ Om,Int.tmod_lt_of_pos _ Om⟩
def lI(s:By):0<=gD s/\gD s<9999749:=wB s 1 Om
def rH(s:By):(dS (gD s)).length<=7:=by
 have:=lI s;rw[gJ];exact jB (k:=6) Om
def lH(s:By):(gC s).length=7:=by
 have:=rH s;unfold gC;rw[Ud,Vn];omega
theorem pJ{c}:∀{xs},Lib.join xs [c]=ga c xs
 |[]=>rfl
 |[x]=>Lib.join_one x [c]
 |x::y::r=>by
  rw[iu Si,<-pJ (xs:=y::r),Lib.join_cons,Lib.join_cons];simp[Lib.joinTail]
def AJ:∀{xs},Lib.join xs []=xs.flatten
 |[]=>rfl
 |x::r=>by rw[Lib.join_cons];simp[Lib.joinTail]
section
variable {P:Program}(T:eF P) (Z:nJ P) {h:af}
include T Z
set_option maxRecDepth 10000 in
def r187(s:By)(hs:s.length<=2^40)(w:Pw h):ak P 187 [.str s] h (λv _=>v=.str (gC s)):=by
 refine .jP 28 T.mix T.c187 ?_;intro ts hlen t0;unfold fn187 gA;refine Rs t0 ?_;refine WL.inv T.mix (λn ts' h'=>∃k:Nat,k<=s.length/\n=s.length-k/\h' =h/\ts'.length=28/\slot ts' 0=.str s/\slot ts' 3=.i (gD (s.take k))/\slot ts' 7=.i s.length/\slot ts' 8=.i k) s.length
  ⟨0,Om,rfl,rfl,(Sq t0),(Sq t0),iR,(Sq t0),iR⟩ ?_
 rintro _ ts' _ ⟨k,hk,rfl,rfl,ON,u0,u3,u7,u8⟩;clear hlen t0;have hlen:=ON;by_cases hlt:k<s.length
 ·have e3:=gh hlt;have hb:=lI (s.take k);have hcn:=UInt8.toNat_lt s[k];have w1:IntKind.i64.wrap (339*gD (s.take k))=339*gD (s.take k):=aH Om Om;have w2:IntKind.i64.wrap (s[k].toNat:Int)=(s[k].toNat:Int):=aH Om Om;have w3:IntKind.i64.wrap (339*gD (s.take k)+(s[k].toNat:Int))=339*gD (s.take k)+(s[k].toNat:Int):=aH Om Om;have er:=oE (k:=.i64) (a:=339*gD (s.take k)+(s[k].toNat:Int)) (b:=9999749) De;rw[<-sV,<-db hlt]at er
  repeat (first|simp (config:={maxSteps:=1000000}) only[aL,aR,bd,bf,reduceAdd,reduceMul,reduceLeDiff,reduceEqDiff,bj,hlen,UC,UD,u0,u3,u7,u8,e3,cA hlt,w1,w2,w3,er,wrapN (show k+1<2^63 by omega)]|simp (config:={maxSteps:=1000000}) (disch:=first|(simp only[Ud,Ui,Ul]<;>omega)|rfl|omega|fail) only[dZ,aL,aR,bd,bf,reduceAdd,reduceMul,reduceLeDiff,reduceEqDiff,bj,hlen,UC,UD,u0,u3,u7,u8,e3,cA hlt,w1,w2,w3,er,wrapN (show k+1<2^63 by omega)])
  exact HH
 ·have e3:=gG hlt;have ek:k=s.length:=Om
  rw[ek,UU]at u3;have hb:=lI s;have hl:=rH s;refine Rs (A5 @u0 @u3 @u7 @u8 e3) ?_;refine WF.ce T.c113 (Z.itoa Om Om w) λg=>?_
  rw[fQ hb.1];have w1:IntKind.i64.wrap (7-((dS (gD s)).length:Int))=((7-(dS (gD s)).length:Nat):Int):=by rw[aH Om Om];omega
  refine Rs (A2 @u0 @w1) ?_;refine WF.ce T.c252 (Z.rep Om) λg2=>?_
  refine Rs (A2 @u0 (dL (show(List.replicate (7-(dS (gD s)).length) (48:UInt8)).length+(dS (gD s)).length<2^62 by rw[Vn];omega))) ?_;rfl
def wq{x}(h0:0<=x)(h1:x<2^62)(w:Pw h):aV P (.func (.func 113) [] []) [.i x] h (λv _=>v=.str (dS x)):=by
 rw[<-fQ h0];exact aV.of (a:=[]) (c:=[]) T.c113 (Z.itoa Om Om w)
end
structure Ke(e:fp):Prop where
 num:0<=e.num/\e.num<2^62
 ba:∀x∈e.ba,0<=x/\x<2^62
 nl:e.names.length<=2^30
 vl:e.ba.length<=2^30
 bl:(cX e).length<=2^38
section
variable {P:Program}(T:eF P) (Z:nJ P) {h:af}
include T Z
set_option maxRecDepth 10000 in
def r186{x}(ox:aZ h x)(en:Ke x.ev)(w:Pw h):ak P 186 [.agg x.row] h (λv _=>v=.str (cX x.ev)):=by
 refine .jP 19 T.mix T.c186 ?_;intro ts hlen t0;unfold fn186 gA;have Oj:=@aZ.box _ _ ox;have Q9:=en.nl;have Pc:=en.vl;refine Rs (A5 t0 @Oj @gF @fH @bD) ?_;refine WF.ce T.c113 (Z.itoa (by have:=en.num;omega) (by have:=en.num;omega) (w.ext Xx)) λg1=>?_
 rw[fQ en.num.1];refine Rs (A4 t0 @gF @fH @bD) ?_;have hF:=Fr.push (N:=h.length) (h:=h++[ai.b x.row]++g1) (es:=1) (by simp only[Ud];omega) (([dS x.ev.num,x.ev.kind] :List (By)).map al) (by simp[al]);refine WR.GY (h0:=h) (cs:=([dS x.ev.num,x.ev.kind] :List (By)).map al) (ys:=x.ev.names.map al) hF (ox.n.ext Xx) De (by simp;omega) Xx ?_;intro s' g hfr hkp hle;rw[<-Up]at hfr;have O7:(h++g)[h.length]? =some (.b x.row):=by
  rw[hkp _ (by simp only[Ud,Us];omega) (λe=>by have e2:(h++[ai.b x.row]++g1).length=h.length:=Vc e;simp only[Ud,Us]at e2;omega)];simp
 have lb:∀{k:af}{n':Option Nat}{a:Nat},Ext (h++g) k->aq n' (.ptr h.length a) (λz=>k[z]?)=dI n' a (.b x.row):=λe=>az (e.some O7)
 refine Rs (A3 t0 @lb @bY) ?_;refine WF.res T.c199 (r199 T (ox.v.ext Xx) Om dS (λy hy k ek=>wq T Z (en.ba y hy).1 (en.ba y hy).2 (w.ext (Ext.trans Xx ek)))) ?_;intro v g2 hv;refine Rs t0 ?_;refine WR.GY (h0:=h) (hfr.app g2) hv.aM De (by simp;omega) Xx ?_;intro s2 g3 hfr2 hkp2 Qz;rw[<-Up]at hfr2;refine Rs t0 ?_;have hbl:=en.bl;refine WF.ce T.c114 (Z.join hfr2.aM ⟨by rw[pJ];show(cX x.ev).length<=_;omega,by simp;omega⟩) λg4=>?_
 refine Rs t0 ?_;rw[pJ];rfl
set_option maxRecDepth 10000 in
def r97{x}(ox:aZ h x)(en:Ke x.ev)(w:Pw h):ak P 97 [.agg x.row] h (λv _=>v=.str (fN x.ev)):=by
 refine .jP 12 T.mix T.c97 ?_;intro ts hlen t0;unfold fn97 gA;have Oj:=@aZ.box _ _ ox;have hbl:=en.bl;refine Rs (A3 t0 @Oj @bW) ?_;refine WF.ce T.c186 (r186 T Z (ox.ext Xx) en (w.ext Xx)) λg=>?_
 refine Rs (A2 t0 (dL (show(cX x.ev).length+([35] :By).length<2^62 by simp;omega))) ?_;refine WF.ce T.c187 (r187 T Z _ Om (w.ext Xx)) λg2=>?_
 have h7:=lH (cX x.ev);refine Rs (A3 t0 (dL (show(cX x.ev++[35]).length+(gC (cX x.ev)).length<2^62 by simp;omega)) (dL (show(cX x.ev++[35]++gC (cX x.ev)).length+([10] :By).length<2^62 by simp;omega))) ?_;rfl
theorem Af{e}:(fN e).length=(cX e).length+9:=by
 have:=lH (cX e);unfold fN;simp;omega
end
structure NL(B W0:af)(b:Nat)(K:Nat->Prop)(W:af)(U:RV):Prop where
 bk:bG B.length W b U
 ex:Ext B W
 ln:W0.length<=W.length
 kp:∀i,K i->W[i]? =W0[i]?
 kl:∀i,K i->i<W0.length/\i≠b/\some i∉U.bl
section
variable {B W0 W W2:af}{b:Nat}{K:Nat->Prop}{U:RV}(s:NL B W0 b K W U)
include s
omit s in
omit s in
omit s in
omit s in
omit s in
omit s in
omit s in
end
def NM:List AV:=[.i 0,.ah,.ah,.ah,.ah,.ah,.ah]
section
variable {P:Program}(T:eF P) {h W:af}{ts:TS}{V U:RV}{r:ai}
include T
end
end Go.Abs
namespace Go.Abs
def Oa(X:af)(V:RV)(i:Nat):Prop:=(i<X.length/\some i∉V.bl)\/i=X.length+1\/i=X.length+2
def N9(B X:af)(x:EV)(V:RV)(W:af)(U:RV):Prop:=
 NL B (X++[.b V.row]++[.b x.row]++[.b NM]) X.length (Oa X V) W U
section
variable {B X W:af}{x:EV}{V U:RV}(s:N9 B X x V W U)
include s
end
def WR.Bt{P ro ks ts Q B Y s es w cs z d l}
  (hs:Fr B.length Y s es cs) (hz:z.length=es) (he:Ext B Y) (hes:0<es) (dO:(cs.length+1)*w<=2^46)
  (K:∀(W5:af) (s':AV),Ext B W5->Fr B.length W5 s' es (cs++[z])->(∀i,sB s' =some i->Y.length<i)->s'.one=true->Y.length<=W5.length->(∀i,i<Y.length->sB s≠some i->W5[i]? =Y[i]?)->WP P ro l ks (put ts d s') W5 Q):
  WR P ro (nE es w s (.slice Y.length 0 1 es) (λb=>(Y++[ai.cells z true true])[b]?) (Y++[ai.cells z true true]).length) false d l ks ts (Y++[ai.cells z true true]) Q:=by
 have hyz:aB (Y++[ai.cells z true true]) (AV.slice Y.length 0 1 es) es [z]:=by
  have:=(Fr.push (N:=0) (es:=es) (h:=Y) (UK _) [z] (λx hx=>by rw[Uw]at hx;rw[hx,hz])).aM
  simpa using this
 refine WR.gj (h0:=B) (cs:=cs) (ys:=[z]) (hs.app _) hyz hes Si (by simpa using dO) (he.trans (Ext.app _ (Ext.refl _))) ?_;intro g' OJ hff hkp;refine K _ _ ⟨_,rfl⟩ hff (λi hi=>by cases hi;simp) rfl (by rw[OJ];simp only[Ud,Us];omega) (λi hi hne=>?_);rw[hkp i (by simp only[Ud];omega) (λb0 o n e he z=>hne (by rw[he,z];rfl))];exact Ug hi
set_option maxRecDepth 10000
attribute [local irreducible] WP WC WE WB WR WF WL WG fo WM
section
variable {P:Program}(T:eF P) {B X W:af}{ts:TS}{V:RV}{x:EV}
include T
end
def fA:List AV:=[.int .i64 0,.str [],.ah,.ah,.str []]
def uw(kd:By)(sn sv:AV):ai:=.cells [.int .i64 0,.str kd,sn,sv,.str []] true false
structure sP(A:af)(kd:By)(b8:Nat)(kb:ai)(sw:AV)(wr:Bool)(ws:List (By))(sn sv:AV)(ns:List (By))(vs:List Int)(B:af):Prop where
 m7:(A++[fX sw wr]++B)[A.length+1]? =some (uw kd sn sv)
 m8:(A++[fX sw wr]++B)[b8]? =some kb
 l8:A.length+1<b8
 s:aB A sw 1 (ws.map al)
 wl:∀x∈ws,x.length<=2^40
 n:Fr (A.length+1) (A++[fX sw wr]++B) sn 1 (ns.map al)
 v:Fr (A.length+1) (A++[fX sw wr]++B) sv 1 (vs.map aE)
 dn:∀i,sB sn=some i->A.length+1<i/\i≠b8
 dv:∀i,sB sv=some i->A.length+1<i/\i≠b8
 dd:∀i,sB sn=some i->sB sv≠some i
section
variable {A B:af}{kd:By}{b8:Nat}{kb:ai}{sw:AV}{wr:Bool}{ws:List (By)}{sn sv:AV}{ns:List (By)}{vs:List Int}
def tS{x}:(A++[x]).length=A.length+1:=Si
def sP.tk(o:sP A kd b8 kb sw wr ws sn sv ns vs B){sw' wr' ws'}(hs:aB A sw' 1 (ws'.map al))(hw:∀x∈ws',x.length<=2^40):sP A kd b8 kb sw' wr' ws' sn sv ns vs B:=
 ⟨by rw[oG (K':=fX sw wr) Om];exact o.m7,by rw[oG (K':=fX sw wr) (by have:=o.l8;omega)];exact o.m8,o.l8,hs,hw,o.n.swap' tS tS,o.v.swap' tS tS,o.dn,o.dv,o.dd⟩
theorem sP.app(o:sP A kd b8 kb sw wr ws sn sv ns vs B)(g:af):sP A kd b8 kb sw wr ws sn sv ns vs (B++g):=by
 have e:A++[fX sw wr]++(B++g)=A++[fX sw wr]++B++g:=(Uf _ _ _).symm;exact⟨by rw[e];exact(Ext.app g (Ext.refl _)).some o.m7,by rw[e];exact(Ext.app g (Ext.refl _)).some o.m8,o.l8,o.s,o.wl,by rw[e];exact o.n.app g,by rw[e];exact o.v.app g,o.dn,o.dv,o.dd⟩
def lR{K X g}:(A++[K]++g).set (A.length+1) X=A++[K]++g.set 0 X:=by
 rw[U0 _ _ Si];simp
def sP.FE(o:sP A kd b8 kb sw wr ws sn sv ns vs B){Qn ns' g}(hF:Fr (A.length+1) (A++[fX sw wr]++g) Qn 1 (ns'.map al))(hlo:∀i,sB Qn=some i->(A++[fX sw wr]++B).length<i)
  (hle:(A++[fX sw wr]++B).length<=(A++[fX sw wr]++g).length) (hk:∀i,i<(A++[fX sw wr]++B).length->sB sn≠some i->(A++[fX sw wr]++g)[i]? =(A++[fX sw wr]++B)[i]?):
  sP A kd b8 kb sw wr ws Qn sv ns' vs (g.set 0 (uw kd Qn sv)):=by
 have l7:=(Ue.1 o.m7).1;have l8:=(Ue.1 o.m8).1;have h8:=o.l8;have ne:∀i,i≠A.length+1->((A++[fX sw wr]++g).set (A.length+1) (uw kd Qn sv))[i]? =(A++[fX sw wr]++g)[i]? :=λi hi=>U1 (λe=>hi e.symm)
 refine⟨?_,?_,h8,o.s,o.wl,?_,?_,λi hi=>?_,o.dv,λi hi e=>?_⟩
 ·rw[<-lR,UY Om]
 ·rw[<-lR,ne _ Om,hk _ l8 (λe=>(o.dn _ e).2 rfl)];exact o.m8
 ·exact z141
 ·rw[<-lR];exact o.v.ay λj hj=>by rw[ne j (by have:=(o.dv j hj).1;omega),hk j (o.v.bL hj).2 (λe=>o.dd j e hj)]
 ·have:=hlo i hi;exact⟨Om,Om⟩
 ·have h1:=hlo i hi;have h2:=(o.v.bL e).2;omega
def sP.FD(o:sP A kd b8 kb sw wr ws sn sv ns vs B){Qm vs' g}(hF:Fr (A.length+1) (A++[fX sw wr]++g) Qm 1 (vs'.map aE))(hlo:∀i,sB Qm=some i->(A++[fX sw wr]++B).length<i)
  (hle:(A++[fX sw wr]++B).length<=(A++[fX sw wr]++g).length) (hk:∀i,i<(A++[fX sw wr]++B).length->sB sv≠some i->(A++[fX sw wr]++g)[i]? =(A++[fX sw wr]++B)[i]?):
  sP A kd b8 kb sw wr ws sn Qm ns vs' (g.set 0 (uw kd sn Qm)):=by
 have l7:=(Ue.1 o.m7).1;have l8:=(Ue.1 o.m8).1;have h8:=o.l8;have ne:∀i,i≠A.length+1->((A++[fX sw wr]++g).set (A.length+1) (uw kd sn Qm))[i]? =(A++[fX sw wr]++g)[i]? :=λi hi=>U1 (λe=>hi e.symm)
 refine⟨?_,?_,h8,o.s,o.wl,?_,?_,o.dn,λi hi=>?_,λi hi e=>?_⟩
 ·rw[<-lR,UY Om]
 ·rw[<-lR,ne _ Om,hk _ l8 (λe=>(o.dv _ e).2 rfl)];exact o.m8
 ·rw[<-lR];exact o.n.ay λj hj=>by rw[ne j (by have:=(o.dn j hj).1;omega),hk j (o.n.bL hj).2 (λe=>o.dd j hj e)]
 ·exact z141
 ·have:=hlo i hi;exact⟨Om,Om⟩
 ·have h1:=hlo i e;have h2:=(o.n.bL hi).2;omega
end
def oS{ws wr}:∀x∈(aW ws wr).2.1,x∈ws:=by
 intro x hx;cases ws with
 |nil=>simp[aW]at hx
 |cons w r=>
  by_cases hw:w=[]
  ·rw[aW,Ut hw]at hx;simp at hx
  ·rw[aW,Ur hw]at hx;exact UL _ hx
def Kc(h:af)(ws:List (By))(v:AV)(k:af):Prop:=Ext h k/\∃x:EV,x.ev=(bV ws).1/\v=.dt [.agg x.row,.bool (bV ws).2]/\Fr h.length k x.sn 1 (x.ev.names.map al)/\Fr h.length k x.sv 1 (x.ev.ba.map aE)
def ti{h k}(e:Ext (h++[ai.cells [.int .i64 0,.str [],.ah,.ah,.str []] true false]) k):k[h.length]? =some (.cells [.int .i64 0,.str [],.ah,.ah,.str []] true false):=e.some (by rw[Un (Uq _)];simp)
def zX{h k}(e:Ext (h++[ai.cells [.int .i64 0,.str [],.ah,.ah,.str []] true false]) k):bC 5 (.ptr h.length 0) (.agg [.int .i64 0,.str [],.ah,.ah,.str []]) (λz=>k[z]?)=some (au,.set h.length (.cells [.int .i64 0,.str [],.ah,.ah,.str []] true false)):=by rw[bp (ti e)];rfl
def zZ{h k}(e:Ext (h++[ai.cells [.int .i64 0,.str [],.ah,.ah,.str []] true false]) k):aq (some 5) (.ptr h.length 0) (λz=>k[z]?)=some (.agg [.int .i64 0,.str [],.ah,.ah,.str []],.ar):=by rw[az (ti e)];rfl
def zY{h k}(e:Ext (h++[ai.cells [.int .i64 0,.str [],.ah,.ah,.str []] true false]) k):k.set h.length (.cells [.int .i64 0,.str [],.ah,.ah,.str []] true false)=k:=by
 have:=ti e;exact M6
def zW{h k x}(ox:aZ k x)(e:Ext (h++[ai.cells [.int .i64 0,.str [],.ah,.ah,.str []] true false]) k):bC 5 (.ptr h.length 0) (.agg x.row) (λz=>k[z]?)=some (au,.set h.length (.cells x.row true false)):=by rw[bp (ti e)];exact ox.st
def zV{h k:af}{x:EV}(e:Ext (h++[ai.cells [.int .i64 0,.str [],.ah,.ah,.str []] true false]) k):aq (some 5) (.ptr h.length 0) (λz=>(k.set h.length (.cells x.row true false))[z]?)=some (.agg x.row,.ar):=by
 rw[az (UY (Ue.1 (ti e)).1)];rfl
theorem qp:∀{n}{ws}{wr},(bI n ws wr).1.length=n
 | 0,_,_=>rfl
 |n+1,ws,wr=>by rw[bI,Ui,qp]
theorem tD:∀{n}{ws}{wr},(cP n ws wr).1.length=n
 | 0,_,_=>rfl
 |n+1,ws,wr=>by rw[cP,Ui,tD]
def pq(ws:List (By)):(bV ws).1.names.length<=3/\(bV ws).1.ba.length<=3:=by
 unfold bV;cases eC (aW ws false).1 with
 |none=>exact⟨UK _,UK _⟩
 |some d=>
  have h3:(aC d).length<=3/\a8 d<=3:=by cases d<;>decide
  exact⟨by show(bI _ _ _).1.length<=3;rw[qp];exact h3.1,by show(cP _ _ _).1.length<=3;rw[tD];exact h3.2⟩
def uQ(k:Nat):an:=(fn111).body.dr k
def Ag(k:Nat):an:=(uQ k).hd
def La:fn111=⟨73,1,[(2,some (some 5)),(3,none)],.seq (Ag 0) (.seq (Ag 1) (.seq (Ag 2) (.seq (Ag 3) (.seq (Ag 4) (.seq (Ag 5) (uQ 6))))))⟩:=rfl
def K9:uQ 6=.seq (Ag 6) (uQ 7):=rfl
def K8:uQ 7=.seq (Ag 7) (uQ 8):=rfl
attribute [local irreducible] WQ
section
variable {P:Program}(T:eF P) {h A B:af}{kd:By}{b8:Nat}{kb:ai}{sw:AV}{wr:Bool}{ws Tj:List (By)}{sn sv:AV}{ns:List (By)}{vs:List Int}{ts:TS}
include T
theorem FC(hA:A=h++[.cells fA true false])(o:sP A kd b8 kb sw wr ws sn sv ns vs B)(hlen:ts.length=73)(t2:slot ts 2=.ptr h.length 0)(t4:slot ts 4=.ptr A.length 0)(t7:slot ts 7=.ptr (A.length+1) 0)
  (hw:bV Tj=(⟨0,kd,ns,vs,[]⟩,!wr&&decide (ws.length=0))):WC P cB (uQ 8) [] ts (A++[fX sw wr]++B) (FQ [(2,some (some 5)),(3,none)] (Kc h Tj)):=by
 have hAl:A.length=h.length+1:=by rw[hA];simp
 obtain⟨Y,hY⟩:∃Y,Y=A++[fX sw wr]++B:=⟨_,rfl⟩;have hY2:Y=h++([ai.cells fA true false]++[fX sw wr]++B):=by rw[hY,hA];simp
 have m2:Y[h.length]? =some (.cells fA true false):=by rw[hY2,Un (Uq _)];simp
 have m4:Y[A.length]? =some (.cells [sw,.bool wr] true false):=by rw[hY];exact GW
 have m7:Y[A.length+1]? =some (.cells [.int .i64 0,.str kd,sn,sv,.str []] true false):=by rw[hY];exact o.m7
 have ln:=o.n;have lv:=o.v;rw[<-hY]at ln lv ⊢;have x:∃x:EV,x=⟨⟨0,kd,ns,vs,[]⟩,sn,sv⟩:=⟨_,rfl⟩;obtain⟨x,hx⟩:=x;have hrow:x.row=[.int .i64 0,.str kd,sn,sv,.str []]:=by rw[hx];rfl
 have ox:Fr h.length (Y.set h.length (.cells x.row true false)) x.sn 1 (x.ev.names.map al)/\Fr h.length (Y.set h.length (.cells x.row true false)) x.sv 1 (x.ev.ba.map aE):=by
  rw[hx];exact⟨(ln.ay λj hj=>U1 (by have:=(o.dn j hj).1;omega)).low Om,(lv.ay λj hj=>U1 (by have:=(o.dv j hj).1;omega)).low Om⟩
 have oy:aZ Y x:=by rw[hx];exact⟨ln.aM,lv.aM⟩
 have l4:∀{n:Option Nat}{a:Nat},aq n (.ptr A.length a) (λz=>Y[z]?)=dI n a (.cells [sw,.bool wr] true false):=az m4;have l7:aq (some 5) (.ptr (A.length+1) 0) (λz=>Y[z]?)=some (.agg x.row,.ar):=by rw[az m7,hrow];rfl
 have s2:bC 5 (.ptr h.length 0) (.agg x.row) (λz=>Y[z]?)=some (au,.set h.length (.cells x.row true false)):=by rw[bp m2];exact oy.st
 have l2:aq (some 5) (.ptr h.length 0) (λz=>(Y.set h.length (.cells x.row true false))[z]?)=some (.agg x.row,.ar):=by rw[az (UY (Ue.1 m2).1)];rfl
 have hlw:=(o.s.aS (row:=al));have fin:∀b,b=(!wr&&decide (ws.length=0))->Kc h Tj (.dt [.agg x.row,.bool b]) (Y.set h.length (.cells x.row true false)):=λb hb=>by
  refine⟨⟨([ai.cells fA true false]++[fX sw wr]++B).set 0 (.cells x.row true false),by rw[hY2,U0 _ _ (Uq _),Vb]⟩,x,by rw[hw,hx],by rw[hw,hb],ox⟩
 unfold uQ fn111;simp only[an.j,an.s,an.r,an.dr,an.tl,an.hd];cases wr with
 |true=>
  repeat (first|simp (config:={maxSteps:=1000000}) only[aL,aR,bd,bf,reduceAdd,reduceMul,reduceLeDiff,reduceEqDiff,bj,hlen,UC,UD,t2,t4,t7,l4,l7,s2,UA,UF,oP,mP,mR,mQ,oN,mN,sD,xP,sE,oO,kJ,xQ,sF,sG,oM,mO,sj,si]|simp (config:={maxSteps:=1000000}) (disch:=first|(simp only[Ud,Ui,Ul]<;>omega)|rfl|omega|fail) only[dZ,aL,aR,bd,bf,reduceAdd,reduceMul,reduceLeDiff,reduceEqDiff,bj,hlen,UC,UD,t2,t4,t7,l4,l7,s2,UA,UF,oP,mP,mR,mQ,oN,mN,sD,xP,sE,oO,kJ,xQ,sF,sG,oM,mO,sj,si])
  rw[BA];refine⟨?_,?_⟩
  ·exact Nf
  ·repeat (first|simp (config:={maxSteps:=1000000}) only[aL,aR,bd,bf,reduceAdd,reduceMul,reduceLeDiff,reduceEqDiff,bj,hlen,UC,UD,t2,l2,mJ,mL,mM,VD,Vp]|simp (config:={maxSteps:=1000000}) (disch:=first|(simp only[Ud,Ui,Ul]<;>omega)|rfl|omega|fail) only[dZ,aL,aR,bd,bf,reduceAdd,reduceMul,reduceLeDiff,reduceEqDiff,bj,hlen,UC,UD,t2,l2,mJ,mL,mM,VD,Vp])
   exact fin _ rfl
 |false=>
  repeat (first|simp (config:={maxSteps:=1000000}) only[aL,aR,bd,bf,reduceAdd,reduceMul,reduceLeDiff,reduceEqDiff,bj,hlen,UC,UD,t2,t4,t7,l4,l7,s2,hlw,UA,UF,oP,mP,mR,mQ,oN,mN,sD,xP,sE,oO,kJ,xQ,sF,sG,oM,mO,sj,si]|simp (config:={maxSteps:=1000000}) (disch:=first|(simp only[Ud,Ui,Ul]<;>omega)|rfl|omega|fail) only[dZ,aL,aR,bd,bf,reduceAdd,reduceMul,reduceLeDiff,reduceEqDiff,bj,hlen,UC,UD,t2,t4,t7,l4,l7,s2,hlw,UA,UF,oP,mP,mR,mQ,oN,mN,sD,xP,sE,oO,kJ,xQ,sF,sG,oM,mO,sj,si])
  rw[BA];refine⟨?_,?_⟩
  ·exact Nf
  ·repeat (first|simp (config:={maxSteps:=1000000}) only[aL,aR,bd,bf,reduceAdd,reduceMul,reduceLeDiff,reduceEqDiff,bj,hlen,UC,UD,t2,l2,mJ,mL,mM,VD,Vp]|simp (config:={maxSteps:=1000000}) (disch:=first|(simp only[Ud,Ui,Ul]<;>omega)|rfl|omega|fail) only[dZ,aL,aR,bd,bf,reduceAdd,reduceMul,reduceLeDiff,reduceEqDiff,bj,hlen,UC,UD,t2,l2,mJ,mL,mM,VD,Vp])
   refine fin _ ?_;cases ws<;>simp
   try omega
def K6(Z:nJ P){vN rs c2 c3 a4}(hA:A=h++[.cells fA true false])(hkb:kb=.cells [rs,.int .i64 (vN:Nat),c2,c3,a4] true false)(hvN:vN<=100)(o:sP A kd b8 kb sw wr ws sn sv ns [] B)(hlen:ts.length=73)(t2:slot ts 2=.ptr h.length 0)(t4:slot ts 4=.ptr A.length 0)(t6:slot ts 6=.func (.func 208) [.ptr A.length 0] [])(t7:slot ts 7=.ptr (A.length+1) 0)(t8:slot ts 8=.ptr b8 0)
  (hw:bV Tj=(⟨0,kd,ns,(cP vN ws wr).1,[]⟩,!(cP vN ws wr).2.2&&decide ((cP vN ws wr).2.1.length=0))):WC P cB (uQ 7) [] ts (A++[fX sw wr]++B) (FQ [(2,some (some 5)),(3,none)] (Kc h Tj)):=by
 have m8:=o.m8;rw[hkb]at m8;have l8:∀{n:Option Nat}{a:Nat},aq n (.ptr b8 a) (λz=>(A++[fX sw wr]++B)[z]?)=dI n a (.cells [rs,.int .i64 (vN:Nat),c2,c3,a4] true false):=az m8;obtain⟨RR,Pa⟩:∃RR,RR=uQ 8:=⟨_,rfl⟩;rw[K8,<-Pa];unfold Ag uQ fn111;simp only[an.j,an.s,an.r,an.dr,an.tl,an.hd];refine Rs (A6 t2 t4 t6 t7 t8 @l8) ?_;refine WL.inv T.mix (λn ts' h'=>∃(k:Nat) (sw' Qm:AV) (wr':Bool) (ws':List (By)) (vs':List Int) (B':af),k<=vN/\n=vN-k/\h' =A++[fX sw' wr']++B'/\sP A kd b8 kb sw' wr' ws' sn Qm ns vs' B'/\vs'.length=k/\cP vN ws wr=(vs'++(cP (vN-k) ws' wr').1,(cP (vN-k) ws' wr').2)/\
   ts'.length=73/\slot ts' 2=.ptr h.length 0/\slot ts' 4=.ptr A.length 0/\slot ts' 6=.func (.func 208) [.ptr A.length 0] []/\slot ts' 7=.ptr (A.length+1) 0/\slot ts' 47=.int .i64 vN/\slot ts' 48=.int .i64 k) vN
  ⟨0,sw,sv,wr,ws,[],B,Om,rfl,rfl,o,rfl,rfl,(Sq t2),(Sq t2),(Sq t4),(Sq t6),(Sq t7),(Sq t2),iR⟩ ?_
 clear hlen t2 t4 t6 t7 t8 l8 m8 o;rintro _ ts' _ ⟨k,sw',Qm,wr',ws',vs',B',hk,rfl,rfl,o,Pc,Pq,hlen,u2,u4,u6,u7,u47,u48⟩;by_cases hlt:k<vN
 ·have e3:decide ((k:Int)<vN)=true:=Uk Om;refine Rs (A7 @u2 @u4 @u6 @u7 @u47 @u48 e3) ?_;refine WF.gen T.c208 (LN T Z o.s o.wl) ?_;rintro _ _ ⟨P9,g,rfl,rfl,OX⟩;obtain⟨Pn,Ro⟩:∃Pn,Pn=((aW ws' wr').2.2 || !bQ (aW ws' wr').1):=⟨_,rfl⟩;obtain⟨y,hy⟩:∃y,y=cT (aW ws' wr').1:=⟨_,rfl⟩;rw[<-Ro,<-hy];have o2:=(o.tk (wr':=Pn) OX (λx hx=>o.wl x (oS x hx))).app g;have bE:cP vN ws wr=((vs'++[y])++(cP (vN-(k+1)) (aW ws' wr').2.1 Pn).1,(cP (vN-(k+1)) (aW ws' wr').2.1 Pn).2):=by
   rw[Pq,show vN-k=(vN-(k+1))+1 by omega,cP,hy,Ro];simp
  have l7:∀{kk:af}{n:Option Nat}{a:Nat},Ext (A++[fX P9 Pn]++(B'++g)) kk->aq n (.ptr (A.length+1) a) (λz=>kk[z]?)=dI n a (.cells [.int .i64 0,.str kd,sn,Qm,.str []] true false):=λe=>az (e.some o2.m7)
  refine Rs (A7 @u2 @u4 @u6 @u7 @u47 @u48 @l7) ?_;refine WR.Bt (B:=A++[fX P9 Pn]) (cs:=vs'.map aE) (z:=aE y) (by rw[tS];exact o2.v) rfl ⟨_,rfl⟩ De (by simp;omega) ?_;rintro _ s' ⟨g2,rfl⟩ hF hlo hone hle hkp;rw[tS]at hF;have er:vs'.map aE++[aE y]=(vs'++[y]).map aE:=by rw[Up];rfl
  rw[er]at hF;have q7:=(Ue.1 o2.m7).1;have m7':(A++[fX P9 Pn]++g2)[A.length+1]? =some (.cells [.int .i64 0,.str kd,sn,Qm,.str []] true false):=by
   rw[hkp _ q7 (λe=>by have:=(o2.dv _ e).1;omega)];exact o2.m7
  have s7:bC 1 (.ptr (A.length+1) 3) s' (λz=>(A++[fX P9 Pn]++g2)[z]?)=some (au,.set (A.length+1) (.cells [.int .i64 0,.str kd,sn,s',.str []] true false)):=by
   exact Kf
  have o3:=o2.FD hF hlo hle hkp;refine Rs (A8 @u2 @u4 @u6 @u7 @u47 @u48 @s7 (wrapN (show k+1<2^63 by omega))) ?_;exact⟨vN-(k+1),Om,k+1,P9,s',Pn,_,vs'++[y],_,Om,rfl,lR,o3,by simp[Pc],bE,rfl⟩
 ·have e3:decide ((k:Int)<vN)=false:=Uh Om;have ek:k=vN:=Om
  subst ek;rw[Vb,cP,UE]at Pq;rw[Pq]at hw;refine Rs (A7 @u2 @u4 @u6 @u7 @u47 @u48 e3) ?_;rw[Pa];exact FC T hA o (Sq @u2) (Sq @u2) (Sq @u4) (Sq @u7) hw
def K7(Z:nJ P){nN vN rs c2 c3 a4}(hA:A=h++[.cells fA true false])(hkb:kb=.cells [rs,.int .i64 (vN:Nat),c2,c3,a4] true false)(hnN:nN<=100)(hrs:∀G,iC .sl G rs=some nN)(hvN:vN<=100)(o:sP A kd b8 kb sw wr ws sn sv [] [] B)(hlen:ts.length=73)(t2:slot ts 2=.ptr h.length 0)(t4:slot ts 4=.ptr A.length 0)
  (t5:slot ts 5=.func (.func 207) [.ptr A.length 0] []) (t6:slot ts 6=.func (.func 208) [.ptr A.length 0] []) (t7:slot ts 7=.ptr (A.length+1) 0) (t8:slot ts 8=.ptr b8 0)
  (hw:bV Tj=(⟨0,kd,(bI nN ws wr).1,(cP vN (bI nN ws wr).2.1 (bI nN ws wr).2.2).1,[]⟩,!(cP vN (bI nN ws wr).2.1 (bI nN ws wr).2.2).2.2&&decide ((cP vN (bI nN ws wr).2.1 (bI nN ws wr).2.2).2.1.length=0))):WC P cB (uQ 6) [] ts (A++[fX sw wr]++B) (FQ [(2,some (some 5)),(3,none)] (Kc h Tj)):=by
 have m8:=o.m8;rw[hkb]at m8;have l8:∀{n:Option Nat}{a:Nat},aq n (.ptr b8 a) (λz=>(A++[fX sw wr]++B)[z]?)=dI n a (.cells [rs,.int .i64 (vN:Nat),c2,c3,a4] true false):=az m8;obtain⟨RR,Pa⟩:∃RR,RR=uQ 7:=⟨_,rfl⟩;rw[K9,<-Pa];unfold Ag uQ fn111;simp only[an.j,an.s,an.r,an.dr,an.tl,an.hd];refine Rs (A8 t2 t4 t5 t6 t7 t8 @l8 @hrs) ?_;refine WL.inv T.mix (λn ts' h'=>∃(k:Nat) (sw' Qn:AV) (wr':Bool) (ws' ns':List (By)) (B':af),k<=nN/\n=nN-k/\h' =A++[fX sw' wr']++B'/\sP A kd b8 kb sw' wr' ws' Qn sv ns' [] B'/\ns'.length=k/\bI nN ws wr=(ns'++(bI (nN-k) ws' wr').1,(bI (nN-k) ws' wr').2)/\
   ts'.length=73/\slot ts' 2=.ptr h.length 0/\slot ts' 4=.ptr A.length 0/\slot ts' 5=.func (.func 207) [.ptr A.length 0] []/\slot ts' 6=.func (.func 208) [.ptr A.length 0] []/\slot ts' 7=.ptr (A.length+1) 0/\slot ts' 8=.ptr b8 0/\slot ts' 34=.int .i64 nN/\slot ts' 35=.int .i64 k) nN
  ⟨0,sw,sn,wr,ws,[],B,Om,rfl,rfl,o,rfl,rfl,(Sq t2),(Sq t2),(Sq t4),(Sq t5),(Sq t6),(Sq t7),(Sq t8),(Sq t2),iR⟩ ?_
 clear hlen t2 t4 t5 t6 t7 t8 l8 m8 o;rintro _ ts' _ ⟨k,sw',Qn,wr',ws',ns',B',hk,rfl,rfl,o,Pc,Pq,hlen,u2,u4,u5,u6,u7,u8,u34,u35⟩;by_cases hlt:k<nN
 ·have e3:decide ((k:Int)<nN)=true:=Uk Om;refine Rs (A9 @u2 @u4 @u5 @u6 @u7 @u8 @u34 @u35 e3) ?_;refine WF.gen T.c207 (Gm T o.s) ?_;rintro _ _ ⟨P9,rfl,rfl,OX⟩;obtain⟨Pn,Ro⟩:∃Pn,Pn=(aW ws' wr').2.2:=⟨_,rfl⟩;obtain⟨y,hy⟩:∃y,y=(aW ws' wr').1:=⟨_,rfl⟩;rw[<-Ro,<-hy];have o2:=o.tk (wr':=Pn) OX (λx hx=>o.wl x (oS x hx));have bE:bI nN ws wr=((ns'++[y])++(bI (nN-(k+1)) (aW ws' wr').2.1 Pn).1,(bI (nN-(k+1)) (aW ws' wr').2.1 Pn).2):=by
   rw[Pq,show nN-k=(nN-(k+1))+1 by omega,bI,hy,Ro];simp
  have l7:∀{kk:af}{n:Option Nat}{a:Nat},Ext (A++[fX P9 Pn]++B') kk->aq n (.ptr (A.length+1) a) (λz=>kk[z]?)=dI n a (.cells [.int .i64 0,.str kd,Qn,sv,.str []] true false):=λe=>az (e.some o2.m7)
  refine Rs (A9 @u2 @u4 @u5 @u6 @u7 @u8 @u34 @u35 @l7) ?_;refine WR.Bt (B:=A++[fX P9 Pn]) (cs:=ns'.map al) (z:=al y) (by rw[tS];exact o2.n) rfl ⟨_,rfl⟩ De (by simp;omega) ?_;rintro _ s' ⟨g2,rfl⟩ hF hlo hone hle hkp;rw[tS]at hF;have er:ns'.map al++[al y]=(ns'++[y]).map al:=by rw[Up];rfl
  rw[er]at hF;have q7:=(Ue.1 o2.m7).1;have m7':(A++[fX P9 Pn]++g2)[A.length+1]? =some (.cells [.int .i64 0,.str kd,Qn,sv,.str []] true false):=by
   rw[hkp _ q7 (λe=>by have:=(o2.dn _ e).1;omega)];exact o2.m7
  have s7:bC 1 (.ptr (A.length+1) 2) s' (λz=>(A++[fX P9 Pn]++g2)[z]?)=some (au,.set (A.length+1) (.cells [.int .i64 0,.str kd,s',sv,.str []] true false)):=by
   exact Kf
  have o3:=o2.FE hF hlo hle hkp;refine Rs (uO @u2 @u4 @u5 @u6 @u7 @u8 @u34 @u35 @s7 (wrapN (show k+1<2^63 by omega))) ?_;exact⟨nN-(k+1),Om,k+1,P9,s',Pn,_,ns'++[y],_,Om,rfl,lR,o3,by simp[Pc],bE,rfl⟩
 ·have e3:decide ((k:Int)<nN)=false:=Uh Om;have ek:k=nN:=Om
  subst ek;rw[Vb,bI,UE]at Pq;rw[Pq]at hw;refine Rs (A9 @u2 @u4 @u5 @u6 @u7 @u8 @u34 @u35 e3) ?_;rw[Pa];exact K6 T Z hA hkb hvN o (Sq @u2) (Sq @u2) (Sq @u4) (Sq @u6) (Sq @u7) (Sq @u8) hw
def r111(Z:nJ P){s ws}(hs:aB h s 1 (ws.map al))(hwl:∀x∈ws,x.length<=2^40):ak P 111 [s] h (λv k=>∃x:EV,x.ev=(bV ws).1/\v=.dt [.agg x.row,.bool (bV ws).2]/\Fr h.length k x.sn 1 (x.ev.names.map al)/\Fr h.length k x.sv 1 (x.ev.ba.map aE)):=by
 refine .of T.mix (Eq.trans T.c111 (UM some La)) ?_;obtain⟨ts,Ol⟩:∃ts,ts=aQ 73 [s]:=⟨_,rfl⟩;have hlen:ts.length=73:=by rw[Ol];rfl
 have t0:slot ts 0=s:=by rw[Ol];rfl
 obtain⟨RR,Pa⟩:∃RR,RR=uQ 6:=⟨_,rfl⟩;show WC P cB _ [] (aQ 73 [s]) h (FQ _ (Kc h ws));rw[<-Ol,<-Pa];clear Ol;have hso:=hs.one;unfold Ag uQ fn111;simp only[an.j,an.s,an.r,an.dr,an.tl,an.hd];refine Rs (A2 t0 @hso) ?_;obtain⟨A,hA⟩:∃A,A=h++[ai.cells fA true false]:=⟨_,rfl⟩;have hAl:A.length=h.length+1:=by rw[hA];simp
 have gw:=Gm T (A:=A) (B:=[]) (wr:=false) (hs.ext (k:=A) ⟨_,hA⟩);rw[UE,hA]at gw;refine WF.gen T.c207 gw ?_;rintro _ _ ⟨P9,rfl,rfl,OX⟩;rw[UE];rw[<-hA]at OX;have hwl2:∀x∈(aW ws false).2.1,x.length<=2^40:=λx hx=>hwl x (oS x hx)
 have Pe:bV ws=match eC (aW ws false).1 with
  |none=>(dQ,false)
  |some d=>(⟨0,bw d,(bI (aC d).length (aW ws false).2.1 (aW ws false).2.2).1,(cP (a8 d) (bI (aC d).length (aW ws false).2.1 (aW ws false).2.2).2.1 (bI (aC d).length (aW ws false).2.1 (aW ws false).2.2).2.2).1,[]⟩,!(cP (a8 d) (bI (aC d).length (aW ws false).2.1 (aW ws false).2.2).2.1 (bI (aC d).length (aW ws false).2.1 (aW ws false).2.2).2.2).2.2&&decide ((cP (a8 d) (bI (aC d).length (aW ws false).2.1 (aW ws false).2.2).2.1 (bI (aC d).length (aW ws false).2.1 (aW ws false).2.2).2.2).2.1.length=0)):=by
  unfold bV;cases eC (aW ws false).1<;>rfl
 generalize (aW ws false).1=kd at *;generalize (aW ws false).2.1=ws2 at *;generalize (aW ws false).2.2=Pn at *;refine Rs t0 ?_;refine WF.res T.c90 (r90 T) ?_;rintro _ g2 ⟨vf,rfl,hk⟩;have lk:∀{z:AV},gk .s z true (.map (h++[ai.cells fA true false]++[fX P9 Pn]++[uw kd .ah .ah]).length) (.str kd) (λb=>(h++[ai.cells fA true false]++[fX P9 Pn]++[uw kd .ah .ah]++g2)[b]?)=jY z true ((eC kd).map vf):=hk.look;unfold uw at lk;cases hd:eC kd with
 |none=>
  rw[hd]at lk Pe;have OU:∀{z:AV},_=some (AV.dt [z,.bool false],gL.ar):=@lk;have z2:∀{k:af},Ext (h++[ai.cells fA true false]) k->k[h.length]? =some (.cells fA true false):=λe=>e.some (by rw[Un (Uq _)];simp)
  have s2:∀{k:af},Ext (h++[ai.cells fA true false]) k->bC 5 (.ptr h.length 0) (.agg [.int .i64 0,.str [],.ah,.ah,.str []]) (λz=>k[z]?)=some (au,.set h.length (.cells fA true false)):=λe=>by rw[bp (z2 e)];rfl
  have l2:∀{k:af},Ext (h++[ai.cells fA true false]) k->aq (some 5) (.ptr h.length 0) (λz=>k[z]?)=some (.agg fA,.ar):=λe=>by rw[az (z2 e)];rfl
  have sq:∀{k:af},Ext (h++[ai.cells fA true false]) k->k.set h.length (.cells fA true false)=k:=λ{k} e=>by
   have:=z2 e;exact M6
  refine Rs (A8 t0 @bA @OU @gE @UF @s2 @sq @l2) ?_;exact⟨Xx,⟨dQ,.ah,.ah⟩,by rw[Pe],by rw[Pe];rfl,.nil,.nil⟩
 |some d=>
  rw[hd]at lk Pe;have OU:∀{z:AV},_=some (AV.dt [vf d,.bool true],gL.ar):=@lk;obtain⟨rs,a,hv,hr,ha,hab⟩:=(hk.k d).ex;rw[hv]at OU;have hlr:=hr.aS;have c1:=kB d;have c2:=j6 d;have c3:=hr.one;have h3:(aC d).length<=3/\a8 d<=3:=by cases d<;>decide
  refine Rs (A8 t0 @bA @OU @UA @c1 @c2 @c3 @ha) ?_;rw[Pa];obtain⟨kb,hkb⟩:∃kb,kb=ai.cells [rs,.int .i64 (a8 d:Nat),jh d,nj d,a] true false:=⟨_,rfl⟩;obtain⟨b8,hb8⟩:∃b8,b8=(h++[ai.cells fA true false]++[fX P9 Pn]++[ai.cells [.int .i64 0,.str kd,.ah,.ah,.str []] true false]++g2).length:=⟨_,rfl⟩;rw[<-hkb,<-hb8];have eh:h++[ai.cells fA true false]++[fX P9 Pn]++[ai.cells [.int .i64 0,.str kd,.ah,.ah,.str []] true false]++g2++[kb]=A++[fX P9 Pn]++([uw kd .ah .ah]++g2++[kb]):=by rw[hA];unfold uw;simp
  rw[eh];have o:sP A kd b8 kb P9 Pn ws2 .ah .ah [] [] ([uw kd .ah .ah]++g2++[kb]):=by
   refine⟨?_,?_,?_,OX,hwl2,.nil,.nil,λi hi=>(by cases hi),λi hi=>(by cases hi),λi hi=>(by cases hi)⟩
   ·rw[Un Si];simp
   ·rw[<-eh,hb8,Un (Uq _),Vb];rfl
   ·rw[hb8,hAl];simp only[Ud,Us];omega
  refine K7 T Z (nN:=(aC d).length) (vN:=a8 d) hA hkb Om hlr Om o (Sq t0) (Sq t0) ?_ ?_ ?_ ?_ (Sq t0) ?_
  all_goals first|(rw[Pe,fj hd];done)|skip
  ·refine Zs t0 ?_;rw[hA];rfl
  ·refine Zs t0 ?_;rw[hA];rfl
  ·refine Zs t0 ?_;rw[hA];rfl
  ·refine Zs t0 ?_;rw[hA];simp
end
def qw{c s n}(hs:s.length<=n):∀x∈aA c s,x.length<=n:=λx hx=>Vk (iX x hx) hs
theorem mz{c}:∀{s},(bU c s).1.length<=s.length/\(bU c s).2.1.length<=s.length
 |[]=>⟨Uq _,Uq _⟩
 |x::r=>by
  have ih:=mz (c:=c) (s:=r);rw[bU];split
  ·simp
  ·simp only[Ui];omega
def Eh{h G:af}{X Y:ai}{j:Nat}(hj:j≠h.length):(h++([X]++G))[j]? =(h++([Y]++G))[j]? :=by
 rw[<-Uf,<-Uf];exact oG hj
section
variable {P:Program}(T:eF P) {h:af}
include T
def r99(X:yR P)(Z:nJ P)(w:Pw h)(s:By)(hsl:s.length<=2^38)(n:Int):ak P 99 [.str s,.i n] h (λv k=>∃x:EV,x.ev=(cg s n).1/\v=.dt [.agg x.row,.i (cg s n).2]/\Fr h.length k x.sn 1 (x.ev.names.map al)/\Fr h.length k x.sv 1 (x.ev.ba.map aE)):=by
 refine .eQ 83 T.mix T.c99 ?_;intro ts hlen t0 t1;unfold fn99 gA;have w1:IntKind.i64.wrap ((s.length:Int)-7)=(s.length:Int)-7:=aH Om Om;have w2:IntKind.i64.wrap ((s.length:Int)-7-1)=(s.length:Int)-8:=by rw[aH Om Om];omega
 have s2:=@zX h;have l2:=@zZ h;have sq:=@zY h;have bad:∀{c:Int}{k:af},cg s n=(dQ,c)->Ext h k->(Ext h k/\∃x:EV,x.ev=(cg s n).1/\AV.dt [.agg [.i 0,.str [],.ah,.ah,.str []],.i c]=.dt [.agg x.row,.i (cg s n).2]/\Fr h.length k x.sn 1 (x.ev.names.map al)/\Fr h.length k x.sv 1 (x.ev.ba.map aE)):=
  λhe e=>⟨e,⟨dQ,.ah,.ah⟩,by rw[he],by rw[he];rfl,.nil,.nil⟩
 by_cases h8:s.length<8
 ·have d1:decide ((s.length:Int)-8<0)=true:=Uk Om;refine Rs (A8 t0 t1 @w1 @w2 @d1 @s2 @l2 @sq) ?_;exact(bad (by rw[cg,Ut h8]) Xx).2
 have d1:decide ((s.length:Int)-8<0)=false:=Uh Om;have ea:(s.length:Int)-8=((s.length-8:Nat):Int):=Om
 rw[ea]at w2 d1;have hlt:s.length-8<s.length:=Om
 have w3:IntKind.i64.wrap (((s.length-8:Nat):Int)+1)=((s.length-7:Nat):Int):=by rw[aH Om Om];omega
 have gd:s.getD (s.length-8) 0=s[s.length-8]:=by rw[UQ,Uj hlt];rfl
 by_cases hh:s[s.length-8]=35
 case neg=>
  have d2:decide ((s[s.length-8].toNat:Int)≠35)=true:=Uk λe=>hh (V9.1 (by simpa using (by omega:s[s.length-8].toNat=35)))
  repeat (first|simp (config:={maxSteps:=1000000}) only[aL,aR,bd,bf,reduceAdd,reduceMul,reduceLeDiff,reduceEqDiff,bj,hlen,UC,UD,t0,t1,w1,w2,d1,cA hlt,d2,s2,l2,sq]|simp (config:={maxSteps:=1000000}) (disch:=first|(simp only[Ud,Ui,Ul]<;>omega)|rfl|omega|fail) only[dZ,aL,aR,bd,bf,reduceAdd,reduceMul,reduceLeDiff,reduceEqDiff,bj,hlen,UC,UD,t0,t1,w1,w2,d1,cA hlt,d2,s2,l2,sq])
  exact(bad (by rw[cg,Ur h8,Ut (.inl (by rw[gd];exact hh))]) Xx).2
 have d2:decide ((s[s.length-8].toNat:Int)≠35)=false:=Uh (by rw[hh];decide)
 repeat (first|simp (config:={maxSteps:=1000000}) only[aL,aR,bd,bf,reduceAdd,reduceMul,reduceLeDiff,reduceEqDiff,bj,hlen,UC,UD,t0,t1,w1,w2,d1,cA hlt,d2,w3,fF (show s.length-7<=s.length by omega)]|simp (config:={maxSteps:=1000000}) (disch:=first|(simp only[Ud,Ui,Ul]<;>omega)|rfl|omega|fail) only[dZ,aL,aR,bd,bf,reduceAdd,reduceMul,reduceLeDiff,reduceEqDiff,bj,hlen,UC,UD,t0,t1,w1,w2,d1,cA hlt,d2,w3,fF (show s.length-7<=s.length by omega)])
 refine WF.ce T.c189 (r189 T _ (by rw[VB];omega)) λg1=>?_
 cases hd:jC (s.drop (s.length-7))with
 |false=>
  refine Rs (A7 t0 t1 @hd @UF @s2 @l2 @sq) ?_;exact(bad (by rw[cg,Ur h8,Ut (.inr (by rw[hd];simp))]) Xx).2
 |true=>
 repeat (first|simp (config:={maxSteps:=1000000}) only[aL,aR,bd,bf,reduceAdd,reduceMul,reduceLeDiff,reduceEqDiff,bj,hlen,UC,UD,t0,t1,hd,UA,k7 (show s.length-8<=s.length by omega)]|simp (config:={maxSteps:=1000000}) (disch:=first|(simp only[Ud,Ui,Ul]<;>omega)|rfl|omega|fail) only[dZ,aL,aR,bd,bf,reduceAdd,reduceMul,reduceLeDiff,reduceEqDiff,bj,hlen,UC,UD,t0,t1,hd,UA,k7 (show s.length-8<=s.length by omega)])
 have Qo:∀{α:Type}{a b:α},(if s.getD (s.length-8) 0≠35\/¬jC (s.drop (s.length-7))=true then a else b)=b:=λ{_ _ _}=>Ur (by rw[gd,hd];simp[hh])
 refine WF.ce T.c187 (r187 T Z _ (by rw[U6];omega) (w.ext Xx)) λg2=>?_
 by_cases hc:gC (s.take (s.length-8))=s.drop (s.length-7)
 case neg=>
  have d3:decide (gC (s.take (s.length-8))≠s.drop (s.length-7))=true:=Uk hc
  repeat (first|simp (config:={maxSteps:=1000000}) only[aL,aR,bd,bf,reduceAdd,reduceMul,reduceLeDiff,reduceEqDiff,bj,hlen,UC,UD,t0,t1,w3,fF (show s.length-7<=s.length by omega),d3,s2,l2,sq]|simp (config:={maxSteps:=1000000}) (disch:=first|(simp only[Ud,Ui,Ul]<;>omega)|rfl|omega|fail) only[dZ,aL,aR,bd,bf,reduceAdd,reduceMul,reduceLeDiff,reduceEqDiff,bj,hlen,UC,UD,t0,t1,w3,fF (show s.length-7<=s.length by omega),d3,s2,l2,sq])
  exact(bad (by rw[cg,Ur h8,Qo,Ut hc]) Xx).2
 have d3:decide (gC (s.take (s.length-8))≠s.drop (s.length-7))=false:=Uh (λz=>z hc);have hes:cg s n=if !bQ (bU 32 (s.take (s.length-8))).1 || !(bV (aA 32 (bU 32 (s.take (s.length-8))).2.1)).2||decide (dK { (bV (aA 32 (bU 32 (s.take (s.length-8))).2.1)).1 with num:=cT (bU 32 (s.take (s.length-8))).1}≠0)then(dQ,25)else({ (bV (aA 32 (bU 32 (s.take (s.length-8))).2.1)).1 with num:=cT (bU 32 (s.take (s.length-8))).1},bB (decide (cT (bU 32 (s.take (s.length-8))).1≠n)) 11):=(Ur h8).trans (Qo.trans (Ur (λz=>z hc)))
 have htl:(s.take (s.length-8)).length<=2^38:=by rw[U6];omega
 have hcl:=mz (c:=32) (s:=s.take (s.length-8))
 repeat (first|simp (config:={maxSteps:=1000000}) only[aL,aR,bd,bf,reduceAdd,reduceMul,reduceLeDiff,reduceEqDiff,bj,hlen,UC,UD,t0,t1,w3,fF (show s.length-7<=s.length by omega),d3,k7 (show s.length-8<=s.length by omega)]|simp (config:={maxSteps:=1000000}) (disch:=first|(simp only[Ud,Ui,Ul]<;>omega)|rfl|omega|fail) only[dZ,aL,aR,bd,bf,reduceAdd,reduceMul,reduceLeDiff,reduceEqDiff,bj,hlen,UC,UD,t0,t1,w3,fF (show s.length-7<=s.length by omega),d3,k7 (show s.length-8<=s.length by omega)])
 refine WF.ce T.c98 (r98 T X _ 32 Om) λg3=>?_
 generalize hq1:(bU 32 (s.take (s.length-8))).1=a1 at hes hcl ⊢;generalize hq2:(bU 32 (s.take (s.length-8))).2.1=a2 at hes hcl ⊢;refine Rs (A2 t0 t1) ?_;refine WF.ce T.c190 (r190 T Z a1 Om) λg4=>?_
 refine Rs (A2 t0 t1) ?_;refine WF.res T.c64 (r64 T X a2 32 Om) ?_;intro v g5 hv;refine Rs (A2 t0 t1) ?_;have Po:=pq (aA 32 a2);refine WF.res T.c111 (r111 T Z hv (qw Om)) ?_;rintro _ g6 ⟨x,hx,rfl,fn,fv⟩;have ox:aZ _ x:=⟨fn.aM,fv.aM⟩;rw[<-hx]at hes Po;generalize (bV (aA 32 a2)).2=fm at hes ⊢;obtain⟨x',Oo⟩:∃x':EV,x' =⟨{x.ev with num:=cT a1},x.sn,x.sv⟩:=⟨_,rfl⟩;have OS:x'.sn=x.sn:=by rw[Oo]
 have hsv:x'.sv=x.sv:=by rw[Oo]
 have Sk:x'.ev.names=x.ev.names:=by rw[Oo]
 have Pc:x'.ev.ba=x.ev.ba:=by rw[Oo]
 have hrow:x'.row=x.row.set 0 (.i (cT a1)):=by rw[Oo];rfl
 have hev:({x.ev with num:=cT a1}:fp)=x'.ev:=by rw[Oo]
 rw[hev]at hes;have OV:cg s n=if !bQ a1 || !fm||decide (dK x'.ev≠0)then(dQ,25)else(x'.ev,bB (decide (cT a1≠n)) 11):=hes
 rw[<-OS,<-Sk]at fn;rw[<-hsv,<-Pc]at fv;have Rl:aZ _ x':=⟨fn.aM,fv.aM⟩;have st:∀{b':Nat}{a0 a1 a2 a3 a4:AV},jq 5 0 (.agg x.row) b' (.b [a0,a1,a2,a3,a4])=some (au,.set b' (.b x.row)):=λ{_ _ _ _ _ _}=>ox.st
 have jP:∀{b':Nat},jq 1 0 (.i (cT a1)) b' (.b x.row)=some (au,.set b' (.b x'.row)):=λ{b'}=>by
  exact Fa
 cases QE:bQ a1 with
 |false=>
  rw[QE]at OV;refine Rs (A9 t0 t1 @st @jP @bW @UF @s2 @l2 @sq) ?_;exact z119
 |true=>
 cases fm with
 |false=>
  rw[QE]at OV;refine Rs (uO t0 t1 @st @jP @bW @UF @UA @s2 @l2 @sq) ?_;exact z119
 |true=>
 rw[QE]at OV;refine Rs (A7 t0 t1 @st @jP @bW @UF @UA) ?_;refine WF.ce T.c67 (r67 T (Rl.ext Xx) ⟨by rw[Sk];omega,by rw[Pc];omega⟩) λg7=>?_
 by_cases RM:dK x'.ev=0
 case neg=>
  have d4:decide (dK x'.ev≠0)=true:=Uk RM;rw[d4]at OV;refine Rs (A6 t0 t1 @d4 @s2 @l2 @sq) ?_;exact z119
 have d4:decide (dK x'.ev≠0)=false:=Uh (λz=>z RM);rw[d4]at OV;have key:∀{k:af}{W:af},aZ W x'->Ext (h++[ai.b [.i 0,.str [],.ah,.ah,.str []]]) W->Ext W k->bC 5 (.ptr h.length 0) (.agg x'.row) (λz=>k[z]?)=some (au,.set h.length (.b x'.row)):=λo e1 e2=>zW (o.ext e2) (e1.trans e2)
 have sx:=λ{k:af}=>@key k _ Rl Xx
 have ly:=@zV h;refine Rs (A4 t0 t1 @d4 @bW) ?_;refine WF.ce T.c85 (r85 T _ _) λg8=>?_
 have fn3:=((fn.app [ai.b x'.row]).app g7).app g8;have fv3:=((fv.app [ai.b x'.row]).app g7).app g8;refine Rs (A4 t0 t1 @sx @ly) ?_;refine⟨Xx,x',by rw[OV];rfl,by rw[OV];rfl,(fn3.ay λj hj=>?_).low ?_,(fv3.ay λj hj=>?_).low ?_⟩
 ·exact M7
 ·exact Kg
 ·exact z80
 ·exact Kg
end
end Go.Abs
