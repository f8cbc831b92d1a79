/- A part of the proof that HouseSafe holds. No condition. -/
import Derived.Test.YtgplmdgpmbegiaaGreatDoorSa7
import Derived.Lib.Bytealg
import Derived.Test.YtgplmdgpmbegiaaGreatDoorSa6
import Derived.Lib.ItoaNum
import Derived.Lib.ItoaLen
import Derived.Lib.ItoaMem
import Derived.Lib.Join
import Derived.Test.YtgplmdgpmbegiaaGreatDoorSa0
set_option maxHeartbeats 4000000
set_option linter.all false
open Nat (reduceAdd reduceMul reduceLeDiff reduceEqDiff)
namespace Go.Abs
def lD{α:Type}(l:List α):l= []∨∃m x,l=m++ [x]:=by
 rcases List.eq_nil_or_concat l with h| ⟨m,x,h⟩
 ·exact .inl h
 ·exact .inr ⟨m,x,by rw[h,List.concat_eq_append]⟩
def mC(l:List gy)(n:Int):Bool:=decide ((l.length:Int)≤n) && l.all fun e=>decide (e.kind.length≤40) && decide (e.names.length≤6) && decide (e.cC.length≤8) && decide (e.text.length≤200) && e.names.all fun x=>decide (x.length≤40)
def bK(c:UInt8):By→List (By)
 | []=>[[]]
 | x::r=>
  if x=c then []::bK c r
  else match bK c r with
   | p::ps=>(x::p)::ps
   | []=>[[x]]
def jH{c:UInt8}:∀{s:By},bK c s≠[]
 | []=>by simp[bK]
 | x::r=>by
  unfold bK;split
  ·simp
  ·split<;>simp
theorem rX{c:UInt8}:∀{s:By},c∉s→bK c s= [s]
 | [],_=>rfl
 | x::r,h=>by
  unfold bK;rw[XG (fun e=>h (by simp[e])),rX (fun hr=>h (Yb _ hr))]
theorem qx{c:UInt8}{q:By}:∀{p:By},c∉p→bK c (p++c::q)=p::bK c q
 | [],_=>by simp[bK]
 | x::r,h=>by
  rw[YL,bK,XG (fun e=>h (by simp[e])),qx (fun hr=>h (Yb _ hr))]
theorem qw{c:UInt8}:∀{s:By},(bK c s).length=s.count c+1
 | []=>rfl
 | x::r=>by
  have ih:=qw (c:=c) (s:=r);unfold bK;by_cases h:x=c
  ·subst h;rw[XI rfl,Xy,ih,List.count_cons_self]
  ·rw[XG h,List.count_cons_of_ne h];cases hs:bK c r with
   | nil=>exact absurd hs jH
   | cons p ps=>rw[hs]at ih;simpa using ih
theorem rY{c:UInt8}:∀{s:By},∀p∈bK c s,p.length≤s.length
 | []=>by simp[bK]
 | x::r=>by
  have ih:=rY (c:=c) (s:=r);intro p hp;unfold bK at hp;rw[Xy];by_cases h:x=c
  ·rw[XI h]at hp;rcases X9.1 hp with rfl| hp
   ·simp
   ·have:=ih p hp;omega
  ·rw[XG h]at hp;cases hs:bK c r with
   | nil=>exact absurd hs jH
   | cons q qs=>
    rw[hs]at hp ih;rcases X9.1 hp with rfl| hp
    ·have:=ih q Si;rw[Xy];omega
    ·have:=ih p (by simp[hp]);omega
def jc(c:UInt8):List (By)→By
 | []=>[]
 | [p]=>p
 | p::ps=>p++c::jc c ps
def mL{c:UInt8}{p:By}{r:List (By)}(h:r≠[]):jc c (p::r)=p++c::jc c r:=by
 cases r with
 | nil=>exact absurd rfl h
 | cons=>rfl
theorem ju{c:UInt8}:∀{s:By},jc c (bK c s)=s
 | []=>rfl
 | x::r=>by
  have ih:=ju (c:=c) (s:=r);unfold bK;by_cases h:x=c
  ·subst h;rw[XI rfl];cases hs:bK x r with
   | nil=>exact absurd hs jH
   | cons p ps=>rw[hs]at ih;rw[jc,ih]<;>simp
  ·rw[XG h];cases hs:bK c r with
   | nil=>exact absurd hs jH
   | cons p ps=>
    rw[hs]at ih;cases ps with
    | nil=>rw[jc]at ih ⊢;rw[ih]
    | cons q qs=>
     rw[jc]at ih ⊢<;>first| (rw[←ih];rfl)| simp
theorem Fz{c:UInt8}:∀{s:By},c∉s→Lib.indexByte s c= -1
 | [],_=>rfl
 | x::r,h=>by
  unfold Lib.indexByte;have h1: (x==c)=false:=by simp;exact fun e=>h (by simp[e])
  rw[h1,Fz (fun hr=>h (Yb _ hr))];rfl
theorem BF{c:UInt8}{q:By}:∀{p:By},c∉p→Lib.indexByte (p++c::q) c=p.length
 | [],_=>by simp[Lib.indexByte]
 | x::r,h=>by
  have ih:=BF (q:=q) (fun hr=>h (Yb _ hr):c∉r);rw[YL,Lib.indexByte];have h1: (x==c)=false:=by simp;exact fun e=>h (by simp[e])
  rw[h1,ih];have h2: ((r.length:Int)== -1)=false:=Si
  rw[h2];simp
def vc(c:UInt8)(s:By): (c∉s∧Lib.indexByte s c= -1)∨∃p q,c∉p∧s=p++c::q∧Lib.indexByte s c=p.length:=by
 by_cases h:c∈s
 ·right
  obtain⟨p,q,rfl,hp⟩:=List.eq_append_cons_of_mem h;exact⟨p,q,hp,rfl,BF hp⟩
 ·exact .inl ⟨h,Fz h⟩
def BU(s:By):Int:=s.foldl (fun n c=>10 * n+ ((c.toNat:Int) - 48)) 0
def iB(s:By):Bool:=!decide (s.length=0) && decide (s.length≤9) && !(decide (1 < s.length) && decide (s.head? =some 48)) && s.all eQ
def ri(s:By):Bool:=!decide (s= []) && s.all eQ
def kI(s:By):Int:=if iB s then BU s else 0
def DY:Nat→Nat→By
 | 0,u=>[UInt8.ofNat (48+u)]
 | f+1,u=>
  match Nat.blt u 10 with
  | true=>[UInt8.ofNat (48+u)]
  | false=>DY f (u / 10)++ [UInt8.ofNat (48+u % 10)]
theorem yw:∀ (f u:Nat),u < 10^ (f+1)→DY f u=Lib.decDigits u
 | 0,u,h=>by rw[Lib.decDigits,dif_pos (by simpa using h)];rfl
 | f+1,u,h=>by
  unfold DY;cases hb:Nat.blt u 10 with
  | true=>rw[Lib.decDigits,dif_pos (by rw[Nat.blt_eq]at hb;exact hb)]
  | false=>
   have hn:¬u < 10:=fun x=>by rw[←Nat.blt_eq,hb]at x;cases x
   rw[Lib.decDigits,dif_neg hn,yw f (u / 10) (by rw[Nat.pow_succ]at h;omega)]
def jv(n:Int):By:=DY n.toNat n.toNat
def j9(n:Int):jv n=Lib.decDigits n.toNat:=yw _ _ (Nat.lt_trans (Nat.lt_succ_self _) (Nat.lt_pow_self De))
def hO(s:By):Int:=s.foldl (fun x c=>(339 * x+ (c.toNat:Int)).tmod 9999749) 1
def na(s:By):By:=List.replicate (7 - (jv (hO s)).length) 48++jv (hO s)
def vH(e:gy):List (By):=[jv e.num,e.kind]++e.names++e.cC.map jv
def iC(e:gy):By:=jc 32 (vH e)
def uE(e:gy):By:=iC e++ [35]++na (iC e)++ [10]
def uS(l:List gy):By:=(l.map uE).flatten
def bP:List (By)→Bool→By×List (By)×Bool
 | [],_=>([],[],true)
 | w::r,wr=>if w= []then([],[],true)else(w,r,wr)
def c8:Nat→List (By)→Bool→List (By)×List (By)×Bool
 | 0,ws,b=>([],ws,b)
 | n+1,ws,b=>((bP ws b).1:: (c8 n (bP ws b).2.1 (bP ws b).2.2).1,(c8 n (bP ws b).2.1 (bP ws b).2.2).2)
def fh:Nat→List (By)→Bool→List Int×List (By)×Bool
 | 0,ws,b=>([],ws,b)
 | n+1,ws,b=>(kI (bP ws b).1:: (fh n (bP ws b).2.1 ((bP ws b).2.2|| !iB (bP ws b).1)).1,(fh n (bP ws b).2.1 ((bP ws b).2.2|| !iB (bP ws b).1)).2)
def kY:gy:=⟨0,[],[],[],[]⟩
def dZ(ws:List (By)):gy×Bool:=
 match gF (bP ws false).1 with
 | none=>(kY,false)
 | some d=>
  let n:=c8 (bL d).length (bP ws false).2.1 (bP ws false).2.2
  let v:=fh (cB d) n.2.1 n.2.2
  (⟨0,bz d,n.1,v.1,[]⟩,!v.2.2 && decide (v.2.1.length=0))
def eS(c:UInt8):By→By×By×Bool
 | []=>([],[],false)
 | x::r=>if x=c then([],r,true)else(x:: (eS c r).1,(eS c r).2)
def fD(s:By)(n:Int):gy×Int:=
 if s.length < 8 then(kY,25)else
 if s.getD (s.length - 8) 0≠35∨¬ri (s.drop (s.length - 7))=true then(kY,25)else
 if na (s.take (s.length - 8))≠s.drop (s.length - 7)then(kY,27)else
 let h:=eS 32 (s.take (s.length - 8))
 let e:=dZ (bK 32 h.2.1)
 if !iB h.1|| !e.2|| decide (gI { e.1 with num:=kI h.1 }≠0)then(kY,25)else
 ({ e.1 with num:=kI h.1 },bX (decide (kI h.1≠n)) 11)
def qH:Nat→By→List gy→Nat→List gy×Int×Int
 | 0,_,l,a=>(l,(a:Int),0)
 | f+1,s,l,a=>
  if s= []then(l,(a:Int),0)else
  if !(eS 10 s).2.2 then(l,(a:Int),28)else
  let e:=fD (eS 10 s).1 ((l.length:Int)+1)
  if e.2≠0 then(l,(a:Int),e.2)else qH f (eS 10 s).2.1 (l++ [e.1]) (a+ (eS 10 s).1.length+1)
def kV(s:By):List gy×Int×Int:=if 1000000 < s.length then([],0,26)else qH (s.length+1) s [] 0
def kF(w:By):Option (Nat×Bool×Nat):=
 if w= [108,101,102,116]then some (0,true,4)else
 if w= [102,114,111,109]then some (1,true,5)else
 if w= [108,105,110,101,115]then some (2,true,3)else
 if w= [117,110,115,97,102,101]then some (3,false,2)else
 if w= [116,97,112,101,115]then some (4,true,2)else
 if w= [114,101,108,101,97,115,101,100]then some (5,false,5)else
 if w= [119,97,110,116]then some (6,true,0)else none
def rE(l:List p6):List (By):=(l.map fun p=>if p.rel then [p.name,jv p.mO]else []).flatten
def ke(R:gJ)(n:By):Nat→List (By)
 | 0=>(cU (gh R n).bw 0).map jv
 | 1=>si R n
 | 2=>(iG R n).map gQ.name
 | 3=>eX R R.tick
 | 4=>(kS R n).aJ
 | 5=>rE R.aQ
 | _=>[jv (zd R n).length,jv (dF R n).want,if(dF R n).acc then [97,99,99,101,112,116,101,100]else [111,112,101,110]]
def xD(l:List (By)):By:=if l= []then [110,111,110,101]else jc 32 l
def mS(R:gJ)(ws:List (By))(q:Nat×Bool×Nat):By×Int:=
 let n:=if q.2.1=true∧ws.length=2 then ws.getD 1 []else []
 if(q.2.1=true∧¬ (ws.length=2∧n≠[]))∨(q.2.1=false∧ws.length≠1)then([],25)else
 if q.2.1=true∧dD R q.2.2 n=false then([],10)else(xD (ke R n q.1),0)
def zt(H:ki)(s:By):ki×By×Int:=
 if 4096 < s.length then(H,[],26)else
 if s= []then(H,[],25)else
 match kF ((bK 32 s).headD [])with
 | some q=>(H,mS H.now (bK 32 s) q)
 | none=>
  match gF ((bK 32 s).headD [])with
  | none=>(H,[],13)
  | some _=>
   if !(dZ (bK 32 s)).2 then(H,[],25)else
   if 1000≤H.de.length then(H,[],5)else
   let e:={ (dZ (bK 32 s)).1 with num:=(H.de.length:Int)+1 }
   if fG H e≠0 then(H,[],fG H e)else(mT H e,[100,111,110,101,32]++jv e.num,0)
structure Cj(P:Program):Prop where
 ib:∀ (args:Array Value) (w:World),(callFunc 288 args).run P w= ((Extern.BytealgIndexByte.indexByte args).run P w).andThen fun v w'=>.ok (.value v) w'
 ct:∀ (args:Array Value) (w:World),(callFunc 262 args).run P w= ((Extern.BytealgCount.count args).run P w).andThen fun v w'=>.ok (.value v) w'
def Al(c:UInt8): (c.toNat:Int).toNat.toUInt8=c:=Si
def qy{s}{n:Nat}{kk}(hn:n≤s.length):ur (.str s) none (some (.int kk (n:Int)))=some (.str (s.take n)):=by
 simp only[ur,jw hn,YO,Nat.sub_zero]
def jU{s}{n:Nat}{kk}(hn:n≤s.length):ur (.str s) (some (.int kk (n:Int))) none=some (.str (s.drop n)):=by
 simp only[ur,lQ hn];rw[Yf Si]
def tq{p r kk}:ur (.str (p++r)) none (some (.int kk (p.length:Int)))=some (.str p):=by
 rw[qy Si];simp
def nq{p r c kk}:ur (.str (p++c::r)) (some (.int kk ((p.length+1:Nat):Int))) none=some (.str r):=by
 rw[jU Si];simp
def xZ{α:Type}{don:List α}{z q:α}{m k:Nat}(hk:don.length=k)(hm:0 < m): (don++List.replicate m z).set k q= (don++ [q])++List.replicate (m - 1) z:=by
 subst hk;obtain⟨n,rfl⟩:∃n,m=n+1:=⟨m - 1,Om⟩;rw[Y5,Yp _ _ (XH _),Yy];simp
section
variable {P:Program} (X:Cj P) {h:ah}
include X
theorem Mq(s:By)(c:UInt8):bG P (.func (.func 288) [] []) [.str s,.int .u8 c.toNat] h (fun v h'=>v= .int .i64 (Lib.indexByte s c)∧h' =h):=by
 refine⟨_,[],?_,rfl,Si⟩;rw[XU];intro m w cv vs hr hf hargs;rw[VR]at hf;obtain⟨f',a',c',rfl,hfn,ha,hc⟩:=hf;simp only[zT]at hfn;subst hfn;rw[bC]at ha hc;subst ha;subst hc;obtain⟨v1,vs1,rfl,h1,hargs⟩:=aS.1 hargs;obtain⟨v2,vs2,rfl,h2,hargs⟩:=aS.1 hargs;rw[bC]at hargs;subst hargs;have h1:v1= .string ⟨⟨s⟩⟩:=h1;have h2:v2= .int .u8 (c.toNat:Int):=h2;subst h1;subst h2;refine⟨_,fun w=>rfl,?_⟩;simp only[invoke];rw[X.ib];have e:=Lib.run_indexByteString (P:=P) ⟨⟨s⟩⟩ (c.toNat:Int) w;rw[Al]at e;have e': (Extern.BytealgIndexByte.indexByte (#[]++#[.string ⟨⟨s⟩⟩,.int .u8 (c.toNat:Int)]++#[])).run P w= .ok (.int .i64 (Lib.indexByte s c)) w:=by simpa using e
 exact Ps
theorem Mr(s:By)(c:UInt8):bG P (.func (.func 262) [] []) [.str s,.int .u8 c.toNat] h (fun v h'=>v= .int .i64 (s.count c:Nat)∧h' =h):=by
 refine⟨_,[],?_,rfl,Si⟩;rw[XU];intro m w cv vs hr hf hargs;rw[VR]at hf;obtain⟨f',a',c',rfl,hfn,ha,hc⟩:=hf;simp only[zT]at hfn;subst hfn;rw[bC]at ha hc;subst ha;subst hc;obtain⟨v1,vs1,rfl,h1,hargs⟩:=aS.1 hargs;obtain⟨v2,vs2,rfl,h2,hargs⟩:=aS.1 hargs;rw[bC]at hargs;subst hargs;have h1:v1= .string ⟨⟨s⟩⟩:=h1;have h2:v2= .int .u8 (c.toNat:Int):=h2;subst h1;subst h2;refine⟨_,fun w=>rfl,?_⟩;simp only[invoke];rw[X.ct];have e:=Lib.run_countString (P:=P) ⟨⟨s⟩⟩ (c.toNat:Int) w;rw[Al]at e;have e': (Extern.BytealgCount.count (#[]++#[.string ⟨⟨s⟩⟩,.int .u8 (c.toNat:Int)]++#[])).run P w= .ok (.int .i64 (s.count c:Nat)) w:=by simpa [Lib.countByte]using e
 exact Ps
end
attribute [local irreducible] WP WC WE WB WR WF WL WG fV
section
variable {P:Program} (T:fA P) (X:Cj P) {h:ah}
include T X
theorem r272(s:By)(c:UInt8):aA P 272 [.str s,.int .u8 c.toNat] h (fun v _=>v= .int .i64 (Lib.indexByte s c)):=by
 refine .of T.mix T.c272 ?_;unfold fn272 yT;refine Wn ?_;refine WF.val (Mq X s c) ?_;rintro _ g ⟨rfl,hg⟩;exact Wn Tv
theorem r221(s:By)(c:UInt8):aA P 221 [.str s,.str [c]] h (fun v _=>v= .int .i64 (s.count c:Nat)):=by
 refine .of T.mix T.c221 ?_;unfold fn221;simp only[aV,bd,bD,bE,reduceAdd,reduceMul,reduceLeDiff,reduceEqDiff,XV,show decide (((1:Nat):Int)=0)=false from rfl,show decide (((1:Nat):Int)=1)=true from rfl,uY];refine WF.val (Mr X s c) ?_;rintro _ g ⟨rfl,hg⟩;exact Wn Tv
theorem r253(s:By)(c:UInt8):aA P 253 [.str s,.str [c]] h (fun v _=>v= .int .i64 (Lib.indexByte s c)):=by
 refine .of T.mix T.c253 ?_;unfold fn253;by_cases hs: [c]=s
 ·have d1:decide ([c]=s)=true:=Xz hs;have e:Lib.indexByte s c=0:=by rw[←hs];simp[Lib.indexByte]
  simp only[aV,bd,bD,bE,reduceAdd,reduceMul,reduceLeDiff,reduceEqDiff,XV,show decide (((1:Nat):Int)=0)=false from rfl,d1,e]
 ·have d1:decide ([c]=s)=false:=Xu hs;simp only[aV,bd,bD,bE,reduceAdd,reduceMul,reduceLeDiff,reduceEqDiff,XV,show decide (((1:Nat):Int)=0)=false from rfl,show decide (((1:Nat):Int)=1)=true from rfl,d1,uY];refine WF.ce T.c272 (r272 T X s c) fun g=>?_
  exact Wn Tv
theorem r222(s:By)(c:UInt8):aA P 222 [.str s,.str [c]] h (fun v _=>v= .int .i64 (Lib.indexByte s c)):=by
 refine .of T.mix T.c222 ?_;unfold fn222 yT;refine Wn ?_;refine WF.ce T.c253 (r253 T X s c) fun g=>?_
 exact Wn Tv
set_option maxRecDepth 10000 in
theorem r128(s:By)(c:UInt8)(hs:s.length≤2^40):aA P 128 [.str s,.str [c],.int .i64 0,.int .i64 (-1)] h (fun v h'=>aK h' v 1 ((bK c s).map au)):=by
 refine .of T.mix T.c128 ?_;obtain⟨ts,Qn⟩:∃ts,ts=aT 66 [.str s,.str [c],.int .i64 0,.int .i64 (-1)]:=⟨_,rfl⟩;have hlen:ts.length=66:=by rw[Qn];rfl
 have t0:slot ts 0= .str s:=by rw[Qn];rfl
 have t1:slot ts 1= .str [c]:=by rw[Qn];rfl
 have t2:slot ts 2= .int .i64 0:=by rw[Qn];rfl
 have t3:slot ts 3= .int .i64 (-1):=by rw[Qn];rfl
 unfold fn128;show WC P bR _ [] (aT 66 [.str s,.str [c],.int .i64 0,.int .i64 (-1)]) h _;rw[←Qn];clear Qn;have hcnt:s.count c≤s.length:=List.count_le_length;have w1:IntKind.i64.wrap ((s.count c:Int)+1)= ((s.count c+1:Nat):Int):=by rw[bp Om Om];omega
 have w2:IntKind.i64.wrap ((s.length:Int)+1)= ((s.length+1:Nat):Int):=by rw[bp Om Om];omega
 have e1:min ((s.count c+1:Nat):Int) ((s.length+1:Nat):Int)= ((s.count c+1:Nat):Int):=Om
 have w3:IntKind.i64.wrap (((s.count c+1:Nat):Int) - 1)= ((s.count c:Nat):Int):=by rw[bp Om Om];omega
 have dn:decide ([c]= ([] :By))=false:=Xu Si;have d1:decide ((-1:Int)=0)=false:=rfl;have d2:decide (-1 < (0:Int))=true:=rfl;refine Rs (A7 t0 t1 t2 t3 @dn @d1 @d2) ?_;refine WF.ce T.c221 (r221 T X s c) fun g1=>?_
 repeat (first| simp (config:={ maxSteps:=1000000 }) only[aV,bd,bD,bE,reduceAdd,reduceMul,reduceLeDiff,reduceEqDiff,bF,hlen,XO,XR,t0,t1,t2,t3,w1,w2,e1,w3,nG (es:=1) (w:=16) (N0:=(h++g1).length) (n:=s.count c+1) (z:=[AV.str []]) (k:=.i64) (k':=.i64) Om Om]| simp (config:={ maxSteps:=1000000 }) (disch:=first| (simp only[Xs,Xy,XA]<;>omega)| rfl| omega| fail) only[fM,aV,bd,bD,bE,reduceAdd,reduceMul,reduceLeDiff,reduceEqDiff,bF,hlen,XO,XR,t0,t1,t2,t3,w1,w2,e1,w3,nG (es:=1) (w:=16) (N0:=(h++g1).length) (n:=s.count c+1) (z:=[AV.str []]) (k:=.i64) (k':=.i64) Om Om])
 have hF:=Fr.Ae (N:=h.length) (n:=s.count c+1) (h:=h++g1) (z:=[AV.str []]) (es:=1) Si rfl;obtain⟨sv,hsv⟩:∃sv,sv=AV.slice (h++g1).length 0 (s.count c+1) 1:=⟨_,rfl⟩;rw[←hsv]at hF ⊢;have er:List.replicate (s.count c+1) [AV.str []]= (List.replicate (s.count c+1) ([] :By)).map au:=by simp[au]
 rw[er,Xt]at hF;rw[Xt];refine WL.inv T.mix (fun n ts' h'=>∃ (k:Nat) (don:List (By)) (q:By) (g':ah),don.length=k∧bK c s=don++bK c q∧k+q.count c=s.count c∧n=s.count c - k∧h' =h++g'∧Fr h.length h' sv 1 ((don++List.replicate (s.count c+1 - k) ([] :By)).map au)∧ts'.length=66∧slot ts' 0= .str q∧slot ts' 1= .str [c]∧slot ts' 2= .int .i64 0∧slot ts' 3= .int .i64 ((s.count c:Nat):Int)∧slot ts' 9=sv∧slot ts' 10= .int .i64 k) (s.count c)
  ⟨0,[],s,_,rfl,rfl,Om,rfl,rfl,hF,(Sq t0),(Sq t0),(Sq t1),(Sq t2),(Sq t0),(Sq t0),iF⟩ ?_
 rintro _ ts' _ ⟨k,don,q,g',hdl,UF,hkc,rfl,rfl,hF',Ry,u0,u1,u2,u3,u9,Wc⟩;clear hlen t0 t1 t2 t3;have hlen:=Ry;have UL:k < (don++List.replicate (s.count c+1 - k) ([] :By)).length:=by simp;omega
 have hql:q.length≤s.length:=by
  have e1:=ju (c:=c) (s:=s);have:∀ (d:List (By)) (z:List (By)),(jc c z).length≤(jc c (d++z)).length:=by
   intro d
   induction d with
   | nil=>intro z;exact XH _
   | cons x d ih=>
    intro z;by_cases hz:d++z= []
    ·have:z= []:=by simp at hz;exact hz.2
     subst this;simp[jc]
    ·rw[YL,mL hz];have:=ih z;simp;omega
  have:=this don (bK c q);rw[←UF,ju,ju]at this;exact this
 rcases vc c q with⟨hno,hix⟩| ⟨p,q',hp,hq,hix⟩
 ·have hc0:q.count c=0:=List.count_eq_zero.2 hno;have e3:¬ (k:Int)< ((s.count c:Nat):Int):=Om
  have ek:s.count c+1 - k=1:=Om
  have ixk:=hF'.a8.dG (kk:=.i64) UL;have w4:IntKind.i64.wrap ((k:Int)+1)= ((k+1:Nat):Int):=by rw[bp Om Om];omega
  refine Rs (A9 @u0 @u1 @u2 @u3 @u9 @Wc e3 @XX @ixk) ?_;refine WR.uG (h0:=h) (off:=0) (x':=q) hF' UL De rfl (by simp[au]) ?_;intro g3 WZ VY _;rw[xZ hdl Om,ek]at VY;simp only[Yy,ZW,XU]at VY;have esp:don++ [q]=bK c s:=by rw[UF,rX hno]
  rw[esp]at VY;have SA:iO none (some (AV.int .i64 ((k+1:Nat):Int))) (bK c s).length=some (0,k+1):=jw (by rw[←esp];simp;omega);obtain⟨s',es',Qo⟩:=VY.a8.Fc SA;refine Rs (A8 @u0 @u1 @u2 @u3 @u9 @Wc @w4 @es') ?_;have et:List.take (k+1 - 0) (List.drop 0 (bK c s))=bK c s:=by
   rw[YO,Yf (by rw[←esp];simp;omega)]
  rw[et]at Qo;exact Qo
 ·have hcq:q.count c=q'.count c+1:=by rw[hq,List.count_append,List.count_eq_zero.2 hp,List.count_cons_self];omega
  have e3: (k:Int)< ((s.count c:Nat):Int):=Om
  refine Rs (A8 @u0 @u1 @u2 @u3 @u9 @Wc e3 @XS) ?_;refine WF.ce T.c222 (r222 T X q c) fun g2=>?_
  have ixk:=(hF'.app g2).a8.dG (kk:=.i64) UL;have w4:IntKind.i64.wrap ((k:Int)+1)= ((k+1:Nat):Int):=by rw[bp Om Om];omega
  have Tt:p.length < q.length:=by rw[hq];simp
  have w5:IntKind.i64.wrap ((p.length:Int)+0)= (p.length:Int):=by rw[bp Om Om];omega
  have w6:IntKind.i64.wrap ((p.length:Int)+ ((1:Nat):Int))= ((p.length+1:Nat):Int):=by rw[bp Om Om];omega
  have dp:decide ((p.length:Int)< 0)=false:=Xu Om;have hF2:=hF'.app g2;rw[Xt]at hF2 ⊢;rw[hix];subst hq
  repeat (first| simp (config:={ maxSteps:=1000000 }) only[aV,bd,bD,bE,reduceAdd,reduceMul,reduceLeDiff,reduceEqDiff,bF,hlen,XO,XR,u0,u1,u2,u3,u9,Wc,dp,w5,ixk,tq,XV,w6,nq]| simp (config:={ maxSteps:=1000000 }) (disch:=first| (simp only[Xs,Xy,XA]<;>omega)| rfl| omega| fail) only[fM,aV,bd,bD,bE,reduceAdd,reduceMul,reduceLeDiff,reduceEqDiff,bF,hlen,XO,XR,u0,u1,u2,u3,u9,Wc,dp,w5,ixk,tq,XV,w6,nq])
  refine WR.uG (h0:=h) (off:=0) (x':=p) hF2 UL De rfl (by simp[au]) ?_;intro g3 WZ VY _;rw[xZ hdl Om]at VY
  repeat (first| simp (config:={ maxSteps:=1000000 }) only[aV,bd,bD,bE,reduceAdd,reduceMul,reduceLeDiff,reduceEqDiff,bF,hlen,XO,XR,u0,u1,u2,u3,u9,Wc,XV,w6,nq,w4]| simp (config:={ maxSteps:=1000000 }) (disch:=first| (simp only[Xs,Xy,XA]<;>omega)| rfl| omega| fail) only[fM,aV,bd,bD,bE,reduceAdd,reduceMul,reduceLeDiff,reduceEqDiff,bF,hlen,XO,XR,u0,u1,u2,u3,u9,Wc,XV,w6,nq,w4])
  have em:s.count c+1 - k - 1=s.count c+1 - (k+1):=Om
  rw[em]at VY;exact⟨s.count c - (k+1),Om,k+1,don++ [p],q',g3,by simp[hdl],by rw[UF,qx hp];simp,Om,rfl,rfl,VY,rfl,rfl⟩
theorem r64(s:By)(c:UInt8)(hs:s.length≤2^40):aA P 64 [.str s,.str [c]] h (fun v h'=>aK h' v 1 ((bK c s).map au)):=by
 refine .of T.mix T.c64 ?_;unfold fn64;refine Wn ?_;refine WF.res T.c128 (r128 T X s c hs) ?_;intro v g hv;refine Wn ?_;exact hv
omit T X in
theorem yx{c}:∀{s},c∉s→eS c s= (s,[],false)
 | [],_=>rfl
 | x::r,h=>by
  simp only[X9,not_or]at h;rw[eS,XG (fun e=>h.1 e.symm),yx h.2]
omit T X in
theorem vE{c}:∀{p q},c∉p→eS c (p++c::q)= (p,q,true)
 | [],q,_=>by rw[Y8,eS,XI rfl]
 | x::r,q,h=>by
  simp only[X9,not_or]at h;rw[YL,eS,XG (fun e=>h.1 e.symm),vE h.2]
theorem r188(s:By)(c:UInt8)(hs:s.length≤2^40):aA P 188 [.str s,.str [c]] h (fun v _=>v= .dJ [.str (eS c s).1,.str (eS c s).2.1,.bool (eS c s).2.2]):=by
 refine .of T.mix T.c188 ?_;unfold fn188;refine Wn ?_;refine WF.ce T.c253 (r253 T X s c) fun g=>?_
 rcases vc c s with⟨hno,hix⟩| ⟨p,q,hp,hq,hix⟩
 ·refine Ws (A2 @hix (show decide ((0:Int)≤-1)=false from rfl)) ?_;rw[yx hno]
 ·have d1:decide ((0:Int)≤(p.length:Int))=true:=Xz Om;have Tt:p.length < s.length:=by rw[hq];simp
  have w6:IntKind.i64.wrap ((p.length:Int)+ ((1:Nat):Int))= ((p.length+1:Nat):Int):=by rw[bp Om Om];omega
  rw[hix];subst hq;simp only[aV,bd,bD,bE,reduceAdd,reduceMul,reduceLeDiff,reduceEqDiff,d1,XV,w6,tq,nq];rw[vE hp]
theorem r98(s:By)(c:UInt8)(hs:s.length≤2^40):aA P 98 [.str s,.str [c]] h (fun v _=>v= .dJ [.str (eS c s).1,.str (eS c s).2.1,.bool (eS c s).2.2]):=by
 refine .of T.mix T.c98 ?_;unfold fn98;refine Wn ?_;refine WF.ce T.c188 (r188 T X s c hs) fun g=>?_
 exact Wn Tv
end
def Pw(h:ah):Prop:=∃mu tl,h[2]? =some (.cells (Lib.pow10Tab.map (AV.int .u64)) mu tl)
def Pw.ext{h k}(o:Pw h)(e:Ext h k):Pw k:=by
 obtain⟨mu,tl,hb⟩:=o;exact⟨mu,tl,e.some hb⟩
structure pZ(P:Program):Prop where
 itoa:∀{h:ah} {n:Int},-9223372036854775808≤n→n≤9223372036854775807→Pw h→aA P 113 [.i n] h (fun v _=>v= .str (Lib.itoa n))
 join:∀{h:ah} {s:AV} {sep:By} {xs:List (By)},aK h s 1 (xs.map au)→(Lib.join xs sep).length≤140737488355328∧xs.length≤140737488355328→aA P 114 [s,.str sep] h (fun v _=>v= .str (Lib.join xs sep))
 atoi:∀{h:ah} {s:By},s.all eQ=true→s≠[]→s.length≤9→aA P 254 [.str s] h (fun v _=>v= .dJ [.i (BU s),.jY])
 rep:∀{h:ah} {n:Nat},n≤7→aA P 252 [.str [48],.i (n:Nat)] h (fun v _=>v= .str (List.replicate n 48))
def gj{n}(h:0≤n):Lib.itoa n=jv n:=by rw[j9];unfold Lib.itoa;rw[XG Om]
theorem lL:∀{k u},u < 10^ (k+1)→(Lib.decDigits u).length≤k+1
 | 0,u,h=>by rw[Lib.decDigits,dif_pos (by simpa using h)];simp
 | k+1,u,h=>by
  by_cases hu:u < 10
  ·rw[Lib.decDigits,dif_pos hu];simp
  ·rw[Lib.decDigits,dif_neg hu,Xs];have:=lL (k:=k) (u:=u / 10) (by rw[Nat.pow_succ]at h;omega);simp;omega
def j8{c}:eQ c=true↔48≤c.toNat∧c.toNat≤57:=by simp[eQ]
def mz{α:Type}{s:List α}{k:Nat}(hk:k < s.length):s.take (k+1)=s.take k++ [s[k]]:=by
 rw[Ye,Xw hk];rfl
def gC(sw:AV)(wr:Bool):aq:=.b [sw,.bool wr]
section
variable {P:Program} (T:fA P) {h A B:ah}
include T
set_option maxRecDepth 10000 in
theorem r189(s:By)(hs:s.length≤2^40):aA P 189 [.str s] h (fun v _=>v= .bool (ri s)):=by
 refine .kE 18 T.mix T.c189 ?_;intro ts hlen t0;unfold fn189;refine Rs t0 ?_;refine WL.inv T.mix (fun n ts' h'=>∃k:Nat,k≤s.length∧n=s.length - k∧h' =h++ [.iter s k]∧(s.take k).all eQ=true∧ts'.length=18∧slot ts' 0= .str s∧slot ts' 6= .ptr h.length 0) s.length
  ⟨0,Om,rfl,rfl,rfl,(Sq t0),(Sq t0),(Sq t0)⟩ ?_
 rintro _ ts' _ ⟨k,hk,rfl,rfl,hd,Ry,u0,u6⟩;clear hlen t0;have hlen:=Ry;by_cases hlt:k < s.length
 ·obtain⟨c,w,SG,hcw⟩:∃c w,Utf8.decode ⟨⟨s⟩⟩ k= (c,w)∧(c=s[k].toNat∧w=1∧s[k].toNat < 128∨128≤c∧128≤s[k].toNat):=by
   by_cases hc:s[k].toNat < 128
   ·exact⟨_,_,dec_lt hlt hc,.inl ⟨rfl,rfl,hc⟩⟩
   ·exact IJ
  have hall:eQ s[k]=false→AV.bool false=AV.bool (ri s):=fun hx=>by
   have:s.all eQ=false:=by rw[List.all_eq_false];exact⟨s[k],XJ hlt,by simp[hx]⟩
   simp only[ri,this,Bool.and_false]
  by_cases a5: (48:Int)≤c
  ·by_cases a6: (c:Int)≤57
   ·have hc:c=s[k].toNat∧w=1:=Om
    obtain⟨rfl,rfl⟩:=hc;have hy:eQ s[k]=true:=j8.2 Om;have d1:decide ((s[k].toNat:Int)< 48)=false:=Xu Om;have d2:decide ((57:Int)< (s[k].toNat:Int))=false:=Xu Om
    repeat (first| simp (config:={ maxSteps:=1000000 }) only[aV,bd,bD,bE,reduceAdd,reduceMul,reduceLeDiff,reduceEqDiff,bF,hlen,XO,XR,u0,u6,dS,hlt,XR,SG,d1,d2]| simp (config:={ maxSteps:=1000000 }) (disch:=first| (simp only[Xs,Xy,XA]<;>omega)| rfl| omega| fail) only[fM,aV,bd,bD,bE,reduceAdd,reduceMul,reduceLeDiff,reduceEqDiff,bF,hlen,XO,XR,u0,u6,dS,hlt,XR,SG,d1,d2])
    refine⟨s.length - (k+1),Om,k+1,Om,rfl,rfl,?_,trivial⟩;rw[mz hlt,List.all_append,hd];simp[hy]
   ·have d1:decide ((c:Int)< 48)=false:=Xu Om;have d2:decide ((57:Int)< (c:Int))=true:=Xz Om
    repeat (first| simp (config:={ maxSteps:=1000000 }) only[aV,bd,bD,bE,reduceAdd,reduceMul,reduceLeDiff,reduceEqDiff,bF,hlen,XO,XR,u0,u6,dS,hlt,XR,SG,d1,d2]| simp (config:={ maxSteps:=1000000 }) (disch:=first| (simp only[Xs,Xy,XA]<;>omega)| rfl| omega| fail) only[fM,aV,bd,bD,bE,reduceAdd,reduceMul,reduceLeDiff,reduceEqDiff,bF,hlen,XO,XR,u0,u6,dS,hlt,XR,SG,d1,d2])
    exact Jj
  ·have d1:decide ((c:Int)< 48)=true:=Xz Om
   repeat (first| simp (config:={ maxSteps:=1000000 }) only[aV,bd,bD,bE,reduceAdd,reduceMul,reduceLeDiff,reduceEqDiff,bF,hlen,XO,XR,u0,u6,dS,hlt,XR,SG,d1]| simp (config:={ maxSteps:=1000000 }) (disch:=first| (simp only[Xs,Xy,XA]<;>omega)| rfl| omega| fail) only[fM,aV,bd,bD,bE,reduceAdd,reduceMul,reduceLeDiff,reduceEqDiff,bF,hlen,XO,XR,u0,u6,dS,hlt,XR,SG,d1])
   exact Jj
 ·have ek:k=s.length:=Om
  rw[ek,X8]at hd
  repeat (first| simp (config:={ maxSteps:=1000000 }) only[aV,bd,bD,bE,reduceAdd,reduceMul,reduceLeDiff,reduceEqDiff,bF,hlen,XO,XR,u0,u6,dS,hlt,XO]| simp (config:={ maxSteps:=1000000 }) (disch:=first| (simp only[Xs,Xy,XA]<;>omega)| rfl| omega| fail) only[fM,aV,bd,bD,bE,reduceAdd,reduceMul,reduceLeDiff,reduceEqDiff,bF,hlen,XO,XR,u0,u6,dS,hlt,XO])
  simp only[ri,hd,Bool.and_true,decide_not]
omit T in
theorem zv{s}:iB s= (ri s && decide (s.length≤9) && !(decide (1 < s.length) && decide (s.head? =some 48))):=by
 unfold iB ri;cases s with
 | nil=>rfl
 | cons x r=>cases (x::r).all eQ<;>cases decide ((x::r).length≤9)<;>simp
set_option maxRecDepth 10000 in
theorem r190(Z:pZ P)(s:By)(hs:s.length≤2^40):aA P 190 [.str s] h (fun v _=>v= .dJ [.i (kI s),.bool (iB s)]):=by
 refine .kE 30 T.mix T.c190 ?_;intro ts hlen t0;unfold fn190;refine Rs t0 ?_;refine WF.ce T.c189 (r189 T s hs) fun g=>?_
 have bad:iB s=false→AV.dJ [.i 0,.bool false]=AV.dJ [.i (kI s),.bool (iB s)]:=fun hb=>by unfold kI;rw[hb];rfl
 have e0:=zv (s:=s);cases hd:ri s with
 | false=>
  rw[hd]at e0;refine Rs (A3 t0 @hd @XY) ?_;exact bad (by rw[e0];rfl)
 | true=>
  rw[hd]at e0;have QU:=hd;unfold ri at QU;simp only[X4,YN,Zj]at QU;by_cases h9:9 < s.length
  ·have d9:decide ((9:Int)< s.length)=true:=Xz Om;have q9:decide (s.length≤9)=false:=Xu Om;rw[q9]at e0;refine Rs (A4 t0 @hd @XW @d9) ?_;exact bad (by rw[e0];rfl)
  ·have d9:decide ((9:Int)< s.length)=false:=Xu Om;have q9:decide (s.length≤9)=true:=Xz Om;rw[q9]at e0;obtain⟨c,r,rfl⟩:∃c r,s=c::r:=by cases s with| nil=>exact absurd rfl QU.1| cons c r=>exact⟨c,r,rfl⟩
   by_cases h1:1 < (c::r).length
   ·have d1:decide ((1:Int)< ((c::r).length:Int))=true:=Xz Om;have q1:decide (1 < (c::r).length)=true:=Xz h1;rw[q1]at e0;by_cases h2:c=48
    ·have d2:decide ((c.toNat:Int)=48)=true:=by rw[h2];rfl
     have q2:decide ((c::r).head? =some 48)=true:=by rw[h2];rfl
     rw[q2]at e0;refine Rs (A7 t0 @hd @XW @d9 @d1 @uY @d2) ?_;exact bad (by rw[e0];rfl)
    ·have d2:decide ((c.toNat:Int)=48)=false:=Xu fun e=>h2 (UInt8.toNat_inj.1 (by simpa using (by omega:c.toNat=48)))
     have q2:decide ((c::r).head? =some 48)=false:=Xu (by simp[h2]);rw[q2]at e0;have e1:iB (c::r)=true:=by rw[e0];rfl
     refine Rs (A7 t0 @hd @XW @d9 @d1 @uY @d2) ?_;exact Jn
   ·have d1:decide ((1:Int)< ((c::r).length:Int))=false:=Xu Om;have q1:decide (1 < (c::r).length)=false:=Xu h1;rw[q1]at e0;have e1:iB (c::r)=true:=by rw[e0];rfl
    refine Rs (A5 t0 @hd @XW @d9 @d1) ?_;exact Jn
set_option maxRecDepth 10000 in
theorem Hg{sw ws wr}(hs:aK A sw 1 (ws.map au)):
  db P 207 [.ptr A.length 0] (A++ [gC sw wr]++B) (fun v h'=>∃sw',v= .str (bP ws wr).1∧h' =A++ [gC sw' (bP ws wr).2.2]++B∧aK A sw' 1 ((bP ws wr).2.1.map au)):=by
 refine .of T.mix T.c207 ?_;obtain⟨ts,Qn⟩:∃ts,ts=aT 40 [.ptr A.length 0]:=⟨_,rfl⟩;have hlen:ts.length=40:=by rw[Qn];rfl
 have t0:slot ts 0= .ptr A.length 0:=by rw[Qn];rfl
 unfold fn207;show WC P bR _ [] (aT 40 [.ptr A.length 0]) (A++ [gC sw wr]++B) _;rw[←Qn];clear Qn;unfold gC;have c0:=hs.one;have hsE:∀{k:ah},aK (A++k) sw 1 (ws.map au):=fun {k}=>hs.ext ⟨k,rfl⟩
 cases ws with
 | nil=>
  have d0:decide ((([] :List (By)).length:Int)=0)=true:=rfl;refine Rs (A4 t0 hs.aP @d0 @c0) ?_;exact⟨.af,by rw[bP];exact⟨rfl,rfl,aK.nil⟩⟩
 | cons w r=>
  have d0:decide (((w::r).length:Int)=0)=false:=Xu (by simp;omega);have ix:=hs.qa (kk:=.i64) Si;have ld:∀{k:ah},Ext A k→ao none (cV sw 1 0) (fun b=>k[b]?)=some (.str w,.az):=fun {k} e=>hs.kO (i:=0) Si rfl e
  by_cases hw:w= []
  ·have d1:decide (w= [])=true:=Xz hw;refine Rs (A7 t0 hs.aP @d0 ix @ld @d1 @c0) ?_;exact⟨.af,by rw[bP,XI hw];exact⟨rfl,rfl,aK.nil⟩⟩
  ·have d1:decide (w= [])=false:=Xu hw;have SA:iO (some (AV.i 1)) none (w::r).length=some (1,(w::r).length):=lQ (k:=1) Si;obtain⟨s',es',Qo⟩:=hs.Fc SA;have et:List.take ((w::r).length - 1) (List.drop 1 (w::r))=r:=Si
   rw[et]at Qo;refine Rs (A9 t0 hs.aP @d0 ix @ld @d1 @c0 @es' Qo.one) ?_;exact⟨s',by rw[bP,XG hw];exact⟨rfl,rfl,Qo⟩⟩
set_option maxRecDepth 10000 in
theorem NN(Z:pZ P){sw ws wr}(hs:aK A sw 1 (ws.map au))(hl:∀x∈ws,x.length≤2^40):
  db P 208 [.ptr A.length 0] (A++ [gC sw wr]++B) (fun v h'=>∃ (sw':AV) (g:ah),v= .i (kI (bP ws wr).1)∧h' =A++ [gC sw' ((bP ws wr).2.2|| !iB (bP ws wr).1)]++ (B++g)∧aK A sw' 1 ((bP ws wr).2.1.map au)):=by
 refine .of T.mix T.c208 ?_;obtain⟨ts,Qn⟩:∃ts,ts=aT 23 [.ptr A.length 0]:=⟨_,rfl⟩;have hlen:ts.length=23:=by rw[Qn];rfl
 have t0:slot ts 0= .ptr A.length 0:=by rw[Qn];rfl
 unfold fn208;show WC P bR _ [] (aT 23 [.ptr A.length 0]) (A++ [gC sw wr]++B) _;rw[←Qn];clear Qn;refine Rs t0 ?_;refine WF.gen T.c207 (Hg T hs) ?_;rintro _ _ ⟨sw',rfl,rfl,Qo⟩;have hwl: (bP ws wr).1.length≤2^40:=by
  cases ws with
  | nil=>simp[bP]
  | cons w r=>
   by_cases hw:w= []
   ·rw[bP,XI hw];simp
   ·rw[bP,XG hw];exact hl w Si
 generalize (bP ws wr).1=w at hwl ⊢;generalize (bP ws wr).2.2=wr' at Qo ⊢;generalize (bP ws wr).2.1=ws' at Qo ⊢;refine Rs t0 ?_;refine WF.ce T.c190 (r190 T Z w hwl) fun g=>?_
 unfold gC;have c0:=Qo.one;cases wr' with
 | true=>
  refine Rs (A3 t0 @c0 @Bool.true_or) ?_;exact⟨sw',g,by rw[Xt],Qo⟩
 | false=>
  refine Rs (A3 t0 @c0 @ZI) ?_;exact⟨sw',g,by rw[Xt],Qo⟩
end
def tH{α:Type}{p:α→Bool}{L:List α}{k:Nat}(hlt:k < L.length)(hi:L.findIdx? p= ((L.drop k).findIdx? p).map (· +k)): (p L[k]=true→cS p L= (k:Int))∧(p L[k]=false→L.findIdx? p= ((L.drop (k+1)).findIdx? p).map (· + (k+1))):=by
 have hd:L.drop k=L[k]::L.drop (k+1):=Si
 rw[hd,ZM]at hi;constructor
 ·intro hp;rw[hp]at hi;rw[cS,hi];simp
 ·intro hp;rw[hp]at hi;rw[hi];exact PB
def vA{α:Type}{p:α→Bool}{L:List α}(hi:L.findIdx? p= ((L.drop L.length).findIdx? p).map (· +L.length)):cS p L= -1:=by
 rw[Ys]at hi;rw[cS,hi];rfl
set_option maxRecDepth 10000
section
variable {P:Program} (T:fA P) {h:ah}
include T
theorem r20(n lo hi:Int):aA P 20 [.i n,.i lo,.i hi] h (fun v _=>v= .bool (decide (bh n lo hi≠0))):=by
 refine .nj 15 T.mix T.c20 ?_;intro ts hlen t0 t1 t2;unfold fn20;by_cases h1:n < lo
 ·have q1:decide (n < lo)=true:=Xz h1;refine Rs (A4 t0 t1 t2 q1) ?_;rw[bh,XI (.inl h1)];rfl
 ·have q1:decide (n < lo)=false:=Xu h1;by_cases h2:hi < n
  ·have q2:decide (hi < n)=true:=Xz h2;refine Rs (A5 t0 t1 t2 q1 q2) ?_;rw[bh,XI (.inr h2)];rfl
  ·have q2:decide (hi < n)=false:=Xu h2;refine Rs (A5 t0 t1 t2 q1 q2) ?_;rw[bh,XG Om];rfl
theorem r35{L:List (By)}{s:AV}(hs:aK h s 1 (L.map au))(hl:L.length < 2^40)(n:By):aA P 35 [s,.str n] h (fun v _=>v= .bool (decide (n∈L))):=by
 refine .eF 18 T.mix T.c35 ?_;intro ts hlen t0 t1;unfold fn35;refine Rs (A2 t0 t1) ?_;refine WL.inv T.mix (fun m ts h'=>∃k:Nat,k≤L.length∧m=L.length - k∧h' =h∧(n∈L↔n∈L.drop k)∧ts.length=18∧slot ts 0=s∧slot ts 1= .str n∧slot ts 5= .i k) L.length
  ⟨0,Om,rfl,rfl,Iff.rfl,Sn,(Sq t0),(Sq t1),iF⟩ ?_
 rintro _ ts _ ⟨k,hk,rfl,rfl,hi,hlen,t0,t1,t5⟩;by_cases hlt:k < L.length
 ·have hd:L.drop k=L[k]::L.drop (k+1):=Si
  rw[hd,X9]at hi;have e3:=fk hlt;have ix:=hs.dG (kk:=.i64) hlt;have ld:=hs.kO (i:=k) (x:=.str L[k]) hlt rfl (Ext.refl _);have e5:IntKind.i64.wrap ((k:Int)+1)= ((k+1:Nat):Int):=wrapN Om;by_cases hp:L[k]=n
  ·have q:decide (L[k]=n)=true:=Xz hp;refine Rs (A8 t0 t1 t5 e3 hs.aP ix @ld q) ?_;exact X6 AV.bool (Xz (hi.2 (.inl hp.symm))).symm
  ·have q:decide (L[k]=n)=false:=Xu hp;refine Rs (A9 t0 t1 t5 e3 hs.aP ix @ld q e5) ?_;exact⟨_,Om,k+1,Om,rfl,⟨fun z=>(hi.1 z).resolve_left fun e=>hp e.symm,fun z=>hi.2 (.inr z)⟩,rfl⟩
 ·have e3:=gq hlt;have e4:k=L.length:=Om
  refine Rs (A5 t0 t1 t5 e3 hs.aP) ?_;rw[e4,Ys]at hi;exact X6 AV.bool (Xu (fun z=>by simpa using hi.1 z)).symm
theorem r25{L M:List (By)}{s t:AV}(hs:aK h s 1 (L.map au))(ht:aK h t 1 (M.map au))(hl:L.length < 2^40)(hm:M.length < 2^40):aA P 25 [s,t] h (fun v _=>v= .bool (decide (L=M))):=by
 refine .eF 26 T.mix T.c25 ?_;intro ts hlen t0 t1;unfold fn25 JD;by_cases h1:L.length=M.length
 case neg=>
  have q:decide ((L.length:Int)≠M.length)=true:=Xz Om;refine Rs (A5 t0 t1 hs.aP ht.aP q) ?_;exact X6 AV.bool (Xu (fun(e:L=M)=>h1 (by rw[e]))).symm
 have q:decide ((L.length:Int)≠M.length)=false:=Xu Om;refine Rs (A5 t0 t1 hs.aP ht.aP q) ?_;refine WL.inv T.mix (fun m ts h'=>∃k:Nat,k≤L.length∧m=L.length - k∧h' =h∧L.take k=M.take k∧ts.length=26∧slot ts 0=s∧slot ts 1=t∧slot ts 5= .i k) L.length
  ⟨0,Om,rfl,rfl,rfl,Sn,(Sq t0),(Sq t1),iF⟩ ?_
 rintro _ ts h' ⟨k,hk,rfl,rfl,hi,hlen,t0,t1,t5⟩;by_cases hlt:k < L.length
 ·have QX:k < M.length:=Om
  have e3:=fk hlt;have ix:=hs.dG (kk:=.i64) hlt;have iy:=ht.dG (kk:=.i64) QX;have ld:∀{kk:ah},Ext h' kk→_:=fun {kk} e=>hs.kO (i:=k) (x:=.str L[k]) (k:=kk) hlt rfl e
  have ly:∀{kk:ah},Ext h' kk→_:=fun {kk} e=>ht.kO (i:=k) (x:=.str M[k]) (k:=kk) QX rfl e
  have e5:IntKind.i64.wrap ((k:Int)+1)= ((k+1:Nat):Int):=wrapN Om;by_cases hp:L[k]=M[k]
  ·have q:decide (L[k]≠M[k])=false:=Xu (fun z=>z hp);refine Rs (mX t0 t1 t5 e3 hs.aP ix @ld @iy @ly q e5) ?_;refine⟨_,Om,k+1,Om,rfl,?_,rfl⟩;rw[Ye,Ye,hi,Xw hlt,Xw QX,hp]
  ·have q:decide (L[k]≠M[k])=true:=Xz hp;refine Rs (mY t0 t1 t5 e3 hs.aP ix @ld @iy @ly q) ?_;exact X6 AV.bool (Xu (fun(e:L=M)=>hp (by simp only[e]))).symm
 ·have e3:=gq hlt;have e4:k=L.length:=Om
  refine Rs (A5 t0 t1 t5 e3 hs.aP) ?_;rw[e4,X8,h1,X8]at hi;exact X6 AV.bool (Xz hi).symm
theorem o9{f i w:Nat}{α:Type}{row:α→List AV}{nm:α→By}{L:List α}{s:AV}{V:RV}(c:ai P f=some (uk i w))(o:aD h V)(hs:aK h s w (L.map row))(hv:V.row[i]? =some s)(hr:∀y,(row y)[0]? =some (.str (nm y)))(hl:L.length < 2^30)(n:By):aA P f [.agg V.row,.str n] h (fun v _=>v= .i (cS (fun y=>decide (nm y=n)) L)):=by
 refine .eF 22 T.mix c ?_;intro ts hlen t0 t1;unfold uk;have Qm:=@aD.box _ _ o;refine Rs (A3 t0 t1 @Qm) ?_;refine WL.inv T.mix (fun m ts h'=>∃k:Nat,k≤L.length∧m=L.length - k∧h' =h++ [aq.b V.row]∧L.findIdx? (fun y=>decide (nm y=n))= ((L.drop k).findIdx? (fun y=>decide (nm y=n))).map (· +k)∧ts.length=22∧slot ts 1= .str n∧slot ts 2= .ptr h.length 0∧slot ts 5= .i k) L.length
  ⟨0,Om,rfl,rfl,Si,Sn,(Sq t1),Sw,iF⟩ ?_
 rintro _ ts _ ⟨k,hk,rfl,rfl,hi,hlen,t1,t2,t5⟩;have lb:∀{kk n a},Ext (h++ [aq.b V.row]) kk→ao n (.ptr h.length a) (fun z=>kk[z]?)=cp n a (.b V.row):=fun {_ _ _} e=>an (e.some bf)
 by_cases hlt:k < L.length
 ·have e3:=fk hlt;have ix:=hs.dG (kk:=.i64) hlt;have e5:IntKind.i64.wrap ((k:Int)+1)= ((k+1:Nat):Int):=wrapN Om;obtain⟨h1,h2⟩:=tH hlt hi;obtain⟨y,hy⟩:∃y,y=L[k]:=⟨_,rfl⟩;have ld:∀{kk:ah},Ext h kk→ao none (lh s w k 0) (fun b=>kk[b]?)=some (.str (nm y),.az):=fun {kk} e=>hs.pG hlt (by rw[←hy];exact hr y) e
  rw[←hy]at h1 h2;by_cases hp:nm y=n
  ·have q:decide (nm y=n)=true:=Xz hp;refine Rs (mY t1 t2 t5 @lb @hv hs.aP e3 ix @ld q) ?_;rw[h1 q]
  ·have q:decide (nm y=n)=false:=Xu hp;refine Rs (mX t1 t2 t5 @lb @hv hs.aP e3 ix @ld q e5) ?_;exact⟨_,Om,k+1,Om,rfl,h2 q,rfl⟩
 ·have e3:=gq hlt;have e4:k=L.length:=Om
  refine Rs (A7 t1 t2 t5 @lb @hv hs.aP e3) ?_;subst e4;rw[vA hi]
theorem r28{V:RV}(o:aD h V)(l:ed V)(n:By):aA P 28 [.agg V.row,.str n] h (fun v _=>v= .i (cS (fun y=>decide (y.name=n)) V.lines)):=
 o9 T (nm:=fun y:gQ=>y.name) T.c28 o o.i0 fT (fun _=>rfl) l.l0 n
theorem r141{V:RV}(o:aD h V)(l:ed V)(n:By):aA P 141 [.agg V.row,.str n] h (fun v _=>v= .i (cS (fun y=>decide (y.name=n)) V.aJ)):=
 o9 T (nm:=fun y:rA=>y.name) T.c141 o o.i1 kU (fun _=>rfl) l.l1 n
theorem r22{V:RV}(o:aD h V)(l:ed V)(n:By):aA P 22 [.agg V.row,.str n] h (fun v _=>v= .i (cS (fun y:jh×AV=>decide (y.1.name=n)) V.ak)):=
 o9 T (nm:=fun y:jh×AV=>y.1.name) T.c22 o o.i2 eJ (fun _=>rfl) l.l2 n
theorem r55{V:RV}(o:aD h V)(l:ed V)(n:By):aA P 55 [.agg V.row,.str n] h (fun v _=>v= .i (cS (fun y:gP×AV=>decide (y.1.name=n)) V.aE)):=
 o9 T (nm:=fun y:gP×AV=>y.1.name) T.c55 o o.i3 fE (fun _=>rfl) l.l3 n
theorem r56{V:RV}(o:aD h V)(l:ed V)(n:By):aA P 56 [.agg V.row,.str n] h (fun v _=>v= .i (cS (fun y:kK×AV=>decide (y.1.name=n)) V.aH)):=
 o9 T (nm:=fun y:kK×AV=>y.1.name) T.c56 o o.i4 fS (fun _=>rfl) l.l4 n
theorem r57{V:RV}(o:aD h V)(l:ed V)(n:By):aA P 57 [.agg V.row,.str n] h (fun v _=>v= .i (cS (fun y=>decide (y.name=n)) V.aQ)):=
 o9 T (nm:=fun y:p6=>y.name) T.c57 o o.i5 gR (fun _=>rfl) l.l5 n
end
def kM(r:Nat×Bool):UInt8:=
 match r.1,r.2 with
 | 0,true=>108
 | 1,true=>116
 | 2,true=>115
 | 3,true=>109
 | 4,true=>106
 | _,true=>112
 | 0,false=>76
 | 1,false=>84
 | 2,false=>83
 | 3,false=>77
 | 4,false=>74
 | _,false=>80
def wv(d:Kd):By:=(bL d).map kM
def yq(k:By):List AV:=
 match gF k with
 | none=>[.str [],.i 0,.bool false]
 | some d=>[.str (wv d),.i (cB d:Int),.bool true]
def gk(d:Kd):decide (bz d= [108,105,110,101])=decide (d= .line):=by cases d<;>rfl
def gW(d:Kd):decide (bz d= [116,97,112,101])=decide (d= .tape):=by cases d<;>rfl
def qX(d:Kd):decide (bz d= [115,104,111,116])=decide (d= .fY):=by cases d<;>rfl
def vi(d:Kd):decide (bz d= [99,111,112,121])=decide (d= .copy):=by cases d<;>rfl
def qY(d:Kd):decide (bz d= [97,99,99,101,112,116])=decide (d= .accept):=by cases d<;>rfl
def gN(d:Kd):decide (bz d= [115,111,117,114,99,101])=decide (d= .source):=by cases d<;>rfl
def jM(d:Kd):decide (bz d= [109,111,100,117,108,101])=decide (d= .fL):=by cases d<;>rfl
def iV(d:Kd):decide (bz d= [109,101,114,103,101])=decide (d= .merge):=by cases d<;>rfl
def yo(d:Kd):decide (bz d= [114,117,110])=decide (d= .run):=by cases d<;>rfl
def ve(d:Kd):decide (bz d= [116,105,108,101])=decide (d= .fK):=by cases d<;>rfl
def vh(d:Kd):decide (bz d= [102,97,105,108])=decide (d= .fail):=by cases d<;>rfl
def vg(d:Kd):decide (bz d= [112,105,99,116,117,114,101])=decide (d= .fZ):=by cases d<;>rfl
def qb(d:Kd):decide (bz d= [114,101,108,101,97,115,101])=decide (d= .rel):=by cases d<;>rfl
def nL(d:Kd):decide (bz d= [117,110,100,111])=decide (d= .e8):=by cases d<;>rfl
def gG:type_of% (zU @gk @gW @qX @vi @qY @gN @jM @iV @yo @ve @vh @vg @qb @nL):=zU @gk @gW @qX @vi @qY @gN @jM @iV @yo @ve @vh @vg @qb @nL
def A0:∀r:Nat×Bool,r.1 < 6→decide (97≤((kM r).toNat:Int))=r.2
 | (0,true),_=>rfl
 | (1,true),_=>rfl
 | (2,true),_=>rfl
 | (3,true),_=>rfl
 | (4,true),_=>rfl
 | (5,true),_=>rfl
 | (0,false),_=>rfl
 | (1,false),_=>rfl
 | (2,false),_=>rfl
 | (3,false),_=>rfl
 | (4,false),_=>rfl
 | (5,false),_=>rfl
def Df(d:Kd):∀r∈bL d,r.1 < 6:=by cases d<;>decide
section
variable {P:Program} (T:fA P) {h:ah}
include T
theorem r101(k:By):aA P 101 [.str k] h (fun v _=>v= .agg (yq k)):=by
 refine .kE 47 T.mix T.c101 ?_;intro ts hlen t0;unfold fn101;unfold yq;cases hk:gF k with
 | none=>
  have Wj:decide (k= [108,105,110,101])=false:=Xu (dz hk .line);have Wf:decide (k= [116,97,112,101])=false:=Xu (dz hk .tape);have Wg:decide (k= [115,104,111,116])=false:=Xu (dz hk .fY);have Wl:decide (k= [99,111,112,121])=false:=Xu (dz hk .copy);have TT:decide (k= [97,99,99,101,112,116])=false:=Xu (dz hk .accept);have TR:decide (k= [115,111,117,114,99,101])=false:=Xu (dz hk .source);have Wi:decide (k= [109,111,100,117,108,101])=false:=Xu (dz hk .fL);have UT:decide (k= [109,101,114,103,101])=false:=Xu (dz hk .merge);have q_run:decide (k= [114,117,110])=false:=Xu (dz hk .run);have We:decide (k= [116,105,108,101])=false:=Xu (dz hk .fK)
  have Wk:decide (k= [102,97,105,108])=false:=Xu (dz hk .fail);have Wh:decide (k= [112,105,99,116,117,114,101])=false:=Xu (dz hk .fZ);have q_rel:decide (k= [114,101,108,101,97,115,101])=false:=Xu (dz hk .rel);have Wd:decide (k= [117,110,100,111])=false:=Xu (dz hk .e8);exact Rs (Cu t0 @Wj @Wf @Wg @Wl @TT @TR @Wi @UT @q_run @We @Wk @Wh @q_rel @Wd) Tv
 | some d=>
  have Qu:=cw hk;subst Qu;clear hk;cases d
  all_goals
   refine oE (A4 t0 @gG @XS @XX) ?_;rfl
theorem r39{x}(o:bo h x)(hl:x.ev.names.length≤2^40∧x.ev.cC.length≤2^40)(hn:∀n∈x.ev.names,n.length < 2^63):aA P 39 [.agg x.row] h (fun v _=>v= .i (gI x.ev)):=by
 refine .kE 59 T.mix T.c39 ?_;intro ts hlen t0;unfold fn39;have Qm:=@bo.box _ _ o;refine Rs (A3 t0 @Qm @mN) ?_;refine WF.ce T.c20 (r20 T _ _ _) fun g1=>?_
 by_cases h0:bh x.ev.num 1 1000=0
 case neg=>
  have e0:decide (bh x.ev.num 1 1000≠0)=true:=Xz h0;refine Rs (A2 t0 e0) ?_;rw[gI,XI h0]
 have e0:decide (bh x.ev.num 1 1000≠0)=false:=Xu (fun z=>z h0);refine Rs (A3 t0 e0 @bA) ?_;refine WF.ce T.c101 (r101 T _) fun g2=>?_
 unfold yq;rw[gI,XG (fun z=>z h0)];cases hd:gF x.ev.kind with
 | none=>
  exact Rs (A2 t0 @XY) Tv
 | some d=>
  have RM: (wv d).length= (bL d).length:=by rw[wv,XB]
  have hr3: (bL d).length≤3∧cB d≤3:=by cases d<;>decide
  refine Rs (A7 t0 @XW @aO @aY o.n.aP o.v.aP @RM) ?_;by_cases h1:x.ev.names.length= (bL d).length
  case neg=>
   have q:decide ((x.ev.names.length:Int)≠(bL d).length)=true:=Xz Om;refine Rs (A2 t0 q) ?_;rw[XI (.inl h1)]
  have q:decide ((x.ev.names.length:Int)≠(bL d).length)=false:=Xu Om;by_cases h2:x.ev.cC.length=cB d
  case neg=>
   have q2:decide ((x.ev.cC.length:Int)≠cB d)=true:=Xz Om;refine Rs (A5 t0 @aY q q2 o.v.aP) ?_;rw[XI (.inr h2)]
  have q2:decide ((x.ev.cC.length:Int)≠cB d)=false:=Xu Om;refine Rs (A5 t0 @aY q q2 o.v.aP) ?_;rw[XG Om];obtain⟨H,hH⟩:∃H,H=h++ [aq.b x.row]++g1++g2++ [aq.b [AV.str (wv d),.i (cB d:Int),.bool true]]:=⟨_,rfl⟩;obtain⟨fb,hfb⟩:∃fb,fb= (h++ [aq.b x.row]++g1++g2).length:=⟨_,rfl⟩;have QP:Ext h H:=by rw[hH];exact Xx
  have me:H[h.length]? =some (.b x.row):=by rw[hH];exact(show Ext (h++ [aq.b x.row]) _ from Xx).some bf
  have mf:H[fb]? =some (.b [AV.str (wv d),.i (cB d:Int),.bool true]):=by rw[hH,hfb];exact bf
  rw[←hH,←hfb];refine WL.inv T.mix (fun m ts h'=>∃k:Nat,k≤x.ev.names.length∧m=x.ev.names.length - k∧Ext H h'∧x.ev.names.any (fun s=>!dU s)= (x.ev.names.drop k).any (fun s=>!dU s)∧ts.length=59∧slot ts 1= .ptr h.length 0∧slot ts 3= .ptr fb 0∧slot ts 4= .i k) x.ev.names.length
   ⟨0,Om,rfl,.refl _,rfl,Sn,Sw,Sw,iF⟩ ?_
  rintro _ ts h' ⟨k,hk,rfl,hx,hi,hlen,t1,t3,t4⟩;have le:∀{kk n a},Ext h' kk→ao n (.ptr h.length a) (fun z=>kk[z]?)=cp n a (.b x.row):=fun {_ _ _} e=>an ((hx.trans e).some me)
  have lf:∀{kk n a},Ext h' kk→ao n (.ptr fb a) (fun z=>kk[z]?)=cp n a (.b [AV.str (wv d),.i (cB d:Int),.bool true]):=fun {_ _ _} e=>an ((hx.trans e).some mf)
  by_cases hlt:k < x.ev.names.length
  ·have e3:decide ((k:Int)< (bL d).length)=true:=Xz Om;have e5:IntKind.i64.wrap ((k:Int)+1)= ((k+1:Nat):Int):=wrapN Om;have ix:=o.n.dG (kk:=.i64) hlt;have ld:∀{kk:ah},Ext h' kk→ao none (cV x.sn 1 k) (fun b=>kk[b]?)=some (.str x.ev.names[k],.az):=fun {kk} e=>o.n.kO hlt rfl ((QP.trans hx).trans e)
   have Vi:x.ev.names.drop k=x.ev.names[k]::x.ev.names.drop (k+1):=Si
   rw[Vi,ZT]at hi;have hnk:=hn x.ev.names[k] (XJ _);obtain⟨y,hy⟩:∃y,y=x.ev.names[k]:=⟨_,rfl⟩;rw[←hy]at ld hi hnk;refine Rs (mY t1 t3 t4 @le @lf @RM e3 @aO ix @ld) ?_;refine WF.ce T.c102 (r102 T y hnk) fun g3=>?_
   cases hny:dU y with
   | false=>
    rw[hny]at hi;have hi:x.ev.names.any (fun s=>!dU s)=true:=hi;refine Rs (A4 t1 t3 t4 @XY) ?_;refine⟨(QP.trans hx).trans Xx,?_⟩;rw[XI hi]
   | true=>
    rw[hny]at hi;refine Rs (A5 t1 t3 t4 @XW e5) ?_;exact IQ
  ·have e3:decide ((k:Int)< (bL d).length)=false:=Xu Om;have e4:k=x.ev.names.length:=Om
   have hi0:x.ev.names.any (fun s=>!dU s)=false:=by rw[hi,e4,Ys];rfl
   rw[XG (by rw[hi0];decide)];refine Rs (A6 t1 t3 t4 @lf @RM e3) ?_;refine WL.inv T.mix (fun m ts Vq=>∃k:Nat,k≤x.ev.cC.length∧m=x.ev.cC.length - k∧Ext H Vq∧x.ev.cC.any (fun n=>decide (bh n 0 999999999≠0))= (x.ev.cC.drop k).any (fun n=>decide (bh n 0 999999999≠0))∧ts.length=59∧slot ts 1= .ptr h.length 0∧slot ts 3= .ptr fb 0∧slot ts 5= .i k) x.ev.cC.length
    ⟨0,Om,rfl,hx,rfl,Sn,(Sq t1),(Sq t3),iF⟩ ?_
   clear t1 t3 t4 hlen hlt hi e3 e4 hk le lf hx;clear ts k h';rintro _ ts h' ⟨k,hk,rfl,hx,hi,hlen,t1,t3,t5⟩;have le:∀{kk n a},Ext h' kk→ao n (.ptr h.length a) (fun z=>kk[z]?)=cp n a (.b x.row):=fun {_ _ _} e=>an ((hx.trans e).some me)
   have lf:∀{kk n a},Ext h' kk→ao n (.ptr fb a) (fun z=>kk[z]?)=cp n a (.b [AV.str (wv d),.i (cB d:Int),.bool true]):=fun {_ _ _} e=>an ((hx.trans e).some mf)
   by_cases hlt:k < x.ev.cC.length
   ·have e3:decide ((k:Int)< cB d)=true:=Xz Om;have e5:IntKind.i64.wrap ((k:Int)+1)= ((k+1:Nat):Int):=wrapN Om;have ix:=o.v.dG (kk:=.i64) hlt;have ld:∀{kk:ah},Ext h' kk→ao none (cV x.sv 1 k) (fun b=>kk[b]?)=some (.i x.ev.cC[k],.az):=fun {kk} e=>o.v.kO hlt rfl ((QP.trans hx).trans e)
    have Vi:x.ev.cC.drop k=x.ev.cC[k]::x.ev.cC.drop (k+1):=Si
    rw[Vi,ZT]at hi;obtain⟨y,hy⟩:∃y,y=x.ev.cC[k]:=⟨_,rfl⟩;rw[←hy]at ld hi;refine Rs (A9 t1 t3 t5 @le @lf e3 @aY ix @ld) ?_;refine WF.ce T.c20 (r20 T _ _ _) fun g3=>?_
    cases hny:decide (bh y 0 999999999≠0)with
    | true=>
     rw[hny]at hi;have hi:x.ev.cC.any (fun n=>decide (bh n 0 999999999≠0))=true:=hi;refine Rs (A3 t1 t3 t5) ?_;refine⟨(QP.trans hx).trans Xx,?_⟩;rw[XI hi]
    | false=>
     rw[hny]at hi;refine Rs (A4 t1 t3 t5 e5) ?_;exact IQ
   ·have e3:decide ((k:Int)< cB d)=false:=Xu Om;have e4:k=x.ev.cC.length:=Om
    have hi0:x.ev.cC.any (fun n=>decide (bh n 0 999999999≠0))=false:=by rw[hi,e4,Ys];rfl
    rw[XG (by rw[hi0];decide)];by_cases ht:x.ev.text= []
    ·have q:decide (x.ev.text≠[])=false:=Xu (fun z=>z ht);refine Rs (A8 t1 t3 t5 @lf @le e3 @wZ q) ?_;refine⟨QP.trans hx,?_⟩;rw[XG (fun z=>z ht)]
    ·have q:decide (x.ev.text≠[])=true:=Xz ht;refine Rs (A8 t1 t3 t5 @lf @le e3 @wZ q) ?_;refine⟨QP.trans hx,?_⟩;rw[XI ht]
end
def CF(R:gJ)(e:gy):List (Nat×Bool)→Bool
 | []=>false
 | r::_=>!r.2 && dD R r.1 (aN e 0)
def Br{R e d}:kG d R e=if mw R e (bL d) 0 then 10 else bX (CF R e (bL d)) 9:=by
 have:qu R e (bL d) 0=CF R e (bL d):=by cases d<;>simp[bL,qu,CF]
 rw[kG,this];rfl
def zB:∀r:Nat×Bool,r.1 < 6→r.2=false→IntKind.u8.wrap (IntKind.u8.wrap (((kM r).toNat:Int)+97) - 65)= ((kM (r.1,true)).toNat:Int)
 | (0,false),_,_=>rfl
 | (1,false),_,_=>rfl
 | (2,false),_,_=>rfl
 | (3,false),_,_=>rfl
 | (4,false),_,_=>rfl
 | (5,false),_,_=>rfl
section
variable {P:Program} (T:fA P) {h:ah}
include T
theorem Qe{V}(o:aD h V)(l:ed V)(n:By):aA P 195 [.agg V.row,.int .u8 ((kM (0,true)).toNat:Int),.str n] h (fun v _=>∃i,v= .i i∧decide (0≤i)=dD V.ar 0 n):=by
 refine .nj 36 T.mix T.c195 ?_;intro ts hlen t0 t1 t2;unfold fn195;have Qm:=@aD.box _ _ o;have q0:decide (((kM (0,true)).toNat:Int)=108)=true:=rfl;refine Rs (A6 t0 t1 t2 @Qm q0 @aF) ?_;refine WF.ce T.c28 (r28 T (o.ext Xx) l n) fun g1=>?_
 refine Rs t0 ?_;exact⟨_,rfl,eZ (f:=fun y:gQ=>y.name)⟩
theorem Qd{V}(o:aD h V)(l:ed V)(n:By):aA P 195 [.agg V.row,.int .u8 ((kM (1,true)).toNat:Int),.str n] h (fun v _=>∃i,v= .i i∧decide (0≤i)=dD V.ar 1 n):=by
 refine .nj 36 T.mix T.c195 ?_;intro ts hlen t0 t1 t2;unfold fn195;have Qm:=@aD.box _ _ o;have q0:decide (((kM (1,true)).toNat:Int)=108)=false:=rfl;have q1:decide (((kM (1,true)).toNat:Int)=116)=true:=rfl;refine Rs (A7 t0 t1 t2 @Qm q0 q1 @aF) ?_;refine WF.ce T.c141 (r141 T (o.ext Xx) l n) fun g1=>?_
 refine Rs t0 ?_;exact⟨_,rfl,eZ (f:=fun y:rA=>y.name)⟩
theorem Qc{V}(o:aD h V)(l:ed V)(n:By):aA P 195 [.agg V.row,.int .u8 ((kM (2,true)).toNat:Int),.str n] h (fun v _=>∃i,v= .i i∧decide (0≤i)=dD V.ar 2 n):=by
 refine .nj 36 T.mix T.c195 ?_;intro ts hlen t0 t1 t2;unfold fn195;have Qm:=@aD.box _ _ o;have q0:decide (((kM (2,true)).toNat:Int)=108)=false:=rfl;have q1:decide (((kM (2,true)).toNat:Int)=116)=false:=rfl;have q2:decide (((kM (2,true)).toNat:Int)=115)=true:=rfl;refine Rs (A8 t0 t1 t2 @Qm q0 q1 q2 @aF) ?_;refine WF.ce T.c22 (r22 T (o.ext Xx) l n) fun g1=>?_
 refine Rs t0 ?_;refine⟨_,rfl,(eZ (f:=fun y:jh×AV=>y.1.name)).trans ?_⟩;rw[←gf];rfl
theorem Qb{V}(o:aD h V)(l:ed V)(n:By):aA P 195 [.agg V.row,.int .u8 ((kM (3,true)).toNat:Int),.str n] h (fun v _=>∃i,v= .i i∧decide (0≤i)=dD V.ar 3 n):=by
 refine .nj 36 T.mix T.c195 ?_;intro ts hlen t0 t1 t2;unfold fn195;have Qm:=@aD.box _ _ o;have q0:decide (((kM (3,true)).toNat:Int)=108)=false:=rfl;have q1:decide (((kM (3,true)).toNat:Int)=116)=false:=rfl;have q2:decide (((kM (3,true)).toNat:Int)=115)=false:=rfl;have q3:decide (((kM (3,true)).toNat:Int)=109)=true:=rfl;refine Rs (A9 t0 t1 t2 @Qm q0 q1 q2 q3 @aF) ?_;refine WF.ce T.c55 (r55 T (o.ext Xx) l n) fun g1=>?_
 refine Rs t0 ?_;refine⟨_,rfl,(eZ (f:=fun y:gP×AV=>y.1.name)).trans ?_⟩;rw[←gT];rfl
theorem Qa{V}(o:aD h V)(l:ed V)(n:By):aA P 195 [.agg V.row,.int .u8 ((kM (4,true)).toNat:Int),.str n] h (fun v _=>∃i,v= .i i∧decide (0≤i)=dD V.ar 4 n):=by
 refine .nj 36 T.mix T.c195 ?_;intro ts hlen t0 t1 t2;unfold fn195;have Qm:=@aD.box _ _ o;have q0:decide (((kM (4,true)).toNat:Int)=108)=false:=rfl;have q1:decide (((kM (4,true)).toNat:Int)=116)=false:=rfl;have q2:decide (((kM (4,true)).toNat:Int)=115)=false:=rfl;have q3:decide (((kM (4,true)).toNat:Int)=109)=false:=rfl;have q4:decide (((kM (4,true)).toNat:Int)=106)=true:=rfl;refine Rs (mY t0 t1 t2 @Qm q0 q1 q2 q3 q4 @aF) ?_;refine WF.ce T.c56 (r56 T (o.ext Xx) l n) fun g1=>?_
 refine Rs t0 ?_;refine⟨_,rfl,(eZ (f:=fun y:kK×AV=>y.1.name)).trans ?_⟩;rw[←gU];rfl
theorem P9{V}(o:aD h V)(l:ed V)(n:By):aA P 195 [.agg V.row,.int .u8 ((kM (5,true)).toNat:Int),.str n] h (fun v _=>∃i,v= .i i∧decide (0≤i)=dD V.ar 5 n):=by
 refine .nj 36 T.mix T.c195 ?_;intro ts hlen t0 t1 t2;unfold fn195;have Qm:=@aD.box _ _ o;have q0:decide (((kM (5,true)).toNat:Int)=108)=false:=rfl;have q1:decide (((kM (5,true)).toNat:Int)=116)=false:=rfl;have q2:decide (((kM (5,true)).toNat:Int)=115)=false:=rfl;have q3:decide (((kM (5,true)).toNat:Int)=109)=false:=rfl;have q4:decide (((kM (5,true)).toNat:Int)=106)=false:=rfl;refine Rs (mY t0 t1 t2 @Qm q0 q1 q2 q3 q4 @aF) ?_;refine WF.ce T.c57 (r57 T (o.ext Xx) l n) fun g1=>?_
 refine Rs t0 ?_;exact⟨_,rfl,eZ (f:=fun y:p6=>y.name)⟩
theorem r195{V}(o:aD h V)(l:ed V){t}(ht:t < 6)(n:By):aA P 195 [.agg V.row,.int .u8 ((kM (t,true)).toNat:Int),.str n] h (fun v _=>∃i,v= .i i∧decide (0≤i)=dD V.ar t n):=by
 match t,ht with
 | 0,_=>exact Qe T o l n
 | 1,_=>exact Qd T o l n
 | 2,_=>exact Qc T o l n
 | 3,_=>exact Qb T o l n
 | 4,_=>exact Qa T o l n
 | 5,_=>exact P9 T o l n
theorem r223{V x d}(o:aD h V)(l:ed V)(ox:bo h x)(wx:kC x.ev d):aA P 223 [.agg V.row,.agg x.row] h (fun v _=>v= .i (kG d V.ar x.ev)):=by
 refine .eF 55 T.mix T.c223 ?_;intro ts hlen t0 t1;unfold fn223;have Qm:=@aD.box _ _ o;have hex:=@bo.box _ _ ox;refine Rs (A5 t0 t1 @Qm @hex @bA) ?_;refine WF.ce T.c101 (r101 T _) fun g1=>?_
 unfold yq;rw[wx.kd];obtain⟨L,hL⟩:∃L,L=bL d:=⟨_,rfl⟩;have hnl:x.ev.names.length=L.length:=by rw[hL];exact wx.nl
 have Vp:L.length≤3:=by rw[hL];cases d<;>decide
 have VW:∀r∈L,r.1 < 6:=by rw[hL];exact Df d
 have RM: (wv d).length=L.length:=by rw[wv,XB,hL]
 refine Rs (A2 t0 t1) ?_;obtain⟨H,hH⟩:∃H,H=h++ [aq.b V.row]++ [aq.b x.row]++g1:=⟨_,rfl⟩;obtain⟨eb,heb⟩:∃eb,eb= (h++ [aq.b V.row]).length:=⟨_,rfl⟩;have QP:Ext h H:=by rw[hH];exact Xx
 have mr:H[h.length]? =some (.b V.row):=by rw[hH];exact(show Ext (h++ [aq.b V.row]) _ from Xx).some bf
 have me:H[eb]? =some (.b x.row):=by rw[hH,heb];exact(show Ext (h++ [aq.b V.row]++ [aq.b x.row]) _ from Xx).some bf
 rw[←hH,←heb];have Tk:∀ (i:Nat) (hi:i < L.length),aZ 1 x.sn (.i (i:Int))=some (cV x.sn 1 i,.az):=fun i hi=>ox.n.dG Om
 have hld:∀ (i:Nat) (hi:i < L.length) (k':ah),Ext h k'→ao none (cV x.sn 1 i) (fun b=>k'[b]?)=some (.str (aN x.ev i),.az):=fun i hi k' e=>by
  exact z72
 have hixs:∀ (i:Nat) (hi:i < L.length),uZ (.str (wv d)) (.i (i:Int))=some (.int .u8 ((kM L[i]).toNat:Int)):=fun i hi=>by
  have hi':i < (wv d).length:=Om
  rw[jB hi'];have: (wv d)[i]=kM L[i]:=by simp only[wv,hL,YC]
  rw[this]
 refine WL.inv T.mix (fun m ts h'=>∃k:Nat,k≤L.length∧m=L.length - k∧Ext H h'∧mw V.ar x.ev L 0=mw V.ar x.ev (L.drop k) k∧ts.length=55∧slot ts 2= .ptr h.length 0∧slot ts 3= .ptr eb 0∧slot ts 5= .str (wv d)∧slot ts 6= .i k) L.length
  ⟨0,Om,rfl,.refl _,rfl,Sn,Sw,Sw,Sw,iF⟩ ?_
 clear t0 t1 hlen Qm hex;clear ts;rintro _ ts h' ⟨k,hk,rfl,hx,hu,hlen,t2,t3,t5,t6⟩;have le:∀{kk n a},Ext h' kk→ao n (.ptr eb a) (fun z=>kk[z]?)=cp n a (.b x.row):=fun {_ _ _} e=>an ((hx.trans e).some me)
 have lr:∀{kk n a},Ext h' kk→ao n (.ptr h.length a) (fun z=>kk[z]?)=cp n a (.b V.row):=fun {_ _ _} e=>an ((hx.trans e).some mr)
 by_cases hlt:k < L.length
 ·have e3:=fk hlt;have e5:IntKind.i64.wrap ((k:Int)+1)= ((k+1:Nat):Int):=wrapN Om;have iy:=Tk k hlt;have ly:∀{k'},Ext h' k'→ao none (cV x.sn 1 k) (fun b=>k'[b]?)=some (.str (aN x.ev k),.az):=fun {k'} e=>hld k hlt k' ((QP.trans hx).trans e)
  have ii:=hixs k hlt;have hd:L.drop k=L[k]::L.drop (k+1):=Si
  obtain⟨r,T6⟩:∃r,r=L[k]:=⟨_,rfl⟩;have UG:r.1 < 6:=by rw[T6];exact VW _ (XJ _)
  rw[hd,←T6,mw]at hu;rw[←T6]at ii;have qg:=A0 r UG;cases Rv:r.2 with
  | false=>
   rw[Rv]at hu qg;refine Rs (A9 t2 t3 t5 t6 @RM e3 @ii @qg e5) ?_;exact IS
  | true=>
   rw[Rv]at hu qg;have er:r= (r.1,true):=by rw[←Rv]
   rw[er]at ii qg;refine Rs (zU t2 t3 t5 t6 @RM e3 @ii @qg @le @lr @aF @aO @iy @ly) ?_;refine WF.res T.c195 (r195 T ((o.ext (QP.trans hx)).ext Xx) l UG _) ?_;rintro _ g3 ⟨i,rfl,hi⟩;have qi:decide (i < 0)= !dD V.ar r.1 (aN x.ev k):=by rw[←hi];by_cases h0:0≤i<;>simp[h0]<;>omega
   cases hh:dD V.ar r.1 (aN x.ev k)with
   | true=>
    rw[hh]at hu qi;have qi:decide (i < 0)=false:=qi;refine Rs (A6 t2 t3 t5 t6 @qi e5) ?_;exact IS
   | false=>
    rw[hh]at hu qi;have qi:decide (i < 0)=true:=qi;have hu1:mw V.ar x.ev L 0=true:=by rw[hu];rfl
    refine Rs (A5 t2 t3 t5 t6 @qi) ?_;refine⟨(QP.trans hx).trans Xx,?_⟩;rw[Br,←hL,XI hu1]
 ·have e3:=gq hlt;have e4:k=L.length:=Om
  have Th:mw V.ar x.ev L 0=false:=by rw[hu,e4,Ys];rfl
  have UC:=QP.trans hx;rw[Br,←hL,XG (by rw[Th];decide)];refine Rs (A6 t2 t3 t5 t6 @RM e3) ?_;cases hLc:L with
  | nil=>
   have q0:decide ((0:Int)< (([] :List (Nat×Bool)).length:Int))=false:=rfl;refine Rs (A5 t2 t3 t5 t6 q0) ?_;exact⟨UC,rfl⟩
  | cons r rest=>
   rw[CF];have q0:decide ((0:Int)< ((r::rest).length:Int))=true:=Xz (by simp only[Xy];omega);have Vd:0 < L.length:=by rw[hLc];simp
   have ii:uZ (.str (wv d)) (.i 0)=some (.int .u8 ((kM r).toNat:Int)):=by
    have:=hixs 0 Vd;simp only[hLc,List.getElem_cons_zero]at this;exact this
   have UG:r.1 < 6:=VW r (by rw[hLc];simp);have qg:=A0 r UG;have qa:aZ 1 x.sn (.i 0)=some (cV x.sn 1 0,.az):=Tk 0 Vd;have ld0:∀{k':ah},Ext h' k'→ao none (cV x.sn 1 0) (fun b=>k'[b]?)=some (.str (aN x.ev 0),.az):=fun {k'} e=>hld 0 Vd k' (UC.trans e)
   cases Rv:r.2 with
   | true=>
    rw[Rv]at qg;have qg2:decide (((kM r).toNat:Int)< 97)=false:=Xu (by have:=YH qg;omega);refine Rs (A7 t2 t3 t5 t6 q0 @ii @qg2) ?_;exact⟨UC,rfl⟩
   | false=>
    rw[Rv]at qg;have qg2:decide (((kM r).toNat:Int)< 97)=true:=Xz (by have:=of_decide_eq_false qg;omega);have ew:=zB r UG Rv;refine Rs (zU t2 t3 t5 t6 q0 @ii @qg2 @le @lr @aF @aO @qa @ld0 @ew) ?_;refine WF.res T.c195 (r195 T (o.ext UC) l UG _) ?_;rintro _ g3 ⟨i,rfl,hi⟩;cases hh:dD V.ar r.1 (aN x.ev 0)with
    | true=>
     exact I8
    | false=>
     exact I8
end
section
variable {P:Program} (T:fA P) {h:ah}
include T
theorem r84{V}(o:aD h V)(l:ed V){n}(hn:n∈jA V.ar)(t:Int):aA P 84 [.agg V.row,.str n,.i t] h (fun v _=>v= .bool (jn V.ar t n)):=by
 refine .nj 17 T.mix T.c84 ?_;intro ts hlen t0 t1 t2;unfold fn84;have Qm:=@aD.box _ _ o;have hlt:=cP hn;have QX:bj (jA V.ar) n < V.aJ.length:=by simpa [jA,RV.ar]using hlt
 have ix:aZ 2 V.s1 (.i ((bj (jA V.ar) n:Nat):Int))=some (cV V.s1 2 (bj (jA V.ar) n),.az):=o.i1.dG QX;have ev:jm V.ar n=V.aJ[bj (jA V.ar) n]:=c9 (f:=rA.name) (l:=V.aJ) hn;have ld:∀{k':ah},Ext h k'→ao none (lh V.s1 2 (bj (jA V.ar) n) 1) (fun b=>k'[b]?)=some (.i (jm V.ar n).last,.az):=fun {k'} e=>by
  rw[ev];exact o.i1.pG QX rfl e
 refine Rs (A6 t0 t1 t2 @Qm @kU @aF) ?_;refine WF.ce T.c141 (r141 T (o.ext Xx) l n) fun g1=>?_
 have ei:cS (fun y:rA=>decide (y.name=n)) V.aJ= (bj (jA V.ar) n:Int):=eD (f:=fun y:rA=>y.name) hn;rw[ei];refine Rs (A5 t0 t1 t2 ix @ld) ?_;rfl
theorem r23{V}(o:aD h V)(l:ed V){x}(hx:aK h x.2 1 (x.1.aJ.map au))(hl:x.1.aJ.length < 2^30)(hk:∀n∈x.1.aJ,n∈jA V.ar)(t:Int):
  aA P 23 [.agg V.row,.agg (bg x),.i t] h (fun v _=>v= .bool (eI V.ar x.1 t)):=by
 refine .nj 23 T.mix T.c23 ?_;intro ts hlen t0 t1 t2;unfold fn23;have Qm:=@aD.box _ _ o;have ox:=hx.one;unfold bg at t1;refine Rs (A5 t0 t1 t2 @Qm @ox) ?_;obtain⟨H,hH⟩:∃H,H=h++ [aq.b V.row]++ [aq.b [AV.str x.1.name,.str x.1.line,x.2]]:=⟨_,rfl⟩;obtain⟨sb,hsb⟩:∃sb,sb= (h++ [aq.b V.row]).length:=⟨_,rfl⟩;have QP:Ext h H:=by rw[hH];exact Xx
 have mr:H[h.length]? =some (.b V.row):=by rw[hH];exact(show Ext (h++ [aq.b V.row]) _ from Xx).some bf
 have ms:H[sb]? =some (.b [AV.str x.1.name,.str x.1.line,x.2]):=by rw[hH,hsb];exact bf
 rw[←hH,←hsb];refine WL.inv T.mix (fun n ts h'=>∃k:Nat,k≤x.1.aJ.length∧n=x.1.aJ.length - k∧Ext H h'∧eI V.ar x.1 t= (x.1.aJ.drop k).any (jn V.ar t)∧
   ts.length=23∧slot ts 2= .i t∧slot ts 3= .ptr h.length 0∧slot ts 4= .ptr sb 0∧slot ts 7= .i k) x.1.aJ.length
  ⟨0,Om,rfl,.refl _,rfl,Sn,(Sq t2),Sw,Sw,iF⟩ ?_
 rintro _ ts h' ⟨k,Qq,rfl,he,hi,hlen,t2,t3,t4,t7⟩;have lr:∀{kk n a},Ext h' kk→ao n (.ptr h.length a) (fun z=>kk[z]?)=cp n a (.b V.row):=fun {_ _ _} e=>an ((he.trans e).some mr)
 have ls:∀{kk n a},Ext h' kk→ao n (.ptr sb a) (fun z=>kk[z]?)=cp n a (.b [AV.str x.1.name,.str x.1.line,x.2]):=fun {_ _ _} e=>an ((he.trans e).some ms)
 by_cases hlt:k < x.1.aJ.length
 ·have e3:=fk hlt;have e5:IntKind.i64.wrap ((k:Int)+1)= ((k+1:Nat):Int):=wrapN Om;have ix:=hx.dG (kk:=.i64) hlt;have hd:x.1.aJ.drop k=x.1.aJ[k]::x.1.aJ.drop (k+1):=Si
  have hm:=hk x.1.aJ[k] (XJ _);have ld:∀{kk:ah},Ext h' kk→ao none (cV x.2 1 k) (fun b=>kk[b]?)=some (.str x.1.aJ[k],.az):=fun {kk} e=>hx.kO hlt rfl ((QP.trans he).trans e)
  rw[hd,ZT]at hi;obtain⟨y,hy⟩:∃y,y=x.1.aJ[k]:=⟨_,rfl⟩;rw[←hy]at ld hi hm;refine Rs (mX t2 t3 t4 t7 @ls @lr hx.aP e3 ix @ld @aF) ?_;refine WF.ce T.c84 (r84 T ((o.ext (QP.trans he)).ext Xx) l hm t) fun g3=>?_
  cases hr:jn V.ar t y with
  | true=>
   rw[hr]at hi;refine Rs (A4 t2 t3 t4 t7) ?_;refine⟨(QP.trans he).trans Xx,?_⟩;rw[hi];rfl
  | false=>
   rw[hr]at hi;refine Rs (A5 t2 t3 t4 t7 e5) ?_;exact⟨_,Om,k+1,Om,rfl,he.trans Xx,hi,rfl⟩
 ·have e3:=gq hlt;have e4:k=x.1.aJ.length:=Om
  refine Rs (A7 t2 t3 t4 t7 @ls hx.aP e3) ?_;refine⟨QP.trans he,?_⟩;rw[hi,e4,Ys];rfl
theorem r24{V}(o:aD h V)(l:ed V)(ir:L1 V)(t:Int):aA P 24 [.agg V.row,.i t] h (fun v h'=>aK h' v 1 ((eX V.ar t).map au)):=by
 refine .eF 33 T.mix T.c24 ?_;intro ts hlen t0 t1;unfold fn24;have Qm:=@aD.box _ _ o;refine Rs (A3 t0 t1 @Qm) ?_;obtain⟨H,hH⟩:∃H,H=h++ [aq.b V.row]:=⟨_,rfl⟩;have QP:Ext h H:=by rw[hH];exact Xx
 have mr:H[h.length]? =some (.b V.row):=by rw[hH];exact bf
 rw[←hH];have eu:eX V.ar t= (V.ak.filter fun x=>!eI V.ar x.1 t).map fun x=>x.1.name:=by
  exact IH
 rw[eu];refine WL.inv T.mix (fun n ts h'=>∃ (k:Nat) (out:AV),k≤V.ak.length∧n=V.ak.length - k∧Ext H h'∧Fr H.length h' out 1 ((((V.ak.take k).filter fun x=>!eI V.ar x.1 t).map fun x=>x.1.name).map au)∧
   ts.length=33∧slot ts 1= .i t∧slot ts 2= .ptr h.length 0∧slot ts 5=out∧slot ts 6= .i k) V.ak.length
  ⟨0,.af,Om,rfl,.refl _,.nil,Sn,(Sq t1),Sw,Sw,iF⟩ ?_
 rintro _ ts h' ⟨k,out,Qq,rfl,⟨g,rfl⟩,hfr,hlen,t1,t2,t5,t6⟩;have he:Ext H (H++g):=⟨_,rfl⟩;have lr:∀{kk n a},Ext (H++g) kk→ao n (.ptr h.length a) (fun z=>kk[z]?)=cp n a (.b V.row):=fun {_ _ _} e=>an ((he.trans e).some mr)
 have Sz:=l.l2;by_cases hlt:k < V.ak.length
 ·have e3:=fk hlt;have e5:IntKind.i64.wrap ((k:Int)+1)= ((k+1:Nat):Int):=wrapN Om;have ix:=o.i2.dG (kk:=.i64) hlt;obtain⟨y,hy⟩:∃y,y=V.ak[k]:=⟨_,rfl⟩;have TU:y∈V.ak:=by rw[hy];exact XJ _
  have ld:∀{kk:ah},Ext (H++g) kk→ao (some 3) (cV V.s2 3 k) (fun b=>kk[b]?)=some (.agg (bg y),.az):=fun {kk} e=>by rw[hy];exact o.i2.kB hlt ((QP.trans he).trans e)
  have lf:∀{kk:ah},Ext (H++g) kk→ao none (lh V.s2 3 k 0) (fun b=>kk[b]?)=some (.str y.1.name,.az):=fun {kk} e=>o.i2.pG hlt (by rw[←hy];rfl) ((QP.trans he).trans e)
  have QJ:V.ak.take (k+1)=V.ak.take k++ [y]:=by rw[hy,Ye,Xw hlt];rfl
  have hsh:=ir.sh y TU;refine Rs (mX t1 t2 t5 t6 @lr @eJ @aF o.i2.aP e3 ix @ld) ?_;refine WF.ce T.c23 (r23 T ((o.ext (QP.trans he)).ext Xx) l (((o.e2 y TU).ext (QP.trans he)).ext Xx) hsh.2 hsh.1 t) fun g3=>?_
  cases hs:eI V.ar y.1 t with
  | true=>
   refine Rs (A6 t1 t2 t5 t6 @XW e5) ?_;refine⟨_,Om,k+1,out,Om,rfl,?_,rfl,rfl⟩;rw[QJ,YQ];simp only[Zh,Zz,hs,XW,Yj,XO,XU];exact hfr.app _
  | false=>
   refine Rs (A9 t1 t2 t5 t6 @XY @lr @eJ ix @lf) ?_;have QT: ((V.ak.take k).filter fun x=>!eI V.ar x.1 t).length≤V.ak.length:=Yi (Ya _ _) (by rw[Yq];omega);refine WR.fw (h0:=H) (cs:=(((V.ak.take k).filter fun x=>!eI V.ar x.1 t).map fun x=>x.1.name).map au) (ys:=[au y.1.name]) ((hfr.app _).app _) (Fr.push (N:=0) (X3 _) [au y.1.name] (by simp[au])).a8 De Si (by simp only[XB,Xy,XA];omega) (by rw[Xt,Xt];exact⟨_,rfl⟩) ?_;intro g' Qz hff hkp;have hrow: (((V.ak.take k).filter fun x=>!eI V.ar x.1 t).map fun x=>x.1.name).map au++ [au y.1.name]= (((V.ak.take (k+1)).filter fun x=>!eI V.ar x.1 t).map fun x=>x.1.name).map au:=by
    rw[QJ,YQ];simp only[Zh,Zz,hs,XY,XR,XD,Yr,Zf]
   rw[hrow]at hff;rw[hrow];refine Rs (A5 t1 t2 t5 t6 e5) ?_;exact F3
 ·exact z75
end
def any_eq{α:Type}{p:α→Bool}{L:List α}{k:Nat}(hlt:k < L.length): (L.drop k).any p= (p L[k]|| (L.drop (k+1)).any p):=by
 have hd:L.drop k=L[k]::L.drop (k+1):=Si
 rw[hd,ZT]
section
variable {P:Program} (T:fA P) {h:ah}
include T
theorem r263(n:Int):aA P 263 [.i n] h (fun v _=>v= .dJ [.str (my n),.str (jD n)]):=by
 refine .kE 11 T.mix T.c263 ?_;intro ts hlen t0;unfold fn263;by_cases h1:n=1
 ·have q1:decide (n=1)=true:=Xz h1;refine Rs (A2 t0 q1) ?_;subst h1;rfl
 have q1:decide (n=1)=false:=Xu h1;by_cases h2:n=2
 ·have q2:decide (n=2)=true:=Xz h2;refine Rs (A3 t0 q1 q2) ?_;subst h2;rfl
 have q2:decide (n=2)=false:=Xu h2;by_cases h3:n=3
 ·have q3:decide (n=3)=true:=Xz h3;refine Rs (A4 t0 q1 q2 q3) ?_;subst h3;rfl
 have q3:decide (n=3)=false:=Xu h3;refine Rs (A4 t0 q1 q2 q3) ?_;rw[my,XG h1,XG h2,XG h3,jD,XG h1,XG h2];rfl
theorem r265{V:RV}(o:aD h V)(l:ed V)(n:By):aA P 265 [.agg V.row,.str n] h (fun v _=>v= .bool (pP V.ar n)):=by
 refine .eF 21 T.mix T.c265 ?_;intro ts hlen t0 t1;unfold fn265;have Qm:=@aD.box _ _ o;have hl:=l.l5;refine Rs (A3 t0 t1 @Qm) ?_;refine WL.inv T.mix (fun m ts h'=>∃k:Nat,k≤V.aQ.length∧m=V.aQ.length - k∧h' =h++ [aq.b V.row]∧pP V.ar n= (V.aQ.drop k).any (fun p=>decide (p.BE=n))∧ts.length=21∧slot ts 1= .str n∧slot ts 2= .ptr h.length 0∧slot ts 5= .i k) V.aQ.length
  ⟨0,Om,rfl,rfl,rfl,Sn,(Sq t1),Sw,iF⟩ ?_
 rintro _ ts _ ⟨k,hk,rfl,rfl,hi,hlen,t1,t2,t5⟩;have lb:∀{kk n a},Ext (h++ [aq.b V.row]) kk→ao n (.ptr h.length a) (fun z=>kk[z]?)=cp n a (.b V.row):=fun {_ _ _} e=>an (e.some bf)
 by_cases hlt:k < V.aQ.length
 ·have e3:=fk hlt;have ix:=o.i5.dG (kk:=.i64) hlt;have e5:IntKind.i64.wrap ((k:Int)+1)= ((k+1:Nat):Int):=wrapN Om;rw[any_eq hlt]at hi;obtain⟨y,hy⟩:∃y,y=V.aQ[k]:=⟨_,rfl⟩;have ld:∀{kk:ah},Ext h kk→ao none (lh V.s5 4 k 1) (fun b=>kk[b]?)=some (.str y.BE,.az):=fun {kk} e=>o.i5.pG hlt (by rw[←hy];rfl) e
  rw[←hy]at hi;cases hp:decide (y.BE=n)with
  | true=>
   rw[hp]at hi;refine Rs (mY t1 t2 t5 @lb @gR o.i5.aP e3 ix @ld @hp) ?_;rw[hi];rfl
  | false=>
   rw[hp]at hi;refine Rs (mX t1 t2 t5 @lb @gR o.i5.aP e3 ix @ld @hp e5) ?_;exact⟨_,Om,k+1,Om,rfl,hi,rfl⟩
 ·have e3:=gq hlt;have e4:k=V.aQ.length:=Om
  refine Rs (A7 t1 t2 t5 @lb @gR o.i5.aP e3) ?_;rw[hi,e4,Ys];rfl
theorem r264{V}(o:aD h V)(l:ed V){n}(hn:n∈gM V.ar):aA P 264 [.agg V.row,.str n] h (fun v _=>v= .str (fW V.ar n).gives):=by
 refine .eF 13 T.mix T.c264 ?_;intro ts hlen t0 t1;unfold fn264;have Qm:=@aD.box _ _ o;have hlt:=cP hn;have QX:bj (gM V.ar) n < V.aE.length:=by simpa [gM,RV.ar]using hlt
 have ix:aZ 4 V.s3 (.i ((bj (gM V.ar) n:Nat):Int))=some (cV V.s3 4 (bj (gM V.ar) n),.az):=o.i3.dG QX;have ev:fW V.ar n= (V.aE[bj (gM V.ar) n]).1:=by
  rw[fW,c9 (f:=gP.name) (l:=V.ar.aE) (d:=Bp) hn];exact Ag
 have ld:∀{k':ah},Ext h k'→ao none (lh V.s3 4 (bj (gM V.ar) n) 1) (fun b=>k'[b]?)=some (.str (fW V.ar n).gives,.az):=fun {k'} e=>by
  rw[ev];exact o.i3.pG QX rfl e
 refine Rs (A5 t0 t1 @Qm @fE @aF) ?_;refine WF.ce T.c55 (r55 T (o.ext Xx) l n) fun g1=>?_
 have ei:cS (fun y:gP×AV=>decide (y.1.name=n)) V.aE= (bj (gM V.ar) n:Int):=by
  rw[gT];exact eD (f:=fun y:gP×AV=>y.1.name) (by rw[←gT];exact hn)
 exact z119
theorem r31{s l}(hs:aK h s 1 (l.map aL))(hl:l.length < 2^30)(hb:∀s∈l,-1≤s∧s≤999999999):aA P 31 [s] h (fun v _=>v= .i (fO l)):=by
 refine .kE 20 T.mix T.c31 ?_;intro ts hlen t0;unfold fn31;refine Rs t0 ?_;refine WL.inv T.mix (fun n ts h'=>∃k:Nat,k≤l.length∧n=l.length - k∧h' =h∧ts.length=20∧slot ts 0=s∧slot ts 3= .i (fO (l.take k))∧slot ts 4= .i k) l.length
  ⟨0,Om,rfl,rfl,Sn,(Sq t0),iF,iF⟩ ?_
 rintro _ ts h' ⟨k,hk,rfl,rfl,hlen,t0,t3,t4⟩;by_cases hlt:k < l.length
 ·have e3:=fk hlt;have e5:IntKind.i64.wrap ((k:Int)+1)= ((k+1:Nat):Int):=wrapN Om;have ix:=hs.dG (kk:=.i64) hlt;have ld:=hs.kO (i:=k) (x:=.i l[k]) hlt rfl (Ext.refl _);have hd:=tL (l.take k) 1 (fun s hs=>hb s (YA hs)) De De;have SB:=hb _ (XJ hlt);have QU:-16777213 < fO (l.take k)∧fO (l.take k)< 16777213:=hd;have w1:IntKind.i64.wrap (257 * fO (l.take k))=257 * fO (l.take k):=bp Om Om;have w2:IntKind.i64.wrap (257 * fO (l.take k)+l[k])=257 * fO (l.take k)+l[k]:=bp Om Om;have er:=nU (k:=.i64) (a:=257 * fO (l.take k)+l[k]) (b:=16777213) De
  have QJ:fO (l.take (k+1))= (257 * fO (l.take k)+l[k]).tmod 16777213:=by
   exact I9
  rw[←QJ]at er;refine Rs (mX t0 t3 t4 hs.aP e3 ix @ld @w1 @w2 @er e5) ?_;exact⟨_,Om,k+1,Om,rfl,rfl,rfl⟩
 ·have e3:=gq hlt;have e4:k=l.length:=Om
  refine Rs (A5 t0 t3 t4 hs.aP e3) ?_;rw[e4,X8]
theorem r60{x}(hx:aK h x.2 1 (x.1.bw.map aL))(hl:x.1.bw.length < 2^30):aA P 60 [.agg (bO x)] h (fun v h'=>aK h' v 1 ((cU x.1.bw 0).map aL)):=by
 refine .kE 23 T.mix T.c60 ?_;intro ts hlen t0;unfold fn60;have ox:=hx.one;unfold bO at t0;refine Rs (A2 t0 @ox) ?_;obtain⟨H0,Ut⟩:∃H0,H0=h++ [aq.b [AV.str x.1.name,.str x.1.mod,x.2]]:=⟨_,rfl⟩;have e0:Ext h H0:=by rw[Ut];exact Xx
 have lb:∀{k n a},Ext H0 k→ao n (.ptr h.length a) (fun z=>k[z]?)=cp n a (.b [AV.str x.1.name,.str x.1.mod,x.2]):=fun {_ _ _} e=>an (e.some (by rw[Ut];exact bf))
 rw[←Ut];refine WL.inv T.mix (fun n ts h'=>∃ (k:Nat) (out:AV),k≤x.1.bw.length∧n=x.1.bw.length - k∧Ext H0 h'∧Fr H0.length h' out 1 ((cU (x.1.bw.take k) 0).map aL)∧
   ts.length=23∧slot ts 1= .ptr h.length 0∧slot ts 3=out∧slot ts 4= .i k) x.1.bw.length
  ⟨0,.af,Om,rfl,Ext.refl _,.nil,Sn,(Sq t0),(Sq t0),iF⟩ ?_
 rintro _ ts _ ⟨k,out,hk',rfl,⟨g,rfl⟩,hfr,hlen,t1,t3,t4⟩;by_cases hlt:k < x.1.bw.length
 ·have e3:=fk hlt;have ix:=hx.dG (kk:=.i64) hlt;have ld:∀{k':ah},Ext H0 k'→ao none (cV x.2 1 k) (fun b=>k'[b]?)=some (.i x.1.bw[k],.az):=fun {k'} e=>hx.kO hlt rfl (e0.trans e)
  have e5:IntKind.i64.wrap ((k:Int)+1)= ((k+1:Nat):Int):=wrapN Om;have QJ:cU (x.1.bw.take (k+1)) 0=cU (x.1.bw.take k) 0++ (if x.1.bw[k] < 0 then [(k:Int)]else []):=by
   exact Pb
  by_cases hn:x.1.bw[k] < 0
  ·have q:decide (x.1.bw[k] < 0)=true:=Xz hn;rw[XI hn]at QJ;refine Rs (A9 t1 t3 t4 @lb hx.aP e3 ix @ld q) ?_;have Sz:=jL (l:=x.1.bw.take k) (i:=0);refine WR.fw (h0:=H0) (cs:=(cU (x.1.bw.take k) 0).map aL) (ys:=[aL (k:Int)]) (hfr.app _) (Fr.push (N:=0) (X3 _) [aL (k:Int)] Si).a8 De Si (by simp only[XB,Yq,Xy,XA]at Sz ⊢;omega) Xx ?_;intro g' Qz hff hkp;have hrow: (cU (x.1.bw.take k) 0).map aL++ [aL (k:Int)]= (cU (x.1.bw.take (k+1)) 0).map aL:=by rw[QJ,XD];rfl
   rw[hrow]at hff;rw[hrow];refine Rs (A4 t1 t3 t4 e5) ?_;exact F3
  ·have q:decide (x.1.bw[k] < 0)=false:=Xu hn;rw[XG hn,XU]at QJ;refine Rs (mY t1 t3 t4 @lb hx.aP e3 ix @ld q e5) ?_;refine⟨_,Om,k+1,out,Om,rfl,?_,rfl,rfl⟩;rw[QJ];exact hfr
 ·have e3:=gq hlt;have e4:k=x.1.bw.length:=Om
  refine Rs (A6 t1 t3 t4 @lb hx.aP e3) ?_;rw[e4,X8]at hfr;exact⟨e0.trans Xx,hfr.a8⟩
theorem r127{V:RV}(o:aD h V)(l:ed V){M:List (By)}{s:AV}(hs:aK h s 1 (M.map au))(hM:M.length < 2^40):aA P 127 [.agg V.row,s] h (fun v h'=>aK h' v 1 (((V.ar.ak.filter fun x=>decide (x.line∈M)).map jh.name).map au)):=by
 refine .eF 32 T.mix T.c127 ?_;intro ts hlen t0 t1;unfold fn127;have Qm:=@aD.box _ _ o;refine Rs (A3 t0 t1 @Qm) ?_;obtain⟨H,hH⟩:∃H,H=h++ [aq.b V.row]:=⟨_,rfl⟩;have QP:Ext h H:=by rw[hH];exact Xx
 have mr:H[h.length]? =some (.b V.row):=by rw[hH];exact bf
 rw[←hH];have eu: (V.ar.ak.filter fun x=>decide (x.line∈M)).map jh.name= (V.ak.filter fun x=>decide (x.1.line∈M)).map fun x=>x.1.name:=by
  simp only[RV.ar,ZA,Za];rfl
 rw[eu];refine WL.inv T.mix (fun n ts h'=>∃ (k:Nat) (out:AV),k≤V.ak.length∧n=V.ak.length - k∧Ext H h'∧Fr H.length h' out 1 ((((V.ak.take k).filter fun x=>decide (x.1.line∈M)).map fun x=>x.1.name).map au)∧
   ts.length=32∧slot ts 1=s∧slot ts 2= .ptr h.length 0∧slot ts 5=out∧slot ts 6= .i k) V.ak.length
  ⟨0,.af,Om,rfl,.refl _,.nil,Sn,(Sq t1),Sw,Sw,iF⟩ ?_
 rintro _ ts h' ⟨k,out,Qq,rfl,⟨g,rfl⟩,hfr,hlen,t1,t2,t5,t6⟩;have he:Ext H (H++g):=⟨_,rfl⟩;have lr:∀{kk n a},Ext (H++g) kk→ao n (.ptr h.length a) (fun z=>kk[z]?)=cp n a (.b V.row):=fun {_ _ _} e=>an ((he.trans e).some mr)
 have Sz:=l.l2;by_cases hlt:k < V.ak.length
 ·have e3:=fk hlt;have e5:IntKind.i64.wrap ((k:Int)+1)= ((k+1:Nat):Int):=wrapN Om;have ix:=o.i2.dG (kk:=.i64) hlt;obtain⟨y,hy⟩:∃y,y=V.ak[k]:=⟨_,rfl⟩;have lf:∀{kk:ah},Ext (H++g) kk→ao none (lh V.s2 3 k 0) (fun b=>kk[b]?)=some (.str y.1.name,.az):=fun {kk} e=>o.i2.pG hlt (by rw[←hy];rfl) ((QP.trans he).trans e)
  have lg:∀{kk:ah},Ext (H++g) kk→ao none (lh V.s2 3 k 1) (fun b=>kk[b]?)=some (.str y.1.line,.az):=fun {kk} e=>o.i2.pG hlt (by rw[←hy];rfl) ((QP.trans he).trans e)
  have QJ:V.ak.take (k+1)=V.ak.take k++ [y]:=by rw[hy,Ye,Xw hlt];rfl
  refine Rs (mY t1 t2 t5 t6 @lr @eJ o.i2.aP e3 ix @lg) ?_;refine WF.ce T.c35 (r35 T (hs.ext (QP.trans he)) hM _) fun g3=>?_
  cases hd:decide (y.1.line∈M)with
  | false=>
   refine Rs (A5 t1 t2 t5 t6 e5) ?_;exact Pj
  | true=>
   refine Rs (A8 t1 t2 t5 t6 @lr @eJ ix @lf) ?_;have QT: ((V.ak.take k).filter fun x=>decide (x.1.line∈M)).length≤V.ak.length:=Yi (Ya _ _) (by rw[Yq];omega);refine WR.fw (h0:=H) (cs:=(((V.ak.take k).filter fun x=>decide (x.1.line∈M)).map fun x=>x.1.name).map au) (ys:=[au y.1.name]) ((hfr.app _).app _) (Fr.push (N:=0) (X3 _) [au y.1.name] (by simp[au])).a8 De Si (by simp only[XB,Xy,XA];omega) (by rw[Xt,Xt];exact⟨_,rfl⟩) ?_;intro g' Qz hff hkp;have hrow: (((V.ak.take k).filter fun x=>decide (x.1.line∈M)).map fun x=>x.1.name).map au++ [au y.1.name]= (((V.ak.take (k+1)).filter fun x=>decide (x.1.line∈M)).map fun x=>x.1.name).map au:=by
    exact Mf
   rw[hrow]at hff;rw[hrow];refine Rs (A5 t1 t2 t5 t6 e5) ?_;exact F3
 ·exact z75
end
end Go.Abs
namespace Go.Abs
section
variable {P:Program} {ro:Option Nat→Prop} {ks:List Kt} {ts:TS} {Q:Ex→TS→ah→Prop}
def WR.EA{h s y es cs ys h0 w d l}
  (hs:Fr h0.length h s es cs) (hy:aK h y es ys) (hes:0 < es) (dX: (cs.length+ys.length) * w≤2^46) (he:Ext h0 h)
  (K:∀s' g,Fr h0.length (h0++g) s' es (cs++ys)→(∀b,b < h.length→sB s≠some b→(h0++g)[b]? =h[b]?)→h.length≤(h0++g).length→WP P ro l ks (put ts d s') (h0++g) Q):
  WR P ro (pa es w s y (fun b=>h[b]?) h.length) false d l ks ts h Q:=by
 by_cases hn:ys.length=0
 ·have hys:ys= []:=Yw.1 hn;subst hys;obtain⟨g,rfl⟩:=he;rw[XU]at K;have e:pa es w s y (fun b=>(h0++g)[b]?) (h0++g).length=some (s,.az):=by
   simp only[pa,hy.eT];cases hs with
   | nil=>simp
   | mk hN hb h'=>simp
  rw[e,iQ];exact K s g hs (fun _ _ _=>rfl) (XH _)
 ·refine WR.fw hs hy hes Om dX he fun g h1 h2 h3=>K _ g h2 (fun b hb hne=>h3 b hb fun b0 o n e WH hbb=>hne (by rw[WH,hbb];rfl)) Om
end
def Dx{R}(w:fo R){x}(hx:x∈R.aE):fW R x.name=x:=tG (f:=gP.name) w.n3.nd hx
def pC{m l x}:cM m (l++ [x])=if x.name∈cM m l then cM m l++x.bu else cM m l:=by
 rw[cM,List.foldl_append];rfl
def uM{m}:∀{l},(∀x∈l,x.bu.length≤2)→(cM m l).length≤1+2 * l.length:=by
 intro l;have key:∀ (l:List gP) (a:List (By)),(∀x∈l,x.bu.length≤2)→(l.foldl (fun n x=>if x.name∈n then n++x.bu else n) a).length≤a.length+2 * l.length:=by
  intro l
  induction l with
  | nil=>intro a _;simp
  | cons x l ih=>
   intro a hl;have h1:=hl x Si;have:=ih (if x.name∈a then a++x.bu else a) (fun y hy=>hl y (Yb _ hy));rw[Z2];refine Yi this ?_;split<;>simp only[Xs,Xy]<;>omega
 intro hl;exact key l [m] hl
set_option maxRecDepth 10000
attribute [local irreducible] WP WC WE WB WR WF WL WG fV WM
section
variable {P:Program} (T:fA P) {h:ah}
include T
theorem r58{V}(o:aD h V)(w:fo V.ar)(m:By):aA P 58 [.agg V.row,.str m] h (fun v h'=>aK h' v 1 (((lZ V.ar m).map gP.name).map au)):=by
 refine .eF 60 T.mix T.c58 ?_;intro ts hlen t0 t1;unfold fn58;have Qm:=@aD.box _ _ o;have l:=w.len;have hn32:V.aE.length≤32:=by have:=w.l3;simpa [RV.ar]using this
 have hin:∀x∈V.ar.aE,x.bu.length≤2:=fun x hx=>(w.md x hx).2.1
 have hml:V.ar.aE.length=V.aE.length:=by simp[RV.ar]
 have ew:IntKind.i64.wrap ((V.aE.length:Int) - 1)= (V.aE.length:Int) - 1:=bp Om Om;have lb0:∀{kk n a},Ext (h++ [aq.b V.row]) kk→ao n (.ptr h.length a) (fun z=>kk[z]?)=cp n a (.b V.row):=fun {_ _ _} e=>an (e.some bf)
 refine Rs (A7 t0 t1 @Qm @lb0 @fE o.i3.aP @ew) ?_;obtain⟨H,hH⟩:∃H,H=h++ [aq.b V.row]:=⟨_,rfl⟩;have QP:Ext h H:=by rw[hH];exact Xx
 have mr:H[h.length]? =some (.b V.row):=by rw[hH];exact bf
 rw[←hH];refine WL.inv T.mix (fun n ts h'=>∃ (k:Nat) (ws:AV),k≤V.aE.length∧n=V.aE.length - k∧Ext H h'∧aK h' ws 1 ((cM m (V.ar.aE.reverse.take k)).map au)∧
   ts.length=60∧slot ts 2= .ptr h.length 0∧slot ts 5=ws∧slot ts 6= .i ((V.aE.length:Int) - 1 - k)) V.aE.length
  ⟨0,.slice H.length 0 1 1,Om,rfl,⟨_,rfl⟩,(Fr.push (N:=0) (X3 _) [au m] (by simp[au])).a8,Sn,Sw,Sw,(by simp only[aV,bd,bD,bE,reduceAdd,reduceMul,reduceLeDiff,reduceEqDiff,bF,hlen,XO,XR];simp)⟩ ?_
 clear t0 t1 hlen lb0;clear ts;rintro _ ts h' ⟨k,ws,hk,rfl,⟨g,rfl⟩,TX,hlen,t2,t5,t6⟩;have he:Ext H (H++g):=⟨_,rfl⟩;have lr:∀{kk n a},Ext (H++g) kk→ao n (.ptr h.length a) (fun z=>kk[z]?)=cp n a (.b V.row):=fun {_ _ _} e=>an ((he.trans e).some mr)
 have hwl:=uM (m:=m) (l:=V.ar.aE.reverse.take k) (fun x hx=>hin x (List.mem_reverse.1 (YA hx)));have htl: (V.ar.aE.reverse.take k).length≤32:=by rw[Yq,Zq];omega
 by_cases hlt:k < V.aE.length
 ·have hi:V.aE.length - 1 - k < V.aE.length:=Om
  have ei: (V.aE.length:Int) - 1 - k= ((V.aE.length - 1 - k:Nat):Int):=Om
  have e3:decide (0≤(V.aE.length:Int) - 1 - k)=true:=Xz Om;have e5:IntKind.i64.wrap ((V.aE.length:Int) - 1 - k - 1)= (V.aE.length:Int) - 1 - ((k+1:Nat):Int):=by rw[bp Om Om];omega
  have ix:aZ 4 V.s3 (.i ((V.aE.length:Int) - 1 - k))=some (cV V.s3 4 (V.aE.length - 1 - k),.az):=by rw[ei];exact o.i3.dG hi
  obtain⟨y,hy⟩:∃y,y=V.aE[V.aE.length - 1 - k]:=⟨_,rfl⟩;have TU:y∈V.aE:=by rw[hy];exact XJ _
  have ld:∀{kk:ah},Ext (H++g) kk→ao (some 4) (cV V.s3 4 (V.aE.length - 1 - k)) (fun b=>kk[b]?)=some (.agg (aU y),.az):=fun {kk} e=>by rw[hy];exact o.i3.kB hi ((QP.trans he).trans e)
  have QJ:V.ar.aE.reverse.take (k+1)=V.ar.aE.reverse.take k++ [y.1]:=by
   have hk':k < V.ar.aE.reverse.length:=by rw[Zq];omega
   rw[Ye,Xw hk',List.getElem_reverse];simp only[RV.ar,YC,XB,Option.toList_some,hy]
  have oy:=(o.e3 y TU).one;have hy3:=o.e3 y TU;unfold aU at ld;refine Rs (A9 t2 t5 t6 e3 @lr @fE ix @ld @oy) ?_;refine WF.ce T.c35 (r35 T (TX.ext Xx) Om _) fun g3=>?_
  cases hd:decide (y.1.name∈cM m (V.ar.aE.reverse.take k))with
  | false=>
   refine Rs (A4 t2 t5 t6 e5) ?_;refine⟨_,Om,k+1,ws,Om,rfl,?_,rfl,rfl⟩;rw[QJ,pC,XG (of_decide_eq_false hd)];exact TX.ext Xx
  | true=>
   refine Rs (A3 t2 t5 t6) ?_;obtain⟨H1,UR⟩:∃H1,H1=H++g++ [aq.b [AV.str y.1.name,.str y.1.gives,.str y.1.line,y.2]]++g3:=⟨_,rfl⟩;obtain⟨bx,Qm⟩:∃bx,bx= (H++g).length:=⟨_,rfl⟩;have RH:Ext (H++g) H1:=by rw[UR];exact Xx
   have mx:H1[bx]? =some (.b [AV.str y.1.name,.str y.1.gives,.str y.1.line,y.2]):=by rw[UR,Qm];exact(show Ext (H++g++ [aq.b [AV.str y.1.name,.str y.1.gives,.str y.1.line,y.2]]) _ from Xx).some bf
   have hbl:bx < H1.length:=(Xr.1 mx).1;rw[←UR,←Qm];refine om (fun h=>h[bx]? =some (.b [AV.str y.1.name,.str y.1.gives,.str y.1.line,y.2])) ?_;refine c7 mx rfl rfl ?_;refine Rs t2 ?_;have x2:Ext H1 (H1++ [aq.b []]):=⟨_,rfl⟩;have m2: (fun h:ah=>h[bx]? =some (.b [AV.str y.1.name,.str y.1.gives,.str y.1.line,y.2])) (H1++ [aq.b []]):=x2.some mx;refine c7 m2 rfl rfl ?_;refine Rs (A2 t2 t5) ?_;refine c7 m2 rfl rfl ?_;refine Rs (A2 t2 t5) ?_;refine WR.pX (N:=H1.length) bf (XH _) (TX.ext (RH.trans x2)) (by simp only[XB];omega) fun s' g5 Xf=>?_
   have x3:Ext H1 (H1++ [aq.b []]++g5):=Xx;have m3: (fun h:ah=>h[bx]? =some (.b [AV.str y.1.name,.str y.1.gives,.str y.1.line,y.2])) (H1++ [aq.b []]++g5):=x3.some mx;refine Rs (A2 t2 t5) ?_;refine c7 m3 rfl rfl ?_;refine Rs (A2 t2 t5) ?_;refine kD m3 (v:=y.2) (fun z hz=>?_) ?_
   ·simp only[aV,bd,bD,bE,reduceAdd,reduceMul,reduceLeDiff,reduceEqDiff,bF,hlen,XO,XR,t2,an hz]
   refine Rs (A2 t2 t5) ?_;refine c7 m3 rfl rfl ?_;refine Rs (A2 t2 t5) ?_;have RW:y.1.bu.length≤2:=hin y.1 (XZ TU);refine WR.EA (h0:=H1) (ys:=y.1.bu.map au) Xf (hy3.ext (((QP.trans he).trans RH).trans x3)) De (by simp only[XB];omega) x3 fun s6 g6 hf6 hk6 hl6=>?_
   have m6: (fun h:ah=>h[bx]? =some (.b [AV.str y.1.name,.str y.1.gives,.str y.1.line,y.2])) (H1++g6):=(Ext.app g6 (Ext.refl H1)).some mx;refine Rs (A2 t2 t5) ?_;refine oh m6 rfl ?_;refine Rs (A4 t2 t5 t6 e5) ?_;refine⟨_,Om,k+1,s6,Om,rfl,⟨_,by rw[UR];simp only[Xt];rfl⟩,?_,rfl,rfl⟩;rw[QJ,pC,XI (YH hd),XD];exact hf6.a8
 ·have e3:decide (0≤(V.aE.length:Int) - 1 - k)=false:=Xu Om;have e4:k=V.aE.length:=Om
  refine Rs (A4 t2 t5 t6 e3) ?_;have hns:cM m (V.ar.aE.reverse.take k)=cM m V.ar.aE.reverse:=by rw[e4,←hml,←Zq,X8]
  rw[hns]at TX hwl;have eu: (lZ V.ar m).map gP.name= (V.aE.filter fun x=>decide (x.1.name∈cM m V.ar.aE.reverse)).map fun x=>x.1.name:=by
   rw[←oR,iu,Za];rfl
  rw[eu];obtain⟨W,hW⟩:∃W,W=cM m V.ar.aE.reverse:=⟨_,rfl⟩;rw[←hW]at TX hwl ⊢;have hwl2:W.length≤65:=Om
  clear hwl;refine WL.inv T.mix (fun n ts h'=>∃ (k:Nat) (out:AV),k≤V.aE.length∧n=V.aE.length - k∧Ext (H++g) h'∧Fr (H++g).length h' out 1 ((((V.aE.take k).filter fun x=>decide (x.1.name∈W)).map fun x=>x.1.name).map au)∧
    ts.length=60∧slot ts 2= .ptr h.length 0∧slot ts 5=ws∧slot ts 8=out∧slot ts 9= .i k) V.aE.length
   ⟨0,.af,Om,rfl,.refl _,.nil,Sn,(Sq t2),(Sq t5),Sw,iF⟩ ?_
  clear t2 t5 t6 hlen lr hlt e3 e4 hk htl hns;clear ts k;rintro _ ts _ ⟨k,out,Qq,rfl,⟨g2,rfl⟩,hfr,hlen,t2,t5,t8,t9⟩;have Qy:Ext (H++g) (H++g++g2):=⟨_,rfl⟩;have lr:∀{kk n a},Ext (H++g++g2) kk→ao n (.ptr h.length a) (fun z=>kk[z]?)=cp n a (.b V.row):=fun {_ _ _} e=>an (((he.trans Qy).trans e).some mr)
  by_cases hlt:k < V.aE.length
  ·have e3:=fk hlt;have e5:IntKind.i64.wrap ((k:Int)+1)= ((k+1:Nat):Int):=wrapN Om;have ix:=o.i3.dG (kk:=.i64) hlt;obtain⟨y,hy⟩:∃y,y=V.aE[k]:=⟨_,rfl⟩;have lf:∀{kk:ah},Ext (H++g++g2) kk→ao none (lh V.s3 4 k 0) (fun b=>kk[b]?)=some (.str y.1.name,.az):=fun {kk} e=>o.i3.pG hlt (by rw[←hy];rfl) (((QP.trans he).trans Qy).trans e)
   have QJ:V.aE.take (k+1)=V.aE.take k++ [y]:=by rw[hy,Ye,Xw hlt];rfl
   refine Rs (mY t2 t5 t8 t9 @lr @fE o.i3.aP e3 ix @lf) ?_;refine WF.ce T.c35 (r35 T (TX.ext Qy) Om _) fun g3=>?_
   cases hd:decide (y.1.name∈W)with
   | false=>
    refine Rs (A5 t2 t5 t8 t9 e5) ?_;exact Pj
   | true=>
    refine Rs (A8 t2 t5 t8 t9 @lr @fE ix @lf) ?_;have QT: ((V.aE.take k).filter fun x=>decide (x.1.name∈W)).length≤V.aE.length:=Yi (Ya _ _) (by rw[Yq];omega);refine WR.fw (h0:=H++g) (cs:=(((V.aE.take k).filter fun x=>decide (x.1.name∈W)).map fun x=>x.1.name).map au) (ys:=[au y.1.name]) ((hfr.app _).app _) (Fr.push (N:=0) (X3 _) [au y.1.name] (by simp[au])).a8 De Si (by simp only[XB,Xy,XA];omega) (by rw[Xt,Xt];exact⟨_,rfl⟩) ?_;intro g' Qz hff hkp;have hrow: (((V.aE.take k).filter fun x=>decide (x.1.name∈W)).map fun x=>x.1.name).map au++ [au y.1.name]= (((V.aE.take (k+1)).filter fun x=>decide (x.1.name∈W)).map fun x=>x.1.name).map au:=by
     exact Mf
    rw[hrow]at hff;rw[hrow];refine Rs (A5 t2 t5 t8 t9 e5) ?_;exact F3
  ·have e3:=gq hlt;have e4:k=V.aE.length:=Om
   refine Rs (A8 t2 t5 t8 t9 @lr @fE o.i3.aP e3) ?_;rw[e4,X8]at hfr;exact⟨(QP.trans he).trans Qy,hfr.a8⟩
theorem r59{V}(o:aD h V)(w:fo V.ar)(m:By):aA P 59 [.agg V.row,.str m] h (fun v h'=>aK h' v 1 (((iG V.ar m).map gQ.name).map au)):=by
 refine .eF 64 T.mix T.c59 ?_;intro ts hlen t0 t1;unfold fn59;have Qm:=@aD.box _ _ o;have l:=w.len;have hn32:V.aE.length≤32:=by have:=w.l3;simpa [RV.ar]using this
 have hml:V.ar.aE.length=V.aE.length:=by simp[RV.ar]
 refine Rs (A4 t0 t1 @Qm @aF) ?_;refine WF.res T.c58 (r58 T (o.ext Xx) w m) ?_;rintro ns g0 hns;obtain⟨M,hM⟩:∃M,M=lZ V.ar m:=⟨_,rfl⟩;rw[←hM]at hns;have hMm:∀x∈M,x∈V.ar.aE:=fun x hx=>by rw[hM]at hx;exact(YI.1 hx).1
 have hMl:M.length≤32:=by
  have h1:M.length≤V.ar.aE.length:=by rw[hM];unfold lZ;exact Ya _ _
  omega
 obtain⟨H,hH⟩:∃H,H=h++ [aq.b V.row]++g0:=⟨_,rfl⟩;have QP:Ext h H:=by rw[hH];exact Xx
 have mr:H[h.length]? =some (.b V.row):=by rw[hH];exact(show Ext (h++ [aq.b V.row]) _ from Xx).some bf
 rw[←hH]at hns ⊢;rw[Za]at hns;refine Rs (A2 t0 t1) ?_;obtain⟨F,hF⟩:∃F:List gP→List (By),F=fun l=>(l.filter fun x=>decide (x.bu= [])).map gP.line:=⟨_,rfl⟩
 refine WL.inv T.mix (fun n ts h'=>∃ (k:Nat) (out:AV),k≤M.length∧n=M.length - k∧Ext H h'∧Fr H.length h' out 1 ((F (M.take k)).map au)∧
   ts.length=64∧slot ts 2= .ptr h.length 0∧slot ts 5=ns∧slot ts 6=out∧slot ts 7= .af∧slot ts 8= .i k) M.length
  ⟨0,.af,Om,rfl,.refl _,(by rw[hF];exact .nil),Sn,Sw,Sw,Sw,Sw,iF⟩ ?_
 rintro _ ts _ ⟨k,out,hk,rfl,⟨g,rfl⟩,hfr,hlen,t2,t5,t6,t7,t8⟩;have he:Ext H (H++g):=⟨_,rfl⟩;have lr:∀{kk n a},Ext (H++g) kk→ao n (.ptr h.length a) (fun z=>kk[z]?)=cp n a (.b V.row):=fun {_ _ _} e=>an ((he.trans e).some mr)
 have hFl:∀j,(F (M.take j)).length≤M.length:=fun j=>by
  rw[hF];simp only[XB];exact Yi (Ya _ _) (by rw[Yq];omega)
 by_cases hlt:k < M.length
 ·have e3:=fk hlt;have e5:IntKind.i64.wrap ((k:Int)+1)= ((k+1:Nat):Int):=wrapN Om;have ix:=hns.dG (kk:=.i64) hlt;obtain⟨x,hx⟩:∃x,x=M[k]:=⟨_,rfl⟩;have Ru:x∈V.ar.aE:=hMm x (by rw[hx];exact XJ _);have lf:∀{kk:ah},Ext (H++g) kk→ao none (cV ns 1 k) (fun b=>kk[b]?)=some (.str x.name,.az):=fun {kk} e=>hns.kO hlt (by rw[←hx];rfl) (he.trans e)
  have SV:x.name∈gM V.ar:=XZ Ru;have hps:=cP SV;have RO:bj (gM V.ar) x.name < V.aE.length:=by simpa [gM,RV.ar]using hps
  have iy:aZ 4 V.s3 (.i ((bj (gM V.ar) x.name:Nat):Int))=some (cV V.s3 4 (bj (gM V.ar) x.name),.az):=o.i3.dG RO;obtain⟨y,hy⟩:∃y,y=V.aE[bj (gM V.ar) x.name]:=⟨_,rfl⟩;have TU:y∈V.aE:=by rw[hy];exact XJ _
  have UX:y.1=x:=by
   have e1:=Dx w Ru;rw[fW,c9 (f:=gP.name) (l:=V.ar.aE) (d:=Bp) SV]at e1;rw[←e1,hy];exact Ag
  have ly:∀{kk:ah},Ext (H++g) kk→ao (some 4) (cV V.s3 4 (bj (gM V.ar) x.name)) (fun b=>kk[b]?)=some (.agg (aU y),.az):=fun {kk} e=>by rw[hy];exact o.i3.kB RO ((QP.trans he).trans e)
  have QJ:M.take (k+1)=M.take k++ [x]:=by rw[hx,Ye,Xw hlt];rfl
  have oy:=o.e3 y TU;have Wm:=oy.one;unfold aU at ly;refine Rs (pU t2 t5 t6 t7 t8 hns.aP e3 @lr @fE @aF ix @lf) ?_;refine WF.ce T.c55 (r55 T ((o.ext (QP.trans he)).ext Xx) l _) fun g1=>?_
  have ei:cS (fun y:gP×AV=>decide (y.1.name=x.name)) V.aE= (bj (gM V.ar) x.name:Int):=by
   rw[gT];exact eD (f:=fun y:gP×AV=>y.1.name) (by rw[←gT];exact SV)
  rw[ei];refine Rs (A9 t2 t5 t6 t7 t8 @iy @ly @Wm oy.aP) ?_;rw[UX];by_cases hin:x.bu= []
  ·have q:decide ((x.bu.length:Int)=0)=true:=Xz (by rw[hin];rfl);refine Rs (A6 t2 t5 t6 t7 t8 q) ?_;have QT:=hFl k;refine WR.fw (h0:=H) (cs:=(F (M.take k)).map au) (ys:=[au x.line]) (((hfr.app _).app _).app _) (Fr.push (N:=0) (X3 _) [au x.line] (by simp[au])).a8 De Si (by simp only[XB,Xy,XA];omega) (by simp only[Xt];exact⟨_,rfl⟩) ?_;intro g' Qz hff hkp;have hrow: (F (M.take k)).map au++ [au x.line]= (F (M.take (k+1))).map au:=by
    rw[QJ,hF];simp only[YQ,Zh,Zz,hin,XS,XR,XD,Yr,Zf]
   rw[hrow]at hff;rw[hrow];refine Rs (A6 t2 t5 t6 t7 t8 e5) ?_;exact F3
  ·have q:decide ((x.bu.length:Int)=0)=false:=Xu (fun z=>hin (Yw.1 Om));refine Rs (A7 t2 t5 t6 t7 t8 q e5) ?_;refine⟨_,Om,k+1,out,Om,rfl,?_,rfl,rfl⟩;have:F (M.take (k+1))=F (M.take k):=by
    rw[QJ,hF];simp only[YQ,Zh,Zz,hin,XX,Yj,XO,XU]
   rw[this];exact(hfr.app _).app _
 ·have e3:=gq hlt;have e4:k=M.length:=Om
  rw[e4,X8]at hfr;have QT:=hFl M.length;rw[X8]at QT;have hsrc:∀y∈V.lines,decide (y.name∈F M)=decide (y.name∈(lZ V.ar m).map gP.line):=fun y hy=>by
   refine Zi.2 ?_;rw[←hM,hF];simp only[X2,YI,Yg];constructor
   ·rintro⟨x,⟨h1,_⟩,h2⟩;exact⟨x,h1,h2⟩
   ·rintro⟨x,h1,h2⟩;refine⟨x,⟨h1,?_⟩,h2⟩;rcases(w.md x (hMm x h1)).1 with⟨a,_⟩| ⟨_,a⟩
    ·exact a
    ·have hnn:=w.n0.nm y.name (XZ hy);rw[←h2,a]at hnn;cases hnn
  have eu: (iG V.ar m).map gQ.name= (V.lines.filter fun y=>decide (y.name∈F M)).map gQ.name:=by
   rw[iG];congr 1;exact(List.filter_congr fun y hy=>hsrc y hy).symm
  rw[eu];obtain⟨W,hW⟩:∃W,W=F M:=⟨_,rfl⟩;rw[←hW]at hfr QT ⊢;have TX:=hfr.a8;refine Rs (A7 t2 t5 t6 t7 t8 hns.aP e3) ?_;refine WL.inv T.mix (fun n ts h'=>∃ (k:Nat) (res:AV),k≤V.lines.length∧n=V.lines.length - k∧Ext (H++g) h'∧Fr (H++g).length h' res 1 ((((V.lines.take k).filter fun y=>decide (y.name∈W)).map gQ.name).map au)∧
    ts.length=64∧slot ts 2= .ptr h.length 0∧slot ts 6=out∧slot ts 7=res∧slot ts 10= .i k) V.lines.length
   ⟨0,.af,Om,rfl,.refl _,.nil,Sn,(Sq t2),(Sq t6),(Sq t7),iF⟩ ?_
  clear t2 t5 t6 t7 t8 hlen lr hlt e3 e4 hk;clear ts k;rintro _ ts _ ⟨k,res,Qq,rfl,⟨g2,rfl⟩,SX,hlen,t2,t6,t7,t10⟩;have Qy:Ext (H++g) (H++g++g2):=⟨_,rfl⟩;have lr:∀{kk n a},Ext (H++g++g2) kk→ao n (.ptr h.length a) (fun z=>kk[z]?)=cp n a (.b V.row):=fun {_ _ _} e=>an (((he.trans Qy).trans e).some mr)
  have Sz:=l.l0;by_cases hlt:k < V.lines.length
  ·have e3:=fk hlt;have e5:IntKind.i64.wrap ((k:Int)+1)= ((k+1:Nat):Int):=wrapN Om;have ix:=o.i0.dG (kk:=.i64) hlt;obtain⟨y,hy⟩:∃y,y=V.lines[k]:=⟨_,rfl⟩;have lf:∀{kk:ah},Ext (H++g++g2) kk→ao none (lh V.s0 3 k 0) (fun b=>kk[b]?)=some (.str y.name,.az):=fun {kk} e=>o.i0.pG hlt (by rw[←hy];rfl) (((QP.trans he).trans Qy).trans e)
   have QJ:V.lines.take (k+1)=V.lines.take k++ [y]:=by rw[hy,Ye,Xw hlt];rfl
   refine Rs (mY t2 t6 t7 t10 @lr @fT o.i0.aP e3 ix @lf) ?_;refine WF.ce T.c35 (r35 T (TX.ext Qy) Om _) fun g3=>?_
   cases hd:decide (y.name∈W)with
   | false=>
    refine Rs (A5 t2 t6 t7 t10 e5) ?_;refine⟨_,Om,k+1,res,Om,rfl,?_,rfl,rfl⟩;rw[QJ,YQ];simp only[Zh,Zz,hd,Yj,XO,XU];exact SX.app _
   | true=>
    refine Rs (A8 t2 t6 t7 t10 @lr @fT ix @lf) ?_;have hfl2: ((V.lines.take k).filter fun y=>decide (y.name∈W)).length≤V.lines.length:=Yi (Ya _ _) (by rw[Yq];omega);refine WR.fw (h0:=H++g) (cs:=(((V.lines.take k).filter fun y=>decide (y.name∈W)).map gQ.name).map au) (ys:=[au y.name]) ((SX.app _).app _) (Fr.push (N:=0) (X3 _) [au y.name] (by simp[au])).a8 De Si (by simp only[XB,Xy,XA];omega) (by rw[Xt,Xt];exact⟨_,rfl⟩) ?_;intro g' Qz hff hkp;have hrow: (((V.lines.take k).filter fun y=>decide (y.name∈W)).map gQ.name).map au++ [au y.name]= (((V.lines.take (k+1)).filter fun y=>decide (y.name∈W)).map gQ.name).map au:=by
     exact Mf
    rw[hrow]at hff;rw[hrow];refine Rs (A5 t2 t6 t7 t10 e5) ?_;exact F3
  ·have e3:=gq hlt;have e4:k=V.lines.length:=Om
   refine Rs (A8 t2 t6 t7 t10 @lr @fT o.i0.aP e3) ?_;rw[e4,X8]at SX;exact⟨(QP.trans he).trans Qy,SX.a8⟩
end
def uo{s c}:hO (s++ [c])= (339 * hO s+ (c.toNat:Int)).tmod 9999749:=by simp[hO]
theorem xU:∀ (s:By) (a:Int),0≤a∧a < 9999749→0≤s.foldl (fun x c=>(339 * x+ (c.toNat:Int)).tmod 9999749) a∧s.foldl (fun x c=>(339 * x+ (c.toNat:Int)).tmod 9999749) a < 9999749
 | [],_,h=>h
 | c::s,a,h=>by
  rw[Z2];exact xU s _ ⟨Int.tmod_nonneg _ Om,Int.tmod_lt_of_pos _ Om⟩
def nf(s:By):0≤hO s∧hO s < 9999749:=xU s 1 Om
def tj(s:By): (jv (hO s)).length≤7:=by
 have:=nf s;rw[j9];exact lL (k:=6) Om
def um(s:By): (na s).length=7:=by
 have:=tj s;unfold na;rw[Xs,YB];omega
theorem qV{c}:∀{xs},Lib.join xs [c]=jc c xs
 | []=>rfl
 | [x]=>Lib.join_one x [c]
 | x::y::r=>by
  rw[mL Si,←qV (xs:=y::r),Lib.join_cons,Lib.join_cons];simp[Lib.joinTail]
def BD:∀{xs},Lib.join xs []=xs.flatten
 | []=>rfl
 | x::r=>by rw[Lib.join_cons];simp[Lib.joinTail]
section
variable {P:Program} (T:fA P) (Z:pZ P) {h:ah}
include T Z
set_option maxRecDepth 10000 in
theorem r187(s:By)(hs:s.length≤2^40)(w:Pw h):aA P 187 [.str s] h (fun v _=>v= .str (na s)):=by
 refine .kE 28 T.mix T.c187 ?_;intro ts hlen t0;unfold fn187;refine Rs t0 ?_;refine WL.inv T.mix (fun n ts' h'=>∃k:Nat,k≤s.length∧n=s.length - k∧h' =h∧ts'.length=28∧slot ts' 0= .str s∧slot ts' 3= .i (hO (s.take k))∧slot ts' 7= .i s.length∧slot ts' 8= .i k) s.length
  ⟨0,Om,rfl,rfl,(Sq t0),(Sq t0),iF,(Sq t0),iF⟩ ?_
 rintro _ ts' _ ⟨k,hk,rfl,rfl,Ry,u0,u3,u7,u8⟩;clear hlen t0;have hlen:=Ry;by_cases hlt:k < s.length
 ·have e3:=fk hlt;have hb:=nf (s.take k);have hcn:=UInt8.toNat_lt s[k];have w1:IntKind.i64.wrap (339 * hO (s.take k))=339 * hO (s.take k):=bp Om Om;have w2:IntKind.i64.wrap (s[k].toNat:Int)= (s[k].toNat:Int):=bp Om Om;have w3:IntKind.i64.wrap (339 * hO (s.take k)+ (s[k].toNat:Int))=339 * hO (s.take k)+ (s[k].toNat:Int):=bp Om Om;have er:=nU (k:=.i64) (a:=339 * hO (s.take k)+ (s[k].toNat:Int)) (b:=9999749) De;rw[←uo,←mz hlt]at er
  repeat (first| simp (config:={ maxSteps:=1000000 }) only[aV,bd,bD,bE,reduceAdd,reduceMul,reduceLeDiff,reduceEqDiff,bF,hlen,XO,XR,u0,u3,u7,u8,e3,jB hlt,w1,w2,w3,er,wrapN (show k+1 < 2^63 by omega)]| simp (config:={ maxSteps:=1000000 }) (disch:=first| (simp only[Xs,Xy,XA]<;>omega)| rfl| omega| fail) only[fM,aV,bd,bD,bE,reduceAdd,reduceMul,reduceLeDiff,reduceEqDiff,bF,hlen,XO,XR,u0,u3,u7,u8,e3,jB hlt,w1,w2,w3,er,wrapN (show k+1 < 2^63 by omega)])
  exact IZ
 ·have e3:=gq hlt;have ek:k=s.length:=Om
  rw[ek,X8]at u3;have hb:=nf s;have hl:=tj s;refine Rs (A5 @u0 @u3 @u7 @u8 e3) ?_;refine WF.ce T.c113 (Z.itoa Om Om w) fun g=>?_
  rw[gj hb.1];have w1:IntKind.i64.wrap (7 - ((jv (hO s)).length:Int))= ((7 - (jv (hO s)).length:Nat):Int):=by rw[bp Om Om];omega
  refine Rs (A2 @u0 @w1) ?_;refine WF.ce T.c252 (Z.rep Om) fun g2=>?_
  refine Rs (A2 @u0 (jy (show(List.replicate (7 - (jv (hO s)).length) (48:UInt8)).length+ (jv (hO s)).length < 2^62 by rw[YB];omega))) ?_;rfl
theorem xK{x}(h0:0≤x)(h1:x < 2^62)(w:Pw h):bG P (.func (.func 113) [] []) [.i x] h (fun v _=>v= .str (jv x)):=by
 rw[←gj h0];exact bG.of (a:=[]) (c:=[]) T.c113 (Z.itoa Om Om w)
end
structure O2(e:gy):Prop where
 num:0≤e.num∧e.num < 2^62
 cC:∀x∈e.cC,0≤x∧x < 2^62
 nl:e.names.length≤2^30
 vl:e.cC.length≤2^30
 bl: (iC e).length≤2^38
section
variable {P:Program} (T:fA P) (Z:pZ P) {h:ah}
include T Z
set_option maxRecDepth 10000 in
theorem r186{x}(ox:bo h x)(en:O2 x.ev)(w:Pw h):aA P 186 [.agg x.row] h (fun v _=>v= .str (iC x.ev)):=by
 refine .kE 19 T.mix T.c186 ?_;intro ts hlen t0;unfold fn186;have Qm:=@bo.box _ _ ox;have hnl:=en.nl;have Q9:=en.vl;refine Rs (A5 t0 @Qm @mN @bA @aO) ?_;refine WF.ce T.c113 (Z.itoa (by have:=en.num;omega) (by have:=en.num;omega) (w.ext Xx)) fun g1=>?_
 rw[gj en.num.1];refine Rs (A4 t0 @mN @bA @aO) ?_;have hF:=Fr.push (N:=h.length) (h:=h++ [aq.b x.row]++g1) (es:=1) (by simp only[Xs];omega) (([jv x.ev.num,x.ev.kind] :List (By)).map au) (by simp[au]);refine WR.EA (h0:=h) (cs:=([jv x.ev.num,x.ev.kind] :List (By)).map au) (ys:=x.ev.names.map au) hF (ox.n.ext Xx) De (by simp;omega) Xx ?_;intro s' g hfr hkp hle;rw[←XD]at hfr;have QS: (h++g)[h.length]? =some (.b x.row):=by
  rw[hkp _ (by simp only[Xs,XV];omega) (fun e=>by have e2: (h++ [aq.b x.row]++g1).length=h.length:=Yu e;simp only[Xs,XV]at e2;omega)];simp
 have lb:∀{k:ah} {n':Option Nat} {a:Nat},Ext (h++g) k→ao n' (.ptr h.length a) (fun z=>k[z]?)=cp n' a (.b x.row):=fun e=>an (e.some QS)
 refine Rs (A3 t0 @lb @aY) ?_;refine WF.res T.c199 (r199 T (ox.v.ext Xx) Om jv (fun y hy k ek=>xK T Z (en.cC y hy).1 (en.cC y hy).2 (w.ext (Ext.trans Xx ek)))) ?_;intro v g2 hv;refine Rs t0 ?_;refine WR.EA (h0:=h) (hfr.app g2) hv.a8 De (by simp;omega) Xx ?_;intro s2 g3 SX hkp2 SW;rw[←XD]at SX;refine Rs t0 ?_;have hbl:=en.bl;refine WF.ce T.c114 (Z.join SX.a8 ⟨by rw[qV];show(iC x.ev).length≤_;omega,by simp;omega⟩) fun g4=>?_
 refine Rs t0 ?_;rw[qV];rfl
set_option maxRecDepth 10000 in
theorem r97{x}(ox:bo h x)(en:O2 x.ev)(w:Pw h):aA P 97 [.agg x.row] h (fun v _=>v= .str (uE x.ev)):=by
 refine .kE 12 T.mix T.c97 ?_;intro ts hlen t0;unfold fn97;have Qm:=@bo.box _ _ ox;have hbl:=en.bl;refine Rs (A3 t0 @Qm @cg) ?_;refine WF.ce T.c186 (r186 T Z (ox.ext Xx) en (w.ext Xx)) fun g=>?_
 refine Rs (A2 t0 (jy (show(iC x.ev).length+ ([35] :By).length < 2^62 by simp;omega))) ?_;refine WF.ce T.c187 (r187 T Z _ Om (w.ext Xx)) fun g2=>?_
 have h7:=um (iC x.ev);refine Rs (A3 t0 (jy (show(iC x.ev++ [35]).length+ (na (iC x.ev)).length < 2^62 by simp;omega)) (jy (show(iC x.ev++ [35]++na (iC x.ev)).length+ ([10] :By).length < 2^62 by simp;omega))) ?_;rfl
theorem Bd{e}: (uE e).length= (iC e).length+9:=by
 have:=um (iC e);unfold uE;simp;omega
end
def Ext.iH{h W b X}(e:Ext h W)(hb:h.length≤b):Ext h (W.set b X):=by
 obtain⟨g,rfl⟩:=e;exact⟨g.set (b - h.length) X,Yp _ _ hb⟩
structure eG(B W0:ah)(b:Nat)(K:Nat→Prop)(W:ah)(U:RV):Prop where
 bk:bW B.length W b U
 ex:Ext B W
 ln:W0.length≤W.length
 kp:∀i,K i→W[i]? =W0[i]?
 kl:∀i,K i→i < W0.length∧i≠b∧some i∉U.bl
section
variable {B W0 W W2:ah} {b:Nat} {K:Nat→Prop} {U:RV} (s:eG B W0 b K W U)
include s
theorem eG.grow(e:Ext W W2):eG B W0 b K W2 U:=by
 obtain⟨g,rfl⟩:=e;refine⟨s.bk.app g,s.ex.trans ⟨g,rfl⟩,Yi s.ln Si,fun i hi=>?_,s.kl⟩;rw[Xv (Ym (s.kl i hi).1 s.ln)];exact s.kp i hi
omit s in
theorem OI{L s' i}(h:some i∈{ U with lines:=L,s0:=s' }.bl):some i∈U.bl∨sB s' =some i:=by
 exact Im
theorem eG.p0{L s'}(hff:Fr B.length W2 s' 3 (L.map cj))(hn:∀i,sB s' =some i→sB U.s0=some i∨W.length≤i)(hk:∀i,i < W.length→sB U.s0≠some i→W2[i]? =W[i]?)(hx:Ext B W2)(hl:W.length≤W2.length):
  eG B W0 b K (W2.set b (.b (U.row.set 1 s'))) { U with lines:=L,s0:=s' }:=by
 have hbl:=s.bk.lt;have QD:sB U.s0≠some b:=fun z=>s.bk.ne (by rw[←z];simp[RV.bl])
 have hsb:∀i,sB s' =some i→i≠b:=fun i hi z=>by
  exact Ik
 obtain⟨X,hX⟩:∃X,X=aq.b (U.row.set 1 s'):=⟨_,rfl⟩;rw[←hX];have g2:∀i,i≠b→(W2.set b X)[i]? =W2[i]? :=fun i hi=>XK (YP hi)
 have gb: (W2.set b X)[b]? =some X:=XL Om;refine⟨s.bk.LU (hff.aC fun i hi=>g2 i (hsb i hi)) hn (by rw[hX]at gb ⊢;exact gb) (fun i hi h1 h2=>(g2 i h2).trans (hk i hi h1)),hx.iH s.bk.hN,by rw[Yd];exact Yi s.ln hl,fun i hi=>?_,fun i hi=>?_⟩
 ·exact Io
 ·obtain⟨h1,h2,h3⟩:=s.kl i hi;refine⟨h1,h2,fun hm=>?_⟩;rcases OI hm with z| z
  ·exact h3 z
  ·exact L8
theorem eG.q0{L}(hff:Fr B.length W2 U.s0 3 (L.map cj))(hk:∀i,i < W.length→sB U.s0≠some i→W2[i]? =W[i]?)(hx:Ext B W2)(hl:W.length≤W2.length):eG B W0 b K W2 { U with lines:=L }:=by
 have hbl:=s.bk.lt;have QD:sB U.s0≠some b:=fun z=>s.bk.ne (by rw[←z];simp[RV.bl])
 refine⟨s.bk.LU (s:=U.s0) hff (fun i hi=>.inl hi) ((hk b hbl QD).trans s.bk.m) (fun i hi h1 _=>hk i hi h1),hx,Yi s.ln hl,fun i hi=>?_,s.kl⟩;exact Ju
omit s in
theorem OH{L s' i}(h:some i∈{ U with aJ:=L,s1:=s' }.bl):some i∈U.bl∨sB s' =some i:=by
 exact Im
theorem eG.p1{L s'}(hff:Fr B.length W2 s' 2 (L.map dO))(hn:∀i,sB s' =some i→sB U.s1=some i∨W.length≤i)(hk:∀i,i < W.length→sB U.s1≠some i→W2[i]? =W[i]?)(hx:Ext B W2)(hl:W.length≤W2.length):
  eG B W0 b K (W2.set b (.b (U.row.set 2 s'))) { U with aJ:=L,s1:=s' }:=by
 have hbl:=s.bk.lt;have QD:sB U.s1≠some b:=fun z=>s.bk.ne (by rw[←z];simp[RV.bl])
 have hsb:∀i,sB s' =some i→i≠b:=fun i hi z=>by
  exact Ik
 obtain⟨X,hX⟩:∃X,X=aq.b (U.row.set 2 s'):=⟨_,rfl⟩;rw[←hX];have g2:∀i,i≠b→(W2.set b X)[i]? =W2[i]? :=fun i hi=>XK (YP hi)
 have gb: (W2.set b X)[b]? =some X:=XL Om;refine⟨s.bk.PK (hff.aC fun i hi=>g2 i (hsb i hi)) hn (by rw[hX]at gb ⊢;exact gb) (fun i hi h1 h2=>(g2 i h2).trans (hk i hi h1)),hx.iH s.bk.hN,by rw[Yd];exact Yi s.ln hl,fun i hi=>?_,fun i hi=>?_⟩
 ·exact Io
 ·obtain⟨h1,h2,h3⟩:=s.kl i hi;refine⟨h1,h2,fun hm=>?_⟩;rcases OH hm with z| z
  ·exact h3 z
  ·exact L8
omit s in
theorem OD{L s' i}(h:some i∈{ U with aQ:=L,s5:=s' }.bl):some i∈U.bl∨sB s' =some i:=by
 exact Im
theorem eG.p5{L s'}(hff:Fr B.length W2 s' 4 (L.map da))(hn:∀i,sB s' =some i→sB U.s5=some i∨W.length≤i)(hk:∀i,i < W.length→sB U.s5≠some i→W2[i]? =W[i]?)(hx:Ext B W2)(hl:W.length≤W2.length):
  eG B W0 b K (W2.set b (.b (U.row.set 6 s'))) { U with aQ:=L,s5:=s' }:=by
 have hbl:=s.bk.lt;have QD:sB U.s5≠some b:=fun z=>s.bk.ne (by rw[←z];simp[RV.bl])
 have hsb:∀i,sB s' =some i→i≠b:=fun i hi z=>by
  exact Ik
 obtain⟨X,hX⟩:∃X,X=aq.b (U.row.set 6 s'):=⟨_,rfl⟩;rw[←hX];have g2:∀i,i≠b→(W2.set b X)[i]? =W2[i]? :=fun i hi=>XK (YP hi)
 have gb: (W2.set b X)[b]? =some X:=XL Om;refine⟨s.bk.LS (hff.aC fun i hi=>g2 i (hsb i hi)) hn (by rw[hX]at gb ⊢;exact gb) (fun i hi h1 h2=>(g2 i h2).trans (hk i hi h1)),hx.iH s.bk.hN,by rw[Yd];exact Yi s.ln hl,fun i hi=>?_,fun i hi=>?_⟩
 ·exact Io
 ·obtain⟨h1,h2,h3⟩:=s.kl i hi;refine⟨h1,h2,fun hm=>?_⟩;rcases OD hm with z| z
  ·exact h3 z
  ·exact L8
theorem eG.q5{L}(hff:Fr B.length W2 U.s5 4 (L.map da))(hk:∀i,i < W.length→sB U.s5≠some i→W2[i]? =W[i]?)(hx:Ext B W2)(hl:W.length≤W2.length):eG B W0 b K W2 { U with aQ:=L }:=by
 have hbl:=s.bk.lt;have QD:sB U.s5≠some b:=fun z=>s.bk.ne (by rw[←z];simp[RV.bl])
 refine⟨s.bk.LS (s:=U.s5) hff (fun i hi=>.inl hi) ((hk b hbl QD).trans s.bk.m) (fun i hi h1 _=>hk i hi h1),hx,Yi s.ln hl,fun i hi=>?_,s.kl⟩;exact Ju
omit s in
theorem OG{y t s' i}(h:some i∈{ U with ak:=U.ak++ [(y,t)],s2:=s' }.bl):some i∈U.bl∨sB s' =some i∨sB t=some i:=by
 exact Im
theorem eG.p2{y t s'}(hff:Fr B.length W2 s' 3 ((U.ak++ [(y,t)]).map bg))(ht:Fr B.length W2 t 1 (y.aJ.map au))(hn:∀i,sB s' =some i→sB U.s2=some i∨W.length≤i)(hnt:∀i,sB t=some i→W.length≤i∧sB s'≠some i)(hk:∀i,i < W.length→sB U.s2≠some i→W2[i]? =W[i]?)(hx:Ext B W2)(hl:W.length≤W2.length):
  eG B W0 b K (W2.set b (.b (U.row.set 3 s'))) { U with ak:=U.ak++ [(y,t)],s2:=s' }:=by
 have hbl:=s.bk.lt;have QD:sB U.s2≠some b:=fun z=>s.bk.ne (by rw[←z];simp[RV.bl])
 have hsb:∀i,sB s' =some i→i≠b:=fun i hi z=>by
  exact Ik
 have htb:∀i,sB t=some i→i≠b:=fun i hi z=>by
  exact yO
 obtain⟨X,hX⟩:∃X,X=aq.b (U.row.set 3 s'):=⟨_,rfl⟩;rw[←hX];have g2:∀i,i≠b→(W2.set b X)[i]? =W2[i]? :=fun i hi=>XK (YP hi)
 have gb: (W2.set b X)[b]? =some X:=XL Om;refine⟨s.bk.PJ (hff.aC fun i hi=>g2 i (hsb i hi)) (ht.aC fun i hi=>g2 i (htb i hi)) hn hnt (by rw[hX]at gb ⊢;exact gb) (fun i hi h1 h2=>(g2 i h2).trans (hk i hi h1)),hx.iH s.bk.hN,by rw[Yd];exact Yi s.ln hl,fun i hi=>?_,fun i hi=>?_⟩
 ·exact Io
 ·obtain⟨h1,h2,h3⟩:=s.kl i hi;have Vb:=s.ln;refine⟨h1,h2,fun hm=>?_⟩;rcases OG hm with z| z| z
  ·exact h3 z
  ·rcases hn i z with z| z
   ·exact L7
   ·omega
  ·have:=(hnt i z).1;omega
omit s in
theorem OF{y t s' i}(h:some i∈{ U with aE:=U.aE++ [(y,t)],s3:=s' }.bl):some i∈U.bl∨sB s' =some i∨sB t=some i:=by
 exact Im
theorem eG.p3{y t s'}(hff:Fr B.length W2 s' 4 ((U.aE++ [(y,t)]).map aU))(ht:Fr B.length W2 t 1 (y.bu.map au))(hn:∀i,sB s' =some i→sB U.s3=some i∨W.length≤i)(hnt:∀i,sB t=some i→W.length≤i∧sB s'≠some i)(hk:∀i,i < W.length→sB U.s3≠some i→W2[i]? =W[i]?)(hx:Ext B W2)(hl:W.length≤W2.length):
  eG B W0 b K (W2.set b (.b (U.row.set 4 s'))) { U with aE:=U.aE++ [(y,t)],s3:=s' }:=by
 have hbl:=s.bk.lt;have QD:sB U.s3≠some b:=fun z=>s.bk.ne (by rw[←z];simp[RV.bl])
 have hsb:∀i,sB s' =some i→i≠b:=fun i hi z=>by
  exact Ik
 have htb:∀i,sB t=some i→i≠b:=fun i hi z=>by
  exact yO
 obtain⟨X,hX⟩:∃X,X=aq.b (U.row.set 4 s'):=⟨_,rfl⟩;rw[←hX];have g2:∀i,i≠b→(W2.set b X)[i]? =W2[i]? :=fun i hi=>XK (YP hi)
 have gb: (W2.set b X)[b]? =some X:=XL Om;refine⟨s.bk.PI (hff.aC fun i hi=>g2 i (hsb i hi)) (ht.aC fun i hi=>g2 i (htb i hi)) hn hnt (by rw[hX]at gb ⊢;exact gb) (fun i hi h1 h2=>(g2 i h2).trans (hk i hi h1)),hx.iH s.bk.hN,by rw[Yd];exact Yi s.ln hl,fun i hi=>?_,fun i hi=>?_⟩
 ·exact Io
 ·obtain⟨h1,h2,h3⟩:=s.kl i hi;have Vb:=s.ln;refine⟨h1,h2,fun hm=>?_⟩;rcases OF hm with z| z| z
  ·exact h3 z
  ·rcases hn i z with z| z
   ·exact L7
   ·omega
  ·have:=(hnt i z).1;omega
omit s in
theorem OE{y t s' i}(h:some i∈{ U with aH:=U.aH++ [(y,t)],s4:=s' }.bl):some i∈U.bl∨sB s' =some i∨sB t=some i:=by
 exact Im
theorem eG.p4{y t s'}(hff:Fr B.length W2 s' 3 ((U.aH++ [(y,t)]).map bO))(ht:Fr B.length W2 t 1 (y.bw.map aL))(hn:∀i,sB s' =some i→sB U.s4=some i∨W.length≤i)(hnt:∀i,sB t=some i→W.length≤i∧sB s'≠some i)(hk:∀i,i < W.length→sB U.s4≠some i→W2[i]? =W[i]?)(hx:Ext B W2)(hl:W.length≤W2.length):
  eG B W0 b K (W2.set b (.b (U.row.set 5 s'))) { U with aH:=U.aH++ [(y,t)],s4:=s' }:=by
 have hbl:=s.bk.lt;have QD:sB U.s4≠some b:=fun z=>s.bk.ne (by rw[←z];simp[RV.bl])
 have hsb:∀i,sB s' =some i→i≠b:=fun i hi z=>by
  exact Ik
 have htb:∀i,sB t=some i→i≠b:=fun i hi z=>by
  exact yO
 obtain⟨X,hX⟩:∃X,X=aq.b (U.row.set 5 s'):=⟨_,rfl⟩;rw[←hX];have g2:∀i,i≠b→(W2.set b X)[i]? =W2[i]? :=fun i hi=>XK (YP hi)
 have gb: (W2.set b X)[b]? =some X:=XL Om;refine⟨s.bk.PH (hff.aC fun i hi=>g2 i (hsb i hi)) (ht.aC fun i hi=>g2 i (htb i hi)) hn hnt (by rw[hX]at gb ⊢;exact gb) (fun i hi h1 h2=>(g2 i h2).trans (hk i hi h1)),hx.iH s.bk.hN,by rw[Yd];exact Yi s.ln hl,fun i hi=>?_,fun i hi=>?_⟩
 ·exact Io
 ·obtain⟨h1,h2,h3⟩:=s.kl i hi;have Vb:=s.ln;refine⟨h1,h2,fun hm=>?_⟩;rcases OE hm with z| z| z
  ·exact h3 z
  ·rcases hn i z with z| z
   ·exact L7
   ·omega
  ·have:=(hnt i z).1;omega
theorem eG.qJ{i}(hi:i < U.aH.length){y}(hy:y.name=U.aH[i].1.name∧y.mod=U.aH[i].1.mod)(hf:Fr B.length W2 U.aH[i].2 1 (y.bw.map aL))(hk:∀j,j < W.length→sB U.aH[i].2≠some j→W2[j]? =W[j]?)(hx:Ext B W2)(hl:W.length≤W2.length):
  eG B W0 b K W2 { U with aH:=U.aH.set i (y,U.aH[i].2) }:=by
 have RS:sB U.aH[i].2∈U.bl:=by simp only[RV.bl,XC,X2];exact .inr ⟨_,XJ hi,rfl⟩
 have hbl:{ U with aH:=U.aH.set i (y,U.aH[i].2) }.bl=U.bl:=by
  simp only[RV.bl,ZD];congr 1;have:sB U.aH[i].2= (U.aH.map fun x=>sB x.2)[i]'(by simpa using hi):=Si
  exact z173
 refine⟨s.bk.PG hi hy hf hk,hx,Yi s.ln hl,fun j hj=>?_,fun j hj=>by rw[hbl];exact s.kl j hj⟩;obtain⟨h1,h2,h3⟩:=s.kl j hj;rw[hk j (Ym h1 s.ln) (fun z=>h3 (by rw[←z];exact RS))];exact s.kp j hj
omit s in
theorem OC{i j y t}(h:some j∈{ U with ak:=U.ak.set i (y,t) }.bl):some j∈U.bl∨sB t=some j:=by
 simp only[RV.bl,XC,X2]at h ⊢;rcases h with((h| ⟨x,hx,h⟩)| h)| h
 ·exact .inl (.inl (.inl (.inl h)))
 ·rcases Zd hx with hx| hx
  ·exact .inl (.inl (.inl (.inr ⟨x,hx,h⟩)))
  ·rw[hx]at h;exact .inr h
 ·exact .inl (.inl (.inr h))
 ·exact .inl (.inr h)
theorem eG.qS{i}(hi:i < U.ak.length){y t}(hs:Fr B.length W2 U.s2 3 ((U.ak.set i (y,t)).map bg))(ht:Fr B.length W2 t 1 (y.aJ.map au))(hnt:∀j,sB t=some j→W.length≤j)
  (hk:∀j,j < W.length→sB U.s2≠some j→sB U.ak[i].2≠some j→W2[j]? =W[j]?) (hx:Ext B W2) (hl:W.length≤W2.length):eG B W0 b K W2 { U with ak:=U.ak.set i (y,t) }:=by
 have m1:sB U.s2∈U.bl:=by simp[RV.bl]
 have m2:sB U.ak[i].2∈U.bl:=by simp only[RV.bl,XC,X2];exact .inl (.inl (.inr ⟨_,XJ hi,rfl⟩))
 refine⟨s.bk.PF hi hs ht hnt hk,hx,Yi s.ln hl,fun j hj=>?_,fun j hj=>?_⟩
 ·obtain⟨h1,h2,h3⟩:=s.kl j hj;rw[hk j (Ym h1 s.ln) (fun z=>h3 (by rw[←z];exact m1)) (fun z=>h3 (by rw[←z];exact m2))];exact s.kp j hj
 ·obtain⟨h1,h2,h3⟩:=s.kl j hj;refine⟨h1,h2,fun hm=>?_⟩;rcases OC hm with z| z
  ·exact h3 z
  ·have:=hnt j z;have:=s.ln;omega
end
def ow(k:Nat):aj:=((fn224).body.dr k).hd
def p9(k:Nat):aj:=(fn224).body.dr k
def M0:p9 9= .seq (ow 9) .ret:=rfl
def M1:p9 8= .seq (ow 8) (p9 9):=rfl
def M3:p9 7= .seq (ow 7) (p9 8):=rfl
def M4:p9 6= .seq (ow 6) (p9 7):=rfl
def M5:p9 5= .seq (ow 5) (p9 6):=rfl
def M6:p9 4= .seq (ow 4) (p9 5):=rfl
def M7:p9 3= .seq (ow 3) (p9 4):=rfl
def M8:p9 2= .seq (ow 2) (p9 3):=rfl
def M9:p9 1= .seq (ow 1) (p9 2):=rfl
def Na:fn224= ⟨100,1,[(2,some (some 7))],.seq (ow 0) (p9 1)⟩:=rfl
def km:List AV:=[.i 0,.af,.af,.af,.af,.af,.af]
def Qh(h:ah)(i:Nat):Prop:=i < h.length∨i=h.length+1
def vV(h:ah)(r:aq)(W:ah)(U:RV):Prop:=eG h (h++ [r]++ [.b km]) h.length (Qh h) W U
def vV.rb{h W r U}(s:vV h r W U):W[h.length+1]? =some (.b km):=by
 rw[eG.kp s _ (.inr rfl)];simp
def Iz(h:ah)(V:RV):AV→ah→Prop:=fun v h'=>Ext h h'∧∃V':RV,V'.ar=V.ar∧v= .agg V'.row∧cG h.length h' V'
section
variable {P:Program} (T:fA P) {h W:ah} {ts:TS} {V U:RV} {r:aq}
include T
theorem P3(s:vV h r W U)(hr:U.ar=V.ar)(hlen:ts.length=100)(t1:slot ts 1= .ptr h.length 0)(t2:slot ts 2= .ptr (h.length+1) 0):
  WC P bR (p9 9) [] ts W (FQ [(2,some (some 7))] (Iz h V)):=by
 have:=T.mix;rw[M0];unfold ow fn224;simp only[aj.j,aj.s,aj.r,aj.dr,aj.tl,aj.hd];have lb:∀{k n a},Ext W k→ao n (.ptr h.length a) (fun z=>k[z]?)=cp n a (.b U.row):=fun {_ _ _} e=>an (e.some s.bk.m)
 have sb:=@aM 7 (h.length+1) 0 (.agg U.row) (fun z=>W[z]?) _ s.rb;have st:=@aD.st _ _ s.bk.o.ok;unfold km at sb;rw[st]at sb;have hl:=(Xr.1 s.rb).1;have gm: (W.set (h.length+1) (.b U.row))[h.length+1]? =some (.b U.row):=XL hl
 repeat (first| simp (config:={ maxSteps:=1000000 }) only[aV,bd,bD,bE,reduceAdd,reduceMul,reduceLeDiff,reduceEqDiff,bF,hlen,XO,XR,t1,t2,lb,sb,aF,an gm]| simp (config:={ maxSteps:=1000000 }) (disch:=first| (simp only[Xs,Xy,XA]<;>omega)| rfl| omega| fail) only[fM,aV,bd,bD,bE,reduceAdd,reduceMul,reduceLeDiff,reduceEqDiff,bF,hlen,XO,XR,t1,t2,lb,sb,aF,an gm])
 refine⟨s.ex.iH Om,U,hr,rfl,s.bk.o.az fun i hi=>?_⟩;have:i≠h.length+1:=fun e=>(s.kl _ (.inr rfl)).2.2 (e▸hi)
 rw[XK (YP this)]
theorem Nb(o:aD h V)(w:fo V.ar)(hj:∀x∈V.aH,x.1.bw.length≤2^30)(s:vV h r W U)(hr:U.ar={ V.ar with aH:=V.ar.aH.take 0 })(hlen:ts.length=100)(t1:slot ts 1= .ptr h.length 0)(t2:slot ts 2= .ptr (h.length+1) 0)(t5:slot ts 5=V.s4):
  WC P bR (p9 8) [] ts W (FQ [(2,some (some 7))] (Iz h V)):=by
 have hL:V.aH.length≤16:=by have:=w.l4;simpa [RV.ar]using this
 have hRl:V.ar.aH.length=V.aH.length:=by simp[RV.ar]
 rw[M1];unfold ow fn224;simp only[aj.j,aj.s,aj.r,aj.dr,aj.tl,aj.hd];refine Rs (A3 t1 t2 t5) ?_;refine WL.inv T.mix (fun m ts h'=>∃ (k:Nat) (U:RV),k≤V.aH.length∧m=V.aH.length - k∧vV h r h' U∧U.ar={ V.ar with aH:=V.ar.aH.take k }∧ts.length=100∧slot ts 1= .ptr h.length 0∧slot ts 2= .ptr (h.length+1) 0∧slot ts 5=V.s4∧slot ts 10= .i k) V.aH.length
  ⟨0,U,Om,rfl,s,hr,Sn,(Sq t1),(Sq t2),(Sq t5),iF⟩ ?_
 clear t1 t2 t5 hlen s hr;rintro _ ts W ⟨k,U,hk,rfl,s,hr,hlen,t1,t2,t5,t10⟩;have oW:=o.ext s.ex;by_cases hlt:k < V.aH.length
 ·have e3:=fk hlt;have e5:IntKind.i64.wrap ((k:Int)+1)= ((k+1:Nat):Int):=wrapN Om;have ix:=oW.i4.dG (kk:=.i64) hlt;obtain⟨y,hy⟩:∃y,y=V.aH[k]:=⟨_,rfl⟩;have R4:y∈V.aH:=by rw[hy];exact XJ _
  have ld:∀{k':ah},Ext W k'→ao (some 3) (cV V.s4 3 k) (fun b=>k'[b]?)=some (.agg (bO y),.az):=fun {k'} e=>by rw[hy];exact oW.i4.kB hlt e
  have oy:=oW.e4 y R4;have Wm:=oy.one;unfold bO at ld;obtain⟨n,hn⟩:∃n,n=W.length:=⟨_,rfl⟩;refine Rs (A9 t1 t2 t5 t10 oW.i4.aP e3 ix @ld @Wm) ?_;refine WR.pX (N:=n+1) bf (by rw[hn];simp) (oy.ext Xx) (by have:=hj y R4;simp only[XB];omega) fun t g f=>?_
  have p1:=f.a8.one;rw[←hn];obtain⟨W3,QI⟩:∃W3,W3=W++ [aq.b [AV.str y.1.name,AV.str y.1.mod,y.2]]++ [.b []]++g:=⟨_,rfl⟩;rw[←QI]at f ⊢;have V3:Ext W W3:=by rw[QI];exact Xx
  have l3:n+2≤W3.length:=by rw[QI,hn];simp only[Xs,Xy,XA];omega
  have m3:W3[n]? =some (.b [AV.str y.1.name,AV.str y.1.mod,y.2]):=by rw[QI,hn];exact(show Ext (W++ [aq.b [AV.str y.1.name,AV.str y.1.mod,y.2]]) _ from Xx).some bf
  have Vu:aW 1 (.ptr n 2) t (fun z=>W3[z]?)=some (aB,.set n (.b [AV.str y.1.name,AV.str y.1.mod,t])):=(aM m3).trans (bV p1 (by show 2+1≤3;omega));refine Rs (A6 t1 t2 t5 t10 @Vu @p1) ?_;obtain⟨W4,Rc⟩:∃W4,W4=W3.set n (.b [AV.str y.1.name,AV.str y.1.mod,t]):=⟨_,rfl⟩;rw[←Rc];have l4:W4.length=W3.length:=by rw[Rc,Yd]
  have k4:∀i,i≠n→W4[i]? =W3[i]? :=fun i hi=>by rw[Rc,XK (YP hi)]
  have m4:W4[n]? =some (.b [AV.str y.1.name,AV.str y.1.mod,t]):=by rw[Rc,XL Om]
  have e4:Ext W W4:=by rw[Rc];exact V3.iH Om
  have s4:vV h r W4 U:=s.grow e4;have f4:Fr (n+1) W4 t 1 (y.1.bw.map aL):=f.aC fun i hi=>k4 i (by have:=(f.bN hi).1;omega)
  have lr:∀{k n a},Ext W4 k→ao n (.ptr h.length a) (fun z=>k[z]?)=cp n a (.b U.row):=fun {_ _ _} e=>an (e.some s4.bk.m)
  have ln4:∀{k n' a},Ext W4 k→ao n' (.ptr n a) (fun z=>k[z]?)=cp n' a (.b [AV.str y.1.name,AV.str y.1.mod,t]):=fun {_ _ _} e=>an (e.some m4)
  clear V3 m3 Vu f Rc QI;refine Rs (A8 t1 t2 t5 t10 @lr @ln4 @fS @p1) ?_;have Sr:U.aH.length≤16:=by
   have h1:U.ar.aH.length=U.aH.length:=by simp[RV.ar]
   exact z127
  obtain⟨z,hz⟩:∃z:List AV,z=bO (y.1,t):=⟨_,rfl⟩;have Sc: [AV.str y.1.name,AV.str y.1.mod,t]=z:=by rw[hz];rfl
  rw[Sc];have Wv:aK (W4++ [aq.cells z true true]) (AV.slice W4.length 0 1 3) 3 [z]:=by
   exact O6
  refine WR.fw (h0:=h) (cs:=U.aH.map bO) (ys:=[z]) ((s4.bk.o.i4).app _) Wv De Si (by simp only[XB,Xy,XA];omega) (s4.ex.trans Xx) ?_;intro g' Qz hff hkp;have hrow:U.aH.map bO++ [z]= (U.aH++ [(y.1,t)]).map bO:=by rw[XD,hz];rfl
  rw[hrow]at hff;rw[hrow];obtain⟨s',Qo⟩:∃s',s' =AV.slice (W4++ [aq.cells z true true]).length 0 ((U.aH++ [(y.1,t)]).map bO).length 3:=⟨_,rfl⟩;rw[←Qo]at hff;rw[←Qo];have Sd:sB s' =some (W4.length+1):=by rw[Qo];simp[sB]
  have q1:s'.one=true:=by rw[Qo];rfl
  obtain⟨W5,SM⟩:∃W5,W5=h++g':=⟨_,rfl⟩;rw[←SM]at Qz hff hkp ⊢;have hk1:∀i,i < W4.length→sB U.s4≠some i→W5[i]? =W4[i]? :=fun i hi hne=>by
   exact LN
  have hl5:W4.length≤W5.length:=by rw[Qz];simp only[Xs];omega
  have htb:∀i,sB t=some i→W.length≤i∧i < W4.length:=fun i hi=>by have:=f4.bN hi;omega
  have bS:∀i,sB t=some i→sB U.s4≠some i:=fun i hi e=>by
   exact L9
  have f5:Fr h.length W5 t 1 (y.1.bw.map aL):=(f4.aC fun i hi=>hk1 i (htb i hi).2 (bS i hi)).low (by have:=s.bk.lt;omega);have VZ:W.length≤W4.length:=e4.len;have s5:vV h r (W5.set h.length (.b (U.row.set 5 s'))) { U with aH:=U.aH++ [(y.1,t)],s4:=s' }:=
   s.p4 hff f5 (fun i hi=>.inr (by rw[Sd]at hi;cases hi;omega)) (fun i hi=>⟨(htb i hi).1,fun e=>by rw[Sd]at e;cases e;have:=(htb _ hi).2;omega⟩) (fun i hi hne=>(hk1 i Om hne).trans (e4.get hi)) (by rw[SM];exact⟨_,rfl⟩) Om
  have mB:W5[h.length]? =some (.b U.row):=(hk1 _ s4.bk.lt (fun z=>s4.bk.ne (by rw[←z];simp[RV.bl]))).trans s4.bk.m;have RZ:aW 1 (.ptr h.length 5) s' (fun z=>W5[z]?)=some (aB,.set h.length (.b (U.row.set 5 s'))):=(aM mB).trans (bV q1 (by show 5+1≤7;omega));refine Rs (A7 t1 t2 t5 t10 @RZ q1 e5) ?_;refine⟨_,Om,k+1,_,Om,rfl,s5,?_,rfl⟩;have:V.ar.aH.take (k+1)=V.ar.aH.take k++ [y.1]:=by
   exact Ma
  rw[this];have hf: (U.aH++ [(y.1,t)]).map Prod.fst=V.ar.aH.take k++ [y.1]:=by
   have h1:U.ar.aH=V.ar.aH.take k:=by rw[hr]
   rw[XD,←h1];rfl
  have e: ({ U with aH:=U.aH++ [(y.1,t)],s4:=s' }:RV).ar={ U.ar with aH:=(U.aH++ [(y.1,t)]).map Prod.fst }:=rfl;rw[e,hf,hr]
 ·have e3:decide ((k:Int)< V.aH.length)=false:=Xu Om;have e4:k=V.aH.length:=Om
  rw[e4,←hRl,X8]at hr;refine Rs (A6 t1 t2 t5 t10 oW.i4.aP e3) ?_;refine P3 T s hr Sn (Sq t1) (Sq t2)
theorem Nc(o:aD h V)(w:fo V.ar)(hm:∀x∈V.aE,x.1.bu.length≤2^30)(hj:∀x∈V.aH,x.1.bw.length≤2^30)(s:vV h r W U)(hr:U.ar={ V.ar with aE:=V.ar.aE.take 0,aH:=[] })(hlen:ts.length=100)(t1:slot ts 1= .ptr h.length 0)(t2:slot ts 2= .ptr (h.length+1) 0)(t4:slot ts 4=V.s3)(t5:slot ts 5=V.s4):
  WC P bR (p9 7) [] ts W (FQ [(2,some (some 7))] (Iz h V)):=by
 have hL:V.aE.length≤32:=by have:=w.l3;simpa [RV.ar]using this
 have hRl:V.ar.aE.length=V.aE.length:=by simp[RV.ar]
 rw[M3];unfold ow fn224;simp only[aj.j,aj.s,aj.r,aj.dr,aj.tl,aj.hd];refine Rs (A3 t1 t2 t4) ?_;refine WL.inv T.mix (fun m ts h'=>∃ (k:Nat) (U:RV),k≤V.aE.length∧m=V.aE.length - k∧vV h r h' U∧U.ar={ V.ar with aE:=V.ar.aE.take k,aH:=[] }∧ts.length=100∧slot ts 1= .ptr h.length 0∧slot ts 2= .ptr (h.length+1) 0∧slot ts 4=V.s3∧slot ts 5=V.s4∧slot ts 8= .i k) V.aE.length
  ⟨0,U,Om,rfl,s,hr,Sn,(Sq t1),(Sq t2),(Sq t4),(Sq t5),iF⟩ ?_
 clear t1 t2 t4 t5 hlen s hr;rintro _ ts W ⟨k,U,hk,rfl,s,hr,hlen,t1,t2,t4,t5,t8⟩;have oW:=o.ext s.ex;by_cases hlt:k < V.aE.length
 ·have e3:=fk hlt;have e5:IntKind.i64.wrap ((k:Int)+1)= ((k+1:Nat):Int):=wrapN Om;have ix:=oW.i3.dG (kk:=.i64) hlt;obtain⟨y,hy⟩:∃y,y=V.aE[k]:=⟨_,rfl⟩;have R4:y∈V.aE:=by rw[hy];exact XJ _
  have ld:∀{k':ah},Ext W k'→ao (some 4) (cV V.s3 4 k) (fun b=>k'[b]?)=some (.agg (aU y),.az):=fun {k'} e=>by rw[hy];exact oW.i3.kB hlt e
  have oy:=oW.e3 y R4;have Wm:=oy.one;unfold aU at ld;obtain⟨n,hn⟩:∃n,n=W.length:=⟨_,rfl⟩;refine Rs (mY t1 t2 t4 t5 t8 oW.i3.aP e3 ix @ld @Wm) ?_;refine WR.pX (N:=n+1) bf (by rw[hn];simp) (oy.ext Xx) (by have:=hm y R4;simp only[XB];omega) fun t g f=>?_
  have p1:=f.a8.one;rw[←hn];obtain⟨W3,QI⟩:∃W3,W3=W++ [aq.b [AV.str y.1.name,AV.str y.1.gives,AV.str y.1.line,y.2]]++ [.b []]++g:=⟨_,rfl⟩;rw[←QI]at f ⊢;have V3:Ext W W3:=by rw[QI];exact Xx
  have l3:n+2≤W3.length:=by rw[QI,hn];simp only[Xs,Xy,XA];omega
  have m3:W3[n]? =some (.b [AV.str y.1.name,AV.str y.1.gives,AV.str y.1.line,y.2]):=by rw[QI,hn];exact(show Ext (W++ [aq.b [AV.str y.1.name,AV.str y.1.gives,AV.str y.1.line,y.2]]) _ from Xx).some bf
  have Vu:aW 1 (.ptr n 3) t (fun z=>W3[z]?)=some (aB,.set n (.b [AV.str y.1.name,AV.str y.1.gives,AV.str y.1.line,t])):=(aM m3).trans (bV p1 (by show 3+1≤4;omega));refine Rs (A7 t1 t2 t4 t5 t8 @Vu @p1) ?_;obtain⟨W4,Rc⟩:∃W4,W4=W3.set n (.b [AV.str y.1.name,AV.str y.1.gives,AV.str y.1.line,t]):=⟨_,rfl⟩;rw[←Rc];have l4:W4.length=W3.length:=by rw[Rc,Yd]
  have k4:∀i,i≠n→W4[i]? =W3[i]? :=fun i hi=>by rw[Rc,XK (YP hi)]
  have m4:W4[n]? =some (.b [AV.str y.1.name,AV.str y.1.gives,AV.str y.1.line,t]):=by rw[Rc,XL Om]
  have e4:Ext W W4:=by rw[Rc];exact V3.iH Om
  have s4:vV h r W4 U:=s.grow e4;have f4:Fr (n+1) W4 t 1 (y.1.bu.map au):=f.aC fun i hi=>k4 i (by have:=(f.bN hi).1;omega)
  have lr:∀{k n a},Ext W4 k→ao n (.ptr h.length a) (fun z=>k[z]?)=cp n a (.b U.row):=fun {_ _ _} e=>an (e.some s4.bk.m)
  have ln4:∀{k n' a},Ext W4 k→ao n' (.ptr n a) (fun z=>k[z]?)=cp n' a (.b [AV.str y.1.name,AV.str y.1.gives,AV.str y.1.line,t]):=fun {_ _ _} e=>an (e.some m4)
  clear V3 m3 Vu f Rc QI;refine Rs (A9 t1 t2 t4 t5 t8 @lr @ln4 @fE @p1) ?_;have Sr:U.aE.length≤32:=by
   have h1:U.ar.aE.length=U.aE.length:=by simp[RV.ar]
   exact z127
  obtain⟨z,hz⟩:∃z:List AV,z=aU (y.1,t):=⟨_,rfl⟩;have Sc: [AV.str y.1.name,AV.str y.1.gives,AV.str y.1.line,t]=z:=by rw[hz];rfl
  rw[Sc];have Wv:aK (W4++ [aq.cells z true true]) (AV.slice W4.length 0 1 4) 4 [z]:=by
   have:=(Fr.push (N:=0) (es:=4) (h:=W4) (X3 _) [z] (fun x hx=>by rw[XT]at hx;rw[hx,hz];rfl)).a8
   simpa using this
  refine WR.fw (h0:=h) (cs:=U.aE.map aU) (ys:=[z]) ((s4.bk.o.i3).app _) Wv De Si (by simp only[XB,Xy,XA];omega) (s4.ex.trans Xx) ?_;intro g' Qz hff hkp;have hrow:U.aE.map aU++ [z]= (U.aE++ [(y.1,t)]).map aU:=by rw[XD,hz];rfl
  rw[hrow]at hff;rw[hrow];obtain⟨s',Qo⟩:∃s',s' =AV.slice (W4++ [aq.cells z true true]).length 0 ((U.aE++ [(y.1,t)]).map aU).length 4:=⟨_,rfl⟩;rw[←Qo]at hff;rw[←Qo];have Sd:sB s' =some (W4.length+1):=by rw[Qo];simp[sB]
  have q1:s'.one=true:=by rw[Qo];rfl
  obtain⟨W5,SM⟩:∃W5,W5=h++g':=⟨_,rfl⟩;rw[←SM]at Qz hff hkp ⊢;have hk1:∀i,i < W4.length→sB U.s3≠some i→W5[i]? =W4[i]? :=fun i hi hne=>by
   exact LN
  have hl5:W4.length≤W5.length:=by rw[Qz];simp only[Xs];omega
  have htb:∀i,sB t=some i→W.length≤i∧i < W4.length:=fun i hi=>by have:=f4.bN hi;omega
  have bS:∀i,sB t=some i→sB U.s3≠some i:=fun i hi e=>by
   exact L9
  have f5:Fr h.length W5 t 1 (y.1.bu.map au):=(f4.aC fun i hi=>hk1 i (htb i hi).2 (bS i hi)).low (by have:=s.bk.lt;omega);have VZ:W.length≤W4.length:=e4.len;have s5:vV h r (W5.set h.length (.b (U.row.set 4 s'))) { U with aE:=U.aE++ [(y.1,t)],s3:=s' }:=
   s.p3 hff f5 (fun i hi=>.inr (by rw[Sd]at hi;cases hi;omega)) (fun i hi=>⟨(htb i hi).1,fun e=>by rw[Sd]at e;cases e;have:=(htb _ hi).2;omega⟩) (fun i hi hne=>(hk1 i Om hne).trans (e4.get hi)) (by rw[SM];exact⟨_,rfl⟩) Om
  have mB:W5[h.length]? =some (.b U.row):=(hk1 _ s4.bk.lt (fun z=>s4.bk.ne (by rw[←z];simp[RV.bl]))).trans s4.bk.m;have RZ:aW 1 (.ptr h.length 4) s' (fun z=>W5[z]?)=some (aB,.set h.length (.b (U.row.set 4 s'))):=(aM mB).trans (bV q1 (by show 4+1≤7;omega));refine Rs (A8 t1 t2 t4 t5 t8 @RZ q1 e5) ?_;refine⟨_,Om,k+1,_,Om,rfl,s5,?_,rfl⟩;have:V.ar.aE.take (k+1)=V.ar.aE.take k++ [y.1]:=by
   exact Ma
  rw[this];have hf: (U.aE++ [(y.1,t)]).map Prod.fst=V.ar.aE.take k++ [y.1]:=by
   have h1:U.ar.aE=V.ar.aE.take k:=by rw[hr]
   rw[XD,←h1];rfl
  have e: ({ U with aE:=U.aE++ [(y.1,t)],s3:=s' }:RV).ar={ U.ar with aE:=(U.aE++ [(y.1,t)]).map Prod.fst }:=rfl;rw[e,hf,hr]
 ·have e3:decide ((k:Int)< V.aE.length)=false:=Xu Om;have e4:k=V.aE.length:=Om
  rw[e4,←hRl,X8]at hr;refine Rs (A7 t1 t2 t4 t5 t8 oW.i3.aP e3) ?_;refine Nb T o w hj s hr Sn (Sq t1) (Sq t2) (Sq t5)
theorem Nd(o:aD h V)(w:fo V.ar)(hs:∀x∈V.ak,x.1.aJ.length≤2^30)(hm:∀x∈V.aE,x.1.bu.length≤2^30)(hj:∀x∈V.aH,x.1.bw.length≤2^30)(s:vV h r W U)(hr:U.ar={ V.ar with ak:=V.ar.ak.take 0,aE:=[],aH:=[] })(hlen:ts.length=100)(t1:slot ts 1= .ptr h.length 0)(t2:slot ts 2= .ptr (h.length+1) 0)(t3:slot ts 3=V.s2)(t4:slot ts 4=V.s3)(t5:slot ts 5=V.s4):
  WC P bR (p9 6) [] ts W (FQ [(2,some (some 7))] (Iz h V)):=by
 have hL:V.ak.length≤64:=by have:=w.l2;simpa [RV.ar]using this
 have hRl:V.ar.ak.length=V.ak.length:=by simp[RV.ar]
 rw[M4];unfold ow fn224;simp only[aj.j,aj.s,aj.r,aj.dr,aj.tl,aj.hd];refine Rs (A3 t1 t2 t3) ?_;refine WL.inv T.mix (fun m ts h'=>∃ (k:Nat) (U:RV),k≤V.ak.length∧m=V.ak.length - k∧vV h r h' U∧U.ar={ V.ar with ak:=V.ar.ak.take k,aE:=[],aH:=[] }∧ts.length=100∧slot ts 1= .ptr h.length 0∧slot ts 2= .ptr (h.length+1) 0∧slot ts 3=V.s2∧slot ts 4=V.s3∧slot ts 5=V.s4∧slot ts 6= .i k) V.ak.length
  ⟨0,U,Om,rfl,s,hr,Sn,(Sq t1),(Sq t2),(Sq t3),(Sq t4),(Sq t5),iF⟩ ?_
 clear t1 t2 t3 t4 t5 hlen s hr;rintro _ ts W ⟨k,U,hk,rfl,s,hr,hlen,t1,t2,t3,t4,t5,t6⟩;have oW:=o.ext s.ex;by_cases hlt:k < V.ak.length
 ·have e3:=fk hlt;have e5:IntKind.i64.wrap ((k:Int)+1)= ((k+1:Nat):Int):=wrapN Om;have ix:=oW.i2.dG (kk:=.i64) hlt;obtain⟨y,hy⟩:∃y,y=V.ak[k]:=⟨_,rfl⟩;have R4:y∈V.ak:=by rw[hy];exact XJ _
  have ld:∀{k':ah},Ext W k'→ao (some 3) (cV V.s2 3 k) (fun b=>k'[b]?)=some (.agg (bg y),.az):=fun {k'} e=>by rw[hy];exact oW.i2.kB hlt e
  have oy:=oW.e2 y R4;have Wm:=oy.one;unfold bg at ld;obtain⟨n,hn⟩:∃n,n=W.length:=⟨_,rfl⟩;refine Rs (mX t1 t2 t3 t4 t5 t6 oW.i2.aP e3 ix @ld @Wm) ?_;refine WR.pX (N:=n+1) bf (by rw[hn];simp) (oy.ext Xx) (by have:=hs y R4;simp only[XB];omega) fun t g f=>?_
  have p1:=f.a8.one;rw[←hn];obtain⟨W3,QI⟩:∃W3,W3=W++ [aq.b [AV.str y.1.name,AV.str y.1.line,y.2]]++ [.b []]++g:=⟨_,rfl⟩;rw[←QI]at f ⊢;have V3:Ext W W3:=by rw[QI];exact Xx
  have l3:n+2≤W3.length:=by rw[QI,hn];simp only[Xs,Xy,XA];omega
  have m3:W3[n]? =some (.b [AV.str y.1.name,AV.str y.1.line,y.2]):=by rw[QI,hn];exact(show Ext (W++ [aq.b [AV.str y.1.name,AV.str y.1.line,y.2]]) _ from Xx).some bf
  have Vu:aW 1 (.ptr n 2) t (fun z=>W3[z]?)=some (aB,.set n (.b [AV.str y.1.name,AV.str y.1.line,t])):=(aM m3).trans (bV p1 (by show 2+1≤3;omega));refine Rs (A8 t1 t2 t3 t4 t5 t6 @Vu @p1) ?_;obtain⟨W4,Rc⟩:∃W4,W4=W3.set n (.b [AV.str y.1.name,AV.str y.1.line,t]):=⟨_,rfl⟩;rw[←Rc];have l4:W4.length=W3.length:=by rw[Rc,Yd]
  have k4:∀i,i≠n→W4[i]? =W3[i]? :=fun i hi=>by rw[Rc,XK (YP hi)]
  have m4:W4[n]? =some (.b [AV.str y.1.name,AV.str y.1.line,t]):=by rw[Rc,XL Om]
  have e4:Ext W W4:=by rw[Rc];exact V3.iH Om
  have s4:vV h r W4 U:=s.grow e4;have f4:Fr (n+1) W4 t 1 (y.1.aJ.map au):=f.aC fun i hi=>k4 i (by have:=(f.bN hi).1;omega)
  have lr:∀{k n a},Ext W4 k→ao n (.ptr h.length a) (fun z=>k[z]?)=cp n a (.b U.row):=fun {_ _ _} e=>an (e.some s4.bk.m)
  have ln4:∀{k n' a},Ext W4 k→ao n' (.ptr n a) (fun z=>k[z]?)=cp n' a (.b [AV.str y.1.name,AV.str y.1.line,t]):=fun {_ _ _} e=>an (e.some m4)
  clear V3 m3 Vu f Rc QI;refine Rs (mY t1 t2 t3 t4 t5 t6 @lr @ln4 @eJ @p1) ?_;have Sr:U.ak.length≤64:=by
   have h1:U.ar.ak.length=U.ak.length:=by simp[RV.ar]
   exact z127
  obtain⟨z,hz⟩:∃z:List AV,z=bg (y.1,t):=⟨_,rfl⟩;have Sc: [AV.str y.1.name,AV.str y.1.line,t]=z:=by rw[hz];rfl
  rw[Sc];have Wv:aK (W4++ [aq.cells z true true]) (AV.slice W4.length 0 1 3) 3 [z]:=by
   exact O6
  refine WR.fw (h0:=h) (cs:=U.ak.map bg) (ys:=[z]) ((s4.bk.o.i2).app _) Wv De Si (by simp only[XB,Xy,XA];omega) (s4.ex.trans Xx) ?_;intro g' Qz hff hkp;have hrow:U.ak.map bg++ [z]= (U.ak++ [(y.1,t)]).map bg:=by rw[XD,hz];rfl
  rw[hrow]at hff;rw[hrow];obtain⟨s',Qo⟩:∃s',s' =AV.slice (W4++ [aq.cells z true true]).length 0 ((U.ak++ [(y.1,t)]).map bg).length 3:=⟨_,rfl⟩;rw[←Qo]at hff;rw[←Qo];have Sd:sB s' =some (W4.length+1):=by rw[Qo];simp[sB]
  have q1:s'.one=true:=by rw[Qo];rfl
  obtain⟨W5,SM⟩:∃W5,W5=h++g':=⟨_,rfl⟩;rw[←SM]at Qz hff hkp ⊢;have hk1:∀i,i < W4.length→sB U.s2≠some i→W5[i]? =W4[i]? :=fun i hi hne=>by
   exact LN
  have hl5:W4.length≤W5.length:=by rw[Qz];simp only[Xs];omega
  have htb:∀i,sB t=some i→W.length≤i∧i < W4.length:=fun i hi=>by have:=f4.bN hi;omega
  have bS:∀i,sB t=some i→sB U.s2≠some i:=fun i hi e=>by
   exact L9
  have f5:Fr h.length W5 t 1 (y.1.aJ.map au):=(f4.aC fun i hi=>hk1 i (htb i hi).2 (bS i hi)).low (by have:=s.bk.lt;omega);have VZ:W.length≤W4.length:=e4.len;have s5:vV h r (W5.set h.length (.b (U.row.set 3 s'))) { U with ak:=U.ak++ [(y.1,t)],s2:=s' }:=
   s.p2 hff f5 (fun i hi=>.inr (by rw[Sd]at hi;cases hi;omega)) (fun i hi=>⟨(htb i hi).1,fun e=>by rw[Sd]at e;cases e;have:=(htb _ hi).2;omega⟩) (fun i hi hne=>(hk1 i Om hne).trans (e4.get hi)) (by rw[SM];exact⟨_,rfl⟩) Om
  have mB:W5[h.length]? =some (.b U.row):=(hk1 _ s4.bk.lt (fun z=>s4.bk.ne (by rw[←z];simp[RV.bl]))).trans s4.bk.m;have RZ:aW 1 (.ptr h.length 3) s' (fun z=>W5[z]?)=some (aB,.set h.length (.b (U.row.set 3 s'))):=(aM mB).trans (bV q1 (by show 3+1≤7;omega));refine Rs (A9 t1 t2 t3 t4 t5 t6 @RZ q1 e5) ?_;refine⟨_,Om,k+1,_,Om,rfl,s5,?_,rfl⟩;have:V.ar.ak.take (k+1)=V.ar.ak.take k++ [y.1]:=by
   exact Ma
  rw[this];have hf: (U.ak++ [(y.1,t)]).map Prod.fst=V.ar.ak.take k++ [y.1]:=by
   have h1:U.ar.ak=V.ar.ak.take k:=by rw[hr]
   rw[XD,←h1];rfl
  have e: ({ U with ak:=U.ak++ [(y.1,t)],s2:=s' }:RV).ar={ U.ar with ak:=(U.ak++ [(y.1,t)]).map Prod.fst }:=rfl;rw[e,hf,hr]
 ·have e3:decide ((k:Int)< V.ak.length)=false:=Xu Om;have e4:k=V.ak.length:=Om
  rw[e4,←hRl,X8]at hr;refine Rs (A8 t1 t2 t3 t4 t5 t6 oW.i2.aP e3) ?_;refine Nc T o w hm hj s hr Sn (Sq t1) (Sq t2) (Sq t4) (Sq t5)
theorem Nf(o:aD h V)(w:fo V.ar)(hs:∀x∈V.ak,x.1.aJ.length≤2^30)(hm:∀x∈V.aE,x.1.bu.length≤2^30)(hj:∀x∈V.aH,x.1.bw.length≤2^30)
  {W0} (hW0:W0=h++ [.b V.row]++ [.b km]) (hlen:ts.length=100) (t1:slot ts 1= .ptr h.length 0) (t2:slot ts 2= .ptr (h.length+1) 0):
  WC P bR (p9 1) [] ts W0 (FQ [(2,some (some 7))] (Iz h V)):=by
 have nb0:V.lines.length≤16:=w.l0;have nb5:V.aQ.length≤16:=w.l5;have nb1:V.aJ.length≤16:=w.l1;have o0:=o.i0.one;have o1:=o.i1.one;have o2:=o.i2.one;have o3:=o.i3.one;have o4:=o.i4.one;have o5:=o.i5.one;have m0:W0[h.length]? =some (.b [AV.i V.tick,V.s0,V.s1,V.s2,V.s3,V.s4,V.s5]):=by rw[hW0];simp;rfl
 have z0:W0[h.length+1]? =some (.b km):=by rw[hW0];simp
 have e0:Ext h W0:=by rw[hW0];exact Xx
 rw[M9,M8,M7,M6,M5];unfold ow fn224;simp only[aj.j,aj.s,aj.r,aj.dr,aj.tl,aj.hd];obtain⟨n0,UI⟩:∃n,n=W0.length:=⟨_,rfl⟩;have lr0:∀{k n a},Ext W0 k→ao n (.ptr h.length a) (fun z=>k[z]?)=cp n a (.b [AV.i V.tick,V.s0,V.s1,V.s2,V.s3,V.s4,V.s5]):=fun {_ _ _} e=>an (e.some m0)
 refine Rs (A4 t1 t2 @lr0 @o0) ?_;refine WR.pX (N:=n0) (w:=32) bf (Nat.le_of_eq UI) ((o.i0.ext e0).ext Xx) (by simp only[XB];omega) fun a0 g0 f0=>?_
 have p0:=f0.a8.one;obtain⟨Y0,hY0⟩:∃Y,Y=W0++ [aq.b []]++g0:=⟨_,rfl⟩;rw[←hY0]at f0 ⊢;have eY0:Ext W0 Y0:=by rw[hY0];exact Xx
 have sb0:aW 1 (.ptr h.length 1) a0 (fun z=>Y0[z]?)=some (aB,.set h.length (.b [AV.i V.tick,a0,V.s1,V.s2,V.s3,V.s4,V.s5])):=(aM (eY0.some m0)).trans (bV p0 (by show 1+1≤7;omega));refine Rs (A4 t1 t2 @sb0 @p0) ?_;obtain⟨W1,Ta⟩:∃W,W=Y0.set h.length (.b [AV.i V.tick,a0,V.s1,V.s2,V.s3,V.s4,V.s5]):=⟨_,rfl⟩;rw[←Ta];have l1:W0.length≤W1.length:=by rw[Ta,Yd];exact eY0.len
 have k1:∀i,i < W0.length→i≠h.length→W1[i]? =W0[i]? :=fun i hi hne=>by rw[Ta,XK (YP hne),eY0.get hi]
 have m1:W1[h.length]? =some (.b [AV.i V.tick,a0,V.s1,V.s2,V.s3,V.s4,V.s5]):=by rw[Ta,XL (by have:=eY0.len;have:=(Xr.1 m0).1;omega)]
 have e1:Ext h W1:=by rw[Ta];exact(e0.trans eY0).iH (XH _)
 have z1:W1[h.length+1]? =some (.b km):=(k1 _ (Xr.1 z0).1 Om).trans z0;have c0:Fr n0 W1 a0 3 (V.lines.map cj):=f0.aC fun i hi=>by
  have:=(f0.bN hi).1;have:=(Xr.1 z0).1;rw[Ta,XK Om]
 clear f0 sb0 lr0;obtain⟨n1,hn1⟩:∃n,n=W1.length:=⟨_,rfl⟩;have lr1:∀{k n a},Ext W1 k→ao n (.ptr h.length a) (fun z=>k[z]?)=cp n a (.b [AV.i V.tick,a0,V.s1,V.s2,V.s3,V.s4,V.s5]):=fun {_ _ _} e=>an (e.some m1)
 refine Rs (A4 t1 t2 @lr1 @o1) ?_;refine WR.pX (N:=n1) (w:=24) bf (Nat.le_of_eq hn1) ((o.i1.ext e1).ext Xx) (by simp only[XB];omega) fun a1 g1 f1=>?_
 have p1:=f1.a8.one;obtain⟨Y1,Ur⟩:∃Y,Y=W1++ [aq.b []]++g1:=⟨_,rfl⟩;rw[←Ur]at f1 ⊢;have eY1:Ext W1 Y1:=by rw[Ur];exact Xx
 have sb1:aW 1 (.ptr h.length 2) a1 (fun z=>Y1[z]?)=some (aB,.set h.length (.b [AV.i V.tick,a0,a1,V.s2,V.s3,V.s4,V.s5])):=(aM (eY1.some m1)).trans (bV p1 (by show 2+1≤7;omega));refine Rs (A4 t1 t2 @sb1 @p1) ?_;obtain⟨W2,Q0⟩:∃W,W=Y1.set h.length (.b [AV.i V.tick,a0,a1,V.s2,V.s3,V.s4,V.s5]):=⟨_,rfl⟩;rw[←Q0];have l2:W1.length≤W2.length:=by rw[Q0,Yd];exact eY1.len
 have k2:∀i,i < W1.length→i≠h.length→W2[i]? =W1[i]? :=fun i hi hne=>by rw[Q0,XK (YP hne),eY1.get hi]
 have m2:W2[h.length]? =some (.b [AV.i V.tick,a0,a1,V.s2,V.s3,V.s4,V.s5]):=by rw[Q0,XL (by have:=eY1.len;have:=(Xr.1 m1).1;omega)]
 have e2:Ext h W2:=by rw[Q0];exact(e1.trans eY1).iH (XH _)
 have z2:W2[h.length+1]? =some (.b km):=(k2 _ (Xr.1 z1).1 Om).trans z1;have c1:Fr n1 W2 a1 2 (V.aJ.map dO):=f1.aC fun i hi=>by
  have:=(f1.bN hi).1;have:=(Xr.1 z1).1;rw[Q0,XK Om]
 clear f1 sb1 lr1;obtain⟨n2,hn2⟩:∃n,n=W2.length:=⟨_,rfl⟩;have lr2:∀{k n a},Ext W2 k→ao n (.ptr h.length a) (fun z=>k[z]?)=cp n a (.b [AV.i V.tick,a0,a1,V.s2,V.s3,V.s4,V.s5]):=fun {_ _ _} e=>an (e.some m2)
 refine Rs (A4 t1 t2 @lr2 @o5) ?_;refine WR.pX (N:=n2) (w:=48) bf (Nat.le_of_eq hn2) ((o.i5.ext e2).ext Xx) (by simp only[XB];omega) fun a5 g2 f5=>?_
 have p5:=f5.a8.one;obtain⟨Y2,SL⟩:∃Y,Y=W2++ [aq.b []]++g2:=⟨_,rfl⟩;rw[←SL]at f5 ⊢;have Te:Ext W2 Y2:=by rw[SL];exact Xx
 have sb2:aW 1 (.ptr h.length 6) a5 (fun z=>Y2[z]?)=some (aB,.set h.length (.b [AV.i V.tick,a0,a1,V.s2,V.s3,V.s4,a5])):=(aM (Te.some m2)).trans (bV p5 (by show 6+1≤7;omega));refine Rs (A4 t1 t2 @sb2 @p5) ?_;obtain⟨W3,QI⟩:∃W,W=Y2.set h.length (.b [AV.i V.tick,a0,a1,V.s2,V.s3,V.s4,a5]):=⟨_,rfl⟩;rw[←QI];have l3:W2.length≤W3.length:=by rw[QI,Yd];exact Te.len
 have k3:∀i,i < W2.length→i≠h.length→W3[i]? =W2[i]? :=fun i hi hne=>by rw[QI,XK (YP hne),Te.get hi]
 have m3:W3[h.length]? =some (.b [AV.i V.tick,a0,a1,V.s2,V.s3,V.s4,a5]):=by rw[QI,XL (by have:=Te.len;have:=(Xr.1 m2).1;omega)]
 have e3:Ext h W3:=by rw[QI];exact(e2.trans Te).iH (XH _)
 have z3:W3[h.length+1]? =some (.b km):=(k3 _ (Xr.1 z2).1 Om).trans z2;have c5:Fr n2 W3 a5 4 (V.aQ.map da):=f5.aC fun i hi=>by
  have:=(f5.bN hi).1;have:=(Xr.1 z2).1;rw[QI,XK Om]
 clear f5 sb2 lr2;have lr3:∀{k n a},Ext W3 k→ao n (.ptr h.length a) (fun z=>k[z]?)=cp n a (.b [AV.i V.tick,a0,a1,V.s2,V.s3,V.s4,a5]):=fun {_ _ _} e=>an (e.some m3)
 have Tz:=(Xr.1 m3).1;have s3:aW 1 (.ptr h.length 3) .af (fun z=>W3[z]?)=some (aB,.set h.length (.b [AV.i V.tick,a0,a1,.af,V.s3,V.s4,a5])):=(aM m3).trans (bV rfl (by show 3+1≤7;omega));have m4: (W3.set h.length (.b [AV.i V.tick,a0,a1,.af,V.s3,V.s4,a5]))[h.length]? =some (.b [AV.i V.tick,a0,a1,.af,V.s3,V.s4,a5]):=XL Tz;have s4:aW 1 (.ptr h.length 4) .af (fun z=>(W3.set h.length (.b [AV.i V.tick,a0,a1,.af,V.s3,V.s4,a5]))[z]?)=some (aB,.set h.length (.b [AV.i V.tick,a0,a1,.af,.af,V.s4,a5])):=(aM m4).trans (bV rfl (by show 4+1≤7;omega));have m5: ((W3.set h.length (.b [AV.i V.tick,a0,a1,.af,V.s3,V.s4,a5])).set h.length (.b [AV.i V.tick,a0,a1,.af,.af,V.s4,a5]))[h.length]? =some (.b [AV.i V.tick,a0,a1,.af,.af,V.s4,a5]):=XL (by rw[Yd];exact Tz)
 have s5:aW 1 (.ptr h.length 5) .af (fun z=>((W3.set h.length (.b [AV.i V.tick,a0,a1,.af,V.s3,V.s4,a5])).set h.length (.b [AV.i V.tick,a0,a1,.af,.af,V.s4,a5]))[z]?)=some (aB,.set h.length (.b [AV.i V.tick,a0,a1,.af,.af,.af,a5])):=(aM m5).trans (bV rfl (by show 5+1≤7;omega));obtain⟨W6,R7⟩:∃W,W=W3.set h.length (.b [AV.i V.tick,a0,a1,.af,.af,.af,a5]):=⟨_,rfl⟩;have k6:∀i,i≠h.length→W6[i]? =W3[i]? :=fun i hi=>by rw[R7,XK (YP hi)]
 have m6:W6[h.length]? =some (.b [AV.i V.tick,a0,a1,.af,.af,.af,a5]):=by rw[R7,XL Tz]
 have l0:n0=h.length+2:=by rw[UI,hW0];simp
 have r0:∀i,sB a0=some i→n0≤i∧i < W1.length:=fun i hi=>c0.bN hi
 have r1:∀i,sB a1=some i→n1≤i∧i < W2.length:=fun i hi=>c1.bN hi
 have r5:∀i,sB a5=some i→n2≤i∧i < W3.length:=fun i hi=>c5.bN hi
 have fa0:Fr h.length W6 a0 3 (V.lines.map cj):=(c0.aC fun i hi=>by
  have:=r0 i hi;rw[k6 i Om,k3 i Om Om,k2 i Om Om]).low Om
 have fa1:Fr h.length W6 a1 2 (V.aJ.map dO):=(c1.aC fun i hi=>by
  have:=r1 i hi;rw[k6 i Om,k3 i Om Om]).low Om
 have fa5:Fr h.length W6 a5 4 (V.aQ.map da):=(c5.aC fun i hi=>by
  have:=r5 i hi;rw[k6 i Om]).low Om
 obtain⟨U,hU⟩:∃U:RV,U= ⟨V.tick,V.lines,V.aJ,[],[],[],V.aQ,a0,a1,.af,.af,.af,a5⟩:=⟨_,rfl⟩;have hbl:U.bl= [sB a0,sB a1,none,none,none,sB a5]:=by rw[hU];rfl
 have hlo:∀i,some i∈U.bl→h.length+2≤i:=fun i hi=>by
  rw[hbl]at hi;simp only[X9,Yt,Y7,reduceCtorEq,false_or]at hi;rcases hi with hi| hi| hi
  ·have:=r0 i hi.symm;omega
  ·have:=r1 i hi.symm;omega
  ·have:=r5 i hi.symm;omega
 have Ra:kP U.bl:=by
  rw[hbl];refine Yv.2 ⟨fun y hy b hb e=>?_,Yv.2 ⟨fun y hy b hb e=>?_,Yv.2 ⟨(fun y hy b hb e=>by cases hb),Yv.2 ⟨(fun y hy b hb e=>by cases hb),Yv.2 ⟨(fun y hy b hb e=>by cases hb),Y6 _ _⟩⟩⟩⟩⟩
  ·have h1:=r0 b hb;subst e;simp only[X9,Yt,Y7,reduceCtorEq,false_or]at hy;rcases hy with hy| hy
   ·have:=r1 b hy.symm;omega
   ·have:=r5 b hy.symm;omega
  ·have h1:=r1 b hb;subst e;simp only[X9,Yt,Y7,reduceCtorEq,false_or]at hy;have:=r5 b hy.symm;omega
 have own:cG h.length W6 U:=by
  rw[hU]at Ra ⊢;exact⟨fa0,fa1,.nil,.nil,.nil,fa5,(fun x hx=>by cases hx),(fun x hx=>by cases hx),(fun x hx=>by cases hx),Ra⟩
 have s:vV h (.b V.row) W6 U:=by
  refine⟨⟨own,XH _,by rw[hU];exact m6,fun hi=>by have:=hlo _ hi;omega⟩,by rw[R7];exact e3.iH (XH _),by rw[←hW0,R7,Yd];omega,fun i hi=>?_,fun i hi=>⟨?_,?_,fun hm=>?_⟩⟩
  ·have:i≠h.length∧i < W0.length:=by rcases hi with hi| hi<;>omega
   rw[←hW0,k6 i this.1,k3 i Om this.1,k2 i Om this.1,k1 i Om this.1]
  ·simp only[Xs,Xy,XA];rcases hi with hi| hi<;>omega
  ·rcases hi with hi| hi<;>omega
  ·have:=hlo _ hm;rcases hi with hi| hi<;>omega
 clear c0 c1 c5 fa0 fa1 fa5 own Ra;refine Rs (A9 t1 t2 @lr3 @o2 @o3 @o4 @s3 @s4 @s5) ?_;have bd: ((W3.set h.length (.b [AV.i V.tick,a0,a1,.af,V.s3,V.s4,a5])).set h.length (.b [AV.i V.tick,a0,a1,.af,.af,V.s4,a5])).set h.length (.b [AV.i V.tick,a0,a1,.af,.af,.af,a5])=W6:=by rw[R7,List.set_set,List.set_set]
 rw[bd];exact Nd T o w hs hm hj s (by rw[hU];rfl) Sn (Sq t1) (Sq t2) Sw Sw Sw
theorem r224(o:aD h V)(w:fo V.ar):aA P 224 [.agg V.row] h (fun v h'=>∃V':RV,V'.ar=V.ar∧v= .agg V'.row∧cG h.length h' V'):=by
 have i:=w.vS;have hs:∀x∈V.ak,x.1.aJ.length≤2^30:=fun x hx=>by have:=(i.sh x hx).2;omega
 have hm:∀x∈V.aE,x.1.bu.length≤2^30:=fun x hx=>by have:=(w.md x.1 (XZ hx)).2.1;omega
 have hj:∀x∈V.aH,x.1.bw.length≤2^30:=fun x hx=>by have:=(w.jb x.1 (XZ hx)).2.2.1;omega
 refine .of T.mix (Z6 T.c224 (X6 some Na)) ?_;obtain⟨ts,Qn⟩:∃ts,ts=aT 100 [.agg V.row]:=⟨_,rfl⟩;have hlen:ts.length=100:=by rw[Qn];rfl
 have t0:slot ts 0= .agg V.row:=by rw[Qn];rfl
 show WC P bR (.seq (ow 0) (p9 1)) [] (aT 100 [.agg V.row]) h (FQ [(2,some (some 7))] (Iz h V));rw[←Qn];clear Qn;have Qm:=@aD.box _ _ o;unfold ow fn224;simp only[aj.j,aj.s,aj.r,aj.dr,aj.tl,aj.hd];refine Rs (A2 t0 @Qm) ?_;refine Nf T o w hs hm hj rfl Sn Sw (by simp only[aV,bd,bD,bE,reduceAdd,reduceMul,reduceLeDiff,reduceEqDiff,bF,hlen,XO,XR];simp)
end
end Go.Abs
namespace Go.Abs
def Qg(X:ah)(V:RV)(i:Nat):Prop:=(i < X.length∧some i∉V.bl)∨i=X.length+1∨i=X.length+2
def cE(B X:ah)(x:EV)(V:RV)(W:ah)(U:RV):Prop:=
 eG B (X++ [.b V.row]++ [.b x.row]++ [.b km]) X.length (Qg X V) W U
def ry(B X:ah)(V:RV)(c:Int)(R':gJ):AV→ah→Prop:=fun v k=>
 Ext B k∧X.length≤k.length∧(∀i,i < X.length→some i∉V.bl→k[i]? =X[i]?)∧∃V':RV,v= .dJ [.agg V'.row,.i c]∧cG B.length k V'∧(c=0→V'.ar=R')∧∀i,some i∈V'.bl→some i∈V.bl∨X.length≤i
section
variable {B X W:ah} {x:EV} {V U:RV} (s:cE B X x V W U)
include s
theorem cE.lr{k n a}(e:Ext W k):ao n (.ptr X.length a) (fun z=>k[z]?)=cp n a (.b U.row):=an (e.some s.bk.m)
theorem cE.KW:W[X.length+1]? =some (.b x.row):=by rw[eG.kp s _ (.inr (.inl rfl))];simp
theorem cE.KV:W[X.length+2]? =some (.b km):=by rw[eG.kp s _ (.inr (.inr rfl))];simp
theorem cE.le{k n a}(e:Ext W k):ao n (.ptr (X.length+1) a) (fun z=>k[z]?)=cp n a (.b x.row):=an (e.some s.KW)
theorem cE.sb{k}(e:Ext W k):aW 7 (.ptr (X.length+2) 0) (.agg U.row) (fun z=>k[z]?)=some (aB,.set (X.length+2) (.b U.row)):=by
 have h1:=@aM 7 (X.length+2) 0 (.agg U.row) (fun z=>k[z]?) _ (e.some s.KV);have st:=@aD.st _ _ s.bk.o.ok;unfold km at h1;rw[st]at h1;exact h1
theorem cE.gm{k}(e:Ext W k):ao (some 7) (.ptr (X.length+2) 0) (fun z=>(k.set (X.length+2) (.b U.row))[z]?)=some (.agg U.row,.az):=by
 have hl:=(Xr.1 (e.some s.KV)).1;rw[an (XL hl)];rfl
def cE.fa:=A4 (@cE.lr _ _ _ _ _ _ s) (@cE.le _ _ _ _ _ _ s) (@cE.sb _ _ _ _ _ _ s) (@cE.gm _ _ _ _ _ _ s)
theorem cE.fin{c R'}(hc:c=0→U.ar=R'):ry B X V c R' (.dJ [.agg U.row,.i c]) (W.set (X.length+2) (.b U.row)):=by
 have hN:B.length≤X.length:=s.bk.hN;have Vb:X.length+3≤W.length:=by have:=eG.ln s;simpa using this
 refine⟨s.ex.iH Om,by rw[Yd];omega,fun i hi hv=>?_,U,rfl,s.bk.o.az fun i hi=>?_,hc,fun i hi=>?_⟩
 ·rw[XK Om,eG.kp s i (.inl ⟨hi,hv⟩)];simp only[Xt];exact Xv hi
 ·have:i≠X.length+2:=fun e=>(eG.kl s _ (.inr (.inr rfl))).2.2 (e▸hi)
  rw[XK (YP this)]
 ·by_cases h1:some i∈V.bl
  ·exact .inl h1
  ·by_cases h2:i < X.length
   ·exact absurd hi (eG.kl s i (.inl ⟨h2,h1⟩)).2.2
   ·exact .inr Om
end
def vB{h x d}(o:bo h x)(we:kC x.ev d){i:Nat}(hi:i < (bL d).length):aZ 1 x.sn (.i (i:Int))=some (cV x.sn 1 i,.az)∧∀{k},Ext h k→ao none (cV x.sn 1 i) (fun b=>k[b]?)=some (.str (aN x.ev i),.az):=by
 have hi':i < x.ev.names.length:=by rw[we.nl];exact hi
 refine⟨o.n.dG hi',fun {k} e=>?_⟩;have:aN x.ev i=x.ev.names[i]:=by rw[aN,Yc,Xw hi'];rfl
 rw[this];exact o.n.kO hi' rfl e
def bM{h x d}(o:bo h x)(we:kC x.ev d)(i:Nat)(z:Int)(hz: (i:Int)=z)(hi:i < (bL d).length):aZ 1 x.sn (.i z)=some (cV x.sn 1 i,.az)∧∀{k},Ext h k→ao none (cV x.sn 1 i) (fun b=>k[b]?)=some (.str (aN x.ev i),.az):=hz▸vB o we hi
def K9{h x d}(o:bo h x)(we:kC x.ev d){i:Nat}(hi:i < cB d):aZ 1 x.sv (.i (i:Int))=some (cV x.sv 1 i,.az)∧(∀{k},Ext h k→ao none (cV x.sv 1 i) (fun b=>k[b]?)=some (.i (bI x.ev i),.az))∧0≤bI x.ev i∧bI x.ev i≤999999999:=by
 have hi':i < x.ev.cC.length:=by rw[we.vl];exact hi
 have:bI x.ev i=x.ev.cC[i]:=by rw[bI,Yc,Xw hi'];rfl
 refine⟨o.v.dG hi',fun {k} e=>?_,we.vr _ (p7 hi')⟩;rw[this];exact o.v.kO hi' rfl e
def cT{h x d}(o:bo h x)(we:kC x.ev d)(i:Nat)(z:Int)(hz: (i:Int)=z)(hi:i < cB d):aZ 1 x.sv (.i z)=some (cV x.sv 1 i,.az)∧(∀{k},Ext h k→ao none (cV x.sv 1 i) (fun b=>k[b]?)=some (.i (bI x.ev i),.az))∧0≤bI x.ev i∧bI x.ev i≤999999999:=hz▸K9 o we hi
def WR.pY{P ro ks ts Q B Y s es w cs z d l}
  (hs:Fr B.length Y s es cs) (hz:z.length=es) (he:Ext B Y) (hes:0 < es) (dX: (cs.length+1) * w≤2^46)
  (K:∀ (W5:ah) (s':AV),Ext B W5→Fr B.length W5 s' es (cs++ [z])→(∀i,sB s' =some i→Y.length < i)→s'.one=true→Y.length≤W5.length→(∀i,i < Y.length→sB s≠some i→W5[i]? =Y[i]?)→WP P ro l ks (put ts d s') W5 Q):
  WR P ro (pa es w s (.slice Y.length 0 1 es) (fun b=>(Y++ [aq.cells z true true])[b]?) (Y++ [aq.cells z true true]).length) false d l ks ts (Y++ [aq.cells z true true]) Q:=by
 have Wv:aK (Y++ [aq.cells z true true]) (AV.slice Y.length 0 1 es) es [z]:=by
  have:=(Fr.push (N:=0) (es:=es) (h:=Y) (X3 _) [z] (fun x hx=>by rw[XT]at hx;rw[hx,hz])).a8
  simpa using this
 refine WR.fw (h0:=B) (cs:=cs) (ys:=[z]) (hs.app _) Wv hes Si (by simpa using dX) (he.trans (Ext.app _ (Ext.refl _))) ?_;intro g' Qz hff hkp;refine K _ _ ⟨_,rfl⟩ hff (fun i hi=>by cases hi;simp) rfl (by rw[Qz];simp only[Xs,XV];omega) (fun i hi hne=>?_);exact LN
def y7:aj:=(fn225).body.tl
def MW:fn225= ⟨250,2,[(4,some (some 7)),(5,none)],.seq ((fn225).body.hd) y7⟩:=rfl
set_option maxRecDepth 10000
attribute [local irreducible] WP WC WE WB WR WF WL WG fV WM
section
variable {P:Program} (T:fA P) {B X W:ah} {ts:TS} {V:RV} {x:EV}
include T
theorem Dl(w:fo V.ar)(ox:bo B x)(we:kC x.ev .line)(nk:rO V.ar x.ev .line)(s:cE B X x V W V)(hlen:ts.length=250)(t2:slot ts 2= .ptr X.length 0)(t3:slot ts 3= .ptr (X.length+1) 0)(t4:slot ts 4= .ptr (X.length+2) 0):
  WC P bR y7 [] ts W (FQ [(4,some (some 7)),(5,none)] (ry B X V (bB V.ar x.ev .line) (dq V.ar x.ev .line))):=by
 have ow:=ox.ext s.ex;have oV:=s.bk.o.ok;have Qu:x.ev.kind=bz .line:=cw we.kd;obtain⟨lr,le,sb,gm⟩:=cE.fa s;obtain⟨i0,d0⟩:=bM ow we 0 0 rfl De;obtain⟨j0,f0,q0⟩:=cT ow we 0 0 rfl De;obtain⟨j1,f1,q1⟩:=cT ow we 1 1 rfl De;unfold y7 fn225;simp only[aj.tl];refine Rs (IC t2 t3 t4 @le @lr @bA @aO @aY @fT @aF @Qu @gk @j0 @f0 @j1 @f1 @XS) ?_;refine WF.ce T.c20 (r20 T _ _ _) fun g1=>?_
 obtain⟨W2,Q0⟩:∃Z,Z=W++g1:=⟨_,rfl⟩;rw[←Q0];have QK:cE B X x V W2 V:=by rw[Q0];exact eG.grow s ⟨g1,rfl⟩
 have ow:=ox.ext QK.ex;have oV:=QK.bk.o.ok;obtain⟨lr,le,sb,gm⟩:=cE.fa QK;by_cases h1:bh (bI x.ev 1) 1 64=0
 case neg=>
  have e1:decide (bh (bI x.ev 1) 1 64≠0)=true:=Xz h1;refine Rs (A8 t2 t3 t4 e1 @lr @aF @sb @gm) ?_;rw[bB,XI h1];exact z87
 have e1:decide (bh (bI x.ev 1) 1 64≠0)=false:=Xu (fun z=>z h1);by_cases h2:16≤V.lines.length
 case pos=>
  have e2:decide ((16:Int)≤(V.lines.length:Int))=true:=Xz Om;refine Rs (mX t2 t3 t4 e1 @fT oV.i0.aP e2 @lr @aF @sb @gm) ?_;rw[bB,XG (fun z=>z h1),XI (show 16≤V.ar.lines.length from h2)];exact z87
 have e2:decide ((16:Int)≤(V.lines.length:Int))=false:=Xu Om;obtain⟨i0,d0⟩:=bM ow we 0 0 rfl De;obtain⟨j1,f1,q1⟩:=cT ow we 1 1 rfl De;refine Rs (Cu t2 t3 t4 e1 @le @lr @fT oV.i0.aP e2 @aO @aY @i0 @d0 @j1 @f1) ?_;have RF:bB V.ar x.ev .line=0:=by rw[bB,XG (fun z=>z h1),XG (show ¬16≤V.ar.lines.length from h2)]
 obtain⟨y,hy⟩:∃y:gQ,y= ⟨aN x.ev 0,bI x.ev 1,false⟩:=⟨_,rfl⟩;obtain⟨z,hz⟩:∃z:List AV,z=cj y:=⟨_,rfl⟩;have Sc: [AV.str (aN x.ev 0),.i (bI x.ev 1),.bool false]=z:=by rw[hz,hy];rfl
 rw[Sc];refine WR.pY (B:=B) (cs:=V.lines.map cj) (QK.bk.o.i0) (by rw[hz];rfl) QK.ex De (by have:=w.len.l0;rw[XB];omega) ?_;intro W5 s' x5 hff hn5 q5 l5 hk5;have hrow:V.lines.map cj++ [z]= (V.lines++ [y]).map cj:=by rw[XD,hz];rfl
 rw[hrow]at hff;have s5:cE B X x V (W5.set X.length (.b (V.row.set 1 s'))) { V with lines:=V.lines++ [y],s0:=s' }:=eG.p0 QK hff (fun i hi=>.inr (ZY (hn5 i hi))) hk5 x5 l5;have mB:W5[X.length]? =some (.b V.row):=(hk5 _ QK.bk.lt (fun z=>QK.bk.ne (by rw[←z];simp[RV.bl]))).trans QK.bk.m;have RZ:aW 1 (.ptr X.length 1) s' (fun z=>W5[z]?)=some (aB,.set X.length (.b (V.row.set 1 s'))):=(aM mB).trans (bV q5 (by show 1+1≤7;omega));refine Rs (A5 t2 t3 t4 @RZ q5) ?_;obtain⟨W6,R7⟩:∃Z,Z=W5.set X.length (.b (V.row.set 1 s')):=⟨_,rfl⟩;rw[←R7]at s5 ⊢;obtain⟨lr,le,sb,gm⟩:=cE.fa s5;refine Rs (A7 t2 t3 t4 @lr @aF @sb @gm) ?_
 rw[RF];exact cE.fin s5 (fun _=>by rw[hy];rfl)
theorem Dj(w:fo V.ar)(ox:bo B x)(we:kC x.ev .tape)(nk:rO V.ar x.ev .tape)(s:cE B X x V W V)(hlen:ts.length=250)(t2:slot ts 2= .ptr X.length 0)(t3:slot ts 3= .ptr (X.length+1) 0)(t4:slot ts 4= .ptr (X.length+2) 0):
  WC P bR y7 [] ts W (FQ [(4,some (some 7)),(5,none)] (ry B X V (bB V.ar x.ev .tape) (dq V.ar x.ev .tape))):=by
 have ow:=ox.ext s.ex;have oV:=s.bk.o.ok;have Qu:x.ev.kind=bz .tape:=cw we.kd;obtain⟨lr,le,sb,gm⟩:=cE.fa s;obtain⟨i0,d0⟩:=bM ow we 0 0 rfl De;obtain⟨j0,f0,q0⟩:=cT ow we 0 0 rfl De;obtain⟨j1,f1,q1⟩:=cT ow we 1 1 rfl De;unfold y7 fn225;simp only[aj.tl];by_cases h1:999999999 < bI x.ev 0+bI x.ev 1
 case pos=>
  have e1:decide ((999999999:Int)< bI x.ev 0+bI x.ev 1)=true:=Xz h1;have hw:IntKind.i64.wrap (bI x.ev 0+bI x.ev 1)=bI x.ev 0+bI x.ev 1:=bp Om Om;refine oE (L5 t2 t3 t4 @le @lr @bA @aO @aY @aF @Qu @gk @gW @XX @j0 @f0 @j1 @f1 @XS @hw e1 @sb @gm) ?_;rw[bB,XI h1];exact z145
 have e1:decide ((999999999:Int)< bI x.ev 0+bI x.ev 1)=false:=Xu h1;have hw:IntKind.i64.wrap (bI x.ev 0+bI x.ev 1)=bI x.ev 0+bI x.ev 1:=bp Om Om;by_cases h2:16≤V.aJ.length
 case pos=>
  have e2:decide ((16:Int)≤(V.aJ.length:Int))=true:=Xz Om
  repeat (first| simp (config:={ maxSteps:=1000000 }) only[aV,bd,bD,bE,reduceAdd,reduceMul,reduceLeDiff,reduceEqDiff,bF,hlen,XO,XR,t2,t3,t4,le,lr,bA,aO,aY,aF,kU,Qu,gk,gW,reduceCtorEq,XX,j0,f0,j1,f1,XS,hw,e1,oV.i1.aP,e2,sb,gm]| simp (config:={ maxSteps:=1000000 }) (disch:=first| (simp only[Xs,Xy,XA]<;>omega)| rfl| omega| fail) only[fM,aV,bd,bD,bE,reduceAdd,reduceMul,reduceLeDiff,reduceEqDiff,bF,hlen,XO,XR,t2,t3,t4,le,lr,bA,aO,aY,aF,kU,Qu,gk,gW,reduceCtorEq,XX,j0,f0,j1,f1,XS,hw,e1,oV.i1.aP,e2,sb,gm])
  rw[bB,XG h1,XI (show 16≤V.ar.aJ.length from h2)];exact z145
 have e2:decide ((16:Int)≤(V.aJ.length:Int))=false:=Xu Om
 repeat (first| simp (config:={ maxSteps:=1000000 }) only[aV,bd,bD,bE,reduceAdd,reduceMul,reduceLeDiff,reduceEqDiff,bF,hlen,XO,XR,t2,t3,t4,le,lr,bA,aO,aY,aF,kU,Qu,gk,gW,reduceCtorEq,XX,j0,f0,j1,f1,XS,hw,e1,oV.i1.aP,e2,i0,d0]| simp (config:={ maxSteps:=1000000 }) (disch:=first| (simp only[Xs,Xy,XA]<;>omega)| rfl| omega| fail) only[fM,aV,bd,bD,bE,reduceAdd,reduceMul,reduceLeDiff,reduceEqDiff,bF,hlen,XO,XR,t2,t3,t4,le,lr,bA,aO,aY,aF,kU,Qu,gk,gW,reduceCtorEq,XX,j0,f0,j1,f1,XS,hw,e1,oV.i1.aP,e2,i0,d0])
 have RF:bB V.ar x.ev .tape=0:=by rw[bB,XG h1,XG (show ¬16≤V.ar.aJ.length from h2)]
 obtain⟨y,hy⟩:∃y:rA,y= ⟨aN x.ev 0,bI x.ev 0+bI x.ev 1⟩:=⟨_,rfl⟩;obtain⟨z,hz⟩:∃z:List AV,z=dO y:=⟨_,rfl⟩;have Sc: [AV.str (aN x.ev 0),.i (bI x.ev 0+bI x.ev 1)]=z:=by rw[hz,hy];rfl
 rw[Sc];refine WR.pY (B:=B) (cs:=V.aJ.map dO) (s.bk.o.i1) (by rw[hz];rfl) s.ex De (by have:=w.len.l1;rw[XB];omega) ?_;intro W5 s' x5 hff hn5 q5 l5 hk5;have hrow:V.aJ.map dO++ [z]= (V.aJ++ [y]).map dO:=by rw[XD,hz];rfl
 rw[hrow]at hff;have s5:cE B X x V (W5.set X.length (.b (V.row.set 2 s'))) { V with aJ:=V.aJ++ [y],s1:=s' }:=eG.p1 s hff (fun i hi=>.inr (ZY (hn5 i hi))) hk5 x5 l5;have mB:W5[X.length]? =some (.b V.row):=(hk5 _ s.bk.lt (fun z=>s.bk.ne (by rw[←z];simp[RV.bl]))).trans s.bk.m;have RZ:aW 1 (.ptr X.length 2) s' (fun z=>W5[z]?)=some (aB,.set X.length (.b (V.row.set 2 s'))):=(aM mB).trans (bV q5 (by show 2+1≤7;omega));refine Rs (A5 t2 t3 t4 @RZ q5) ?_;obtain⟨W6,R7⟩:∃Z,Z=W5.set X.length (.b (V.row.set 2 s')):=⟨_,rfl⟩;rw[←R7]at s5 ⊢;obtain⟨lr,le,sb,gm⟩:=cE.fa s5;refine Rs (A7 t2 t3 t4 @lr @aF @sb @gm) ?_
 rw[RF];exact cE.fin s5 (fun _=>by rw[hy];rfl)
theorem Dk(w:fo V.ar)(ox:bo B x)(we:kC x.ev .fY)(nk:rO V.ar x.ev .fY)(s:cE B X x V W V)(hlen:ts.length=250)(t2:slot ts 2= .ptr X.length 0)(t3:slot ts 3= .ptr (X.length+1) 0)(t4:slot ts 4= .ptr (X.length+2) 0):
  WC P bR y7 [] ts W (FQ [(4,some (some 7)),(5,none)] (ry B X V (bB V.ar x.ev .fY) (dq V.ar x.ev .fY))):=by
 have ow:=ox.ext s.ex;have oV:=s.bk.o.ok;have Qu:x.ev.kind=bz .fY:=cw we.kd;obtain⟨lr,le,sb,gm⟩:=cE.fa s;obtain⟨i0,d0⟩:=bM ow we 0 0 rfl De;obtain⟨i1,d1⟩:=bM ow we 1 1 rfl De;obtain⟨i2,d2⟩:=bM ow we 2 2 rfl De;obtain⟨j0,f0,q0⟩:=cT ow we 0 0 rfl De;unfold y7 fn225;simp only[aj.tl];have k1:aN x.ev 1∈gB V.ar:=nk.kn 1 0 rfl;have k2:aN x.ev 2∈jA V.ar:=nk.kn 2 1 rfl;have hlt:bj (gB V.ar) (aN x.ev 1)< V.lines.length:=by have:=cP k1;simpa [gB,RV.ar]using this
 have ei:cS (fun y:gQ=>decide (y.name=aN x.ev 1)) V.lines= (bj (gB V.ar) (aN x.ev 1):Int):=eD (f:=gQ.name) k1;have sp:dF V.ar (aN x.ev 1)=V.lines[bj (gB V.ar) (aN x.ev 1)]:=c9 k1;refine oE (O4 t2 t3 t4 @le @lr @bA @aO @aY @aF @fT @Qu @gk @gW @qX @XX @j0 @f0 @i1 @d1 @XS) ?_;refine WF.ce T.c28 (r28 T (oV.ext Xx) w.len _) fun g1=>?_
 rw[ei];obtain⟨W2,Q0⟩:∃Z,Z=W++g1:=⟨_,rfl⟩;rw[←Q0];have QK:cE B X x V W2 V:=by rw[Q0];exact eG.grow s ⟨g1,rfl⟩
 have ow:=ox.ext QK.ex;have oV:=QK.bk.o.ok;obtain⟨lr,le,sb,gm⟩:=cE.fa QK;obtain⟨i0,d0⟩:=bM ow we 0 0 rfl De;obtain⟨i1,d1⟩:=bM ow we 1 1 rfl De;obtain⟨i2,d2⟩:=bM ow we 2 2 rfl De;obtain⟨j0,f0,q0⟩:=cT ow we 0 0 rfl De;have ix:aZ 3 V.s0 (.i (bj (gB V.ar) (aN x.ev 1):Int))=some (cV V.s0 3 (bj (gB V.ar) (aN x.ev 1)),.az):=oV.i0.dG hlt;have l2:∀{k:ah},Ext W2 k→ao none (lh V.s0 3 (bj (gB V.ar) (aN x.ev 1)) 2) (fun b=>k[b]?)=some (.bool (dF V.ar (aN x.ev 1)).acc,.az):=fun {k} e=>by rw[sp];exact oV.i0.pG hlt rfl e
 cases h1: (dF V.ar (aN x.ev 1)).acc with
 | true=>
  rw[h1]at l2;refine Rs (A9 t2 t3 t4 ix @l2 @lr @aF @sb @gm) ?_;rw[bB,XI h1];exact z87
 | false=>
 rw[h1]at l2;refine Rs (mX t2 t3 t4 ix @l2 @le @lr @aF @aO @i2 @d2) ?_;refine WF.ce T.c84 (r84 T (oV.ext Xx) w.len k2 _) fun g2=>?_
 obtain⟨W3,QI⟩:∃Z,Z=W2++g2:=⟨_,rfl⟩;rw[←QI];have QO:cE B X x V W3 V:=by rw[QI];exact eG.grow QK ⟨g2,rfl⟩
 have ow:=ox.ext QO.ex;have oV:=QO.bk.o.ok;obtain⟨lr,le,sb,gm⟩:=cE.fa QO;obtain⟨i0,d0⟩:=bM ow we 0 0 rfl De;obtain⟨i1,d1⟩:=bM ow we 1 1 rfl De;obtain⟨i2,d2⟩:=bM ow we 2 2 rfl De;obtain⟨j0,f0,q0⟩:=cT ow we 0 0 rfl De;cases h2:jn V.ar (bI x.ev 0) (aN x.ev 2)with
 | false=>
  refine Rs (A8 t2 t3 t4 @XY @lr @aF @sb @gm) ?_;rw[bB,XG (by rw[h1];decide),XI (by rw[h2];rfl)];exact z40
 | true=>
 by_cases h3:64≤V.ak.length
 case pos=>
  have e3:decide ((64:Int)≤(V.ak.length:Int))=true:=Xz Om;refine Rs (mX t2 t3 t4 @XW @eJ oV.i2.aP e3 @lr @aF @sb @gm) ?_;rw[bB,XG (by rw[h1];decide),XG (by rw[h2];decide),XI (show 64≤V.ar.ak.length by simpa [RV.ar]using h3)];exact z40
 have e3:decide ((64:Int)≤(V.ak.length:Int))=false:=Xu Om;have RF:bB V.ar x.ev .fY=0:=by rw[bB,XG (by rw[h1];decide),XG (by rw[h2];decide),XG (show ¬64≤V.ar.ak.length by simpa [RV.ar]using h3)]
 obtain⟨t,ht⟩:∃t,t=AV.slice W3.length 0 1 1:=⟨_,rfl⟩;have ot:t.one=true:=by rw[ht];rfl
 refine Rs (F1 t2 t3 t4 @XW @le @lr @eJ oV.i2.aP e3 @aO @i0 @d0 @i1 @d1 @i2 @d2) ?_;rw[←ht];refine Rs (A4 t2 t3 t4 @ot) ?_;obtain⟨y,hy⟩:∃y:jh,y= ⟨aN x.ev 0,aN x.ev 1,[aN x.ev 2]⟩:=⟨_,rfl⟩;obtain⟨z,hz⟩:∃z:List AV,z=bg (y,t):=⟨_,rfl⟩;have Sc: [AV.str (aN x.ev 0),.str (aN x.ev 1),t]=z:=by rw[hz,hy];rfl
 rw[Sc];obtain⟨Y,hY⟩:∃Z,Z=W3++ [aq.cells [.str (aN x.ev 2)] true true]:=⟨_,rfl⟩;rw[←hY];have Ri:Fr W3.length Y t 1 (y.aJ.map au):=by
  rw[ht,hy,hY];exact(Fr.push (h:=W3) (N:=W3.length) (XH _) [au (aN x.ev 2)] (by simp[au]))
 have sY:cE B X x V Y V:=by rw[hY];exact eG.grow QO ⟨_,rfl⟩
 have lY:W3.length < Y.length:=by rw[hY];simp
 have eY:Ext W3 Y:=by rw[hY];exact⟨_,rfl⟩
 refine WR.pY (B:=B) (cs:=V.ak.map bg) (sY.bk.o.i2) (by rw[hz];rfl) sY.ex De (by have:=w.len.l2;rw[XB];omega) ?_;intro W5 s' x5 hff hn5 q5 l5 hk5;have hrow:V.ak.map bg++ [z]= (V.ak++ [(y,t)]).map bg:=by rw[XD,hz];rfl
 rw[hrow]at hff;have bS:∀i,sB t=some i→sB V.s2≠some i:=fun i hi e=>by
  have h1:=(Ri.bN hi).1;have h2:=(QO.bk.o.dN (b:=i) (by rw[←e];simp[RV.bl])).2;omega
 have f5:Fr B.length W5 t 1 (y.aJ.map au):=(Ri.aC fun i hi=>hk5 i (Ri.bN hi).2 (bS i hi)).low QO.ex.len;have s5:cE B X x V (W5.set X.length (.b (V.row.set 3 s'))) { V with ak:=V.ak++ [(y,t)],s2:=s' }:=eG.p2 QO hff f5 (fun i hi=>.inr (by have:=hn5 i hi;omega)) (fun i hi=>⟨(Ri.bN hi).1,fun e=>by have:=hn5 i e;have:=(Ri.bN hi).2;omega⟩) (fun i hi hne=>(hk5 i Om hne).trans (eY.get hi)) x5 Om;have mB:W5[X.length]? =some (.b V.row):=(hk5 _ sY.bk.lt (fun z=>sY.bk.ne (by rw[←z];simp[RV.bl]))).trans sY.bk.m;have RZ:aW 1 (.ptr X.length 3) s' (fun z=>W5[z]?)=some (aB,.set X.length (.b (V.row.set 3 s'))):=(aM mB).trans (bV q5 (by show 3+1≤7;omega))
 refine Rs (A5 t2 t3 t4 @RZ q5) ?_;obtain⟨W6,R7⟩:∃Z,Z=W5.set X.length (.b (V.row.set 3 s')):=⟨_,rfl⟩;rw[←R7]at s5 ⊢;obtain⟨lr,le,sb,gm⟩:=cE.fa s5;refine Rs (A7 t2 t3 t4 @lr @aF @sb @gm) ?_;rw[RF];exact cE.fin s5 (fun _=>by simp only[RV.ar,XD,dq,Yr,Zf,hy])
end
def ga:List AV:=[.int .i64 0,.str [],.af,.af,.str []]
def BQ(kd:By)(sn sv:AV):aq:=.cells [.int .i64 0,.str kd,sn,sv,.str []] true false
structure uf(A:ah)(kd:By)(b8:Nat)(kb:aq)(sw:AV)(wr:Bool)(ws:List (By))(sn sv:AV)(ns:List (By))(vs:List Int)(B:ah):Prop where
 m7: (A++ [gC sw wr]++B)[A.length+1]? =some (BQ kd sn sv)
 m8: (A++ [gC sw wr]++B)[b8]? =some kb
 l8:A.length+1 < b8
 s:aK A sw 1 (ws.map au)
 wl:∀x∈ws,x.length≤2^40
 n:Fr (A.length+1) (A++ [gC sw wr]++B) sn 1 (ns.map au)
 v:Fr (A.length+1) (A++ [gC sw wr]++B) sv 1 (vs.map aL)
 dn:∀i,sB sn=some i→A.length+1 < i∧i≠b8
 dv:∀i,sB sv=some i→A.length+1 < i∧i≠b8
 dd:∀i,sB sn=some i→sB sv≠some i
section
variable {A B:ah} {kd:By} {b8:Nat} {kb:aq} {sw:AV} {wr:Bool} {ws:List (By)} {sn sv:AV} {ns:List (By)} {vs:List Int}
def uU{x}: (A++ [x]).length=A.length+1:=Si
def uf.tk(o:uf A kd b8 kb sw wr ws sn sv ns vs B){sw' wr' ws'}(hs:aK A sw' 1 (ws'.map au))(hw:∀x∈ws',x.length≤2^40):uf A kd b8 kb sw' wr' ws' sn sv ns vs B:=
 ⟨by rw[qe (K':=gC sw wr) Om];exact o.m7,by rw[qe (K':=gC sw wr) (by have:=o.l8;omega)];exact o.m8,o.l8,hs,hw,o.n.swap' uU uU,o.v.swap' uU uU,o.dn,o.dv,o.dd⟩
theorem uf.app(o:uf A kd b8 kb sw wr ws sn sv ns vs B)(g:ah):uf A kd b8 kb sw wr ws sn sv ns vs (B++g):=by
 have e:A++ [gC sw wr]++ (B++g)=A++ [gC sw wr]++B++g:=(Xt _ _ _).symm;exact⟨by rw[e];exact(Ext.app g (Ext.refl _)).some o.m7,by rw[e];exact(Ext.app g (Ext.refl _)).some o.m8,o.l8,o.s,o.wl,by rw[e];exact o.n.app g,by rw[e];exact o.v.app g,o.dn,o.dv,o.dd⟩
def nC{K X g}: (A++ [K]++g).set (A.length+1) X=A++ [K]++g.set 0 X:=by
 rw[Yp _ _ Si];simp
def uf.MZ(o:uf A kd b8 kb sw wr ws sn sv ns vs B){UB ns' g}(hF:Fr (A.length+1) (A++ [gC sw wr]++g) UB 1 (ns'.map au))(hlo:∀i,sB UB=some i→(A++ [gC sw wr]++B).length < i)
  (hle: (A++ [gC sw wr]++B).length≤(A++ [gC sw wr]++g).length) (hk:∀i,i < (A++ [gC sw wr]++B).length→sB sn≠some i→(A++ [gC sw wr]++g)[i]? = (A++ [gC sw wr]++B)[i]?):
  uf A kd b8 kb sw wr ws UB sv ns' vs (g.set 0 (BQ kd UB sv)):=by
 have l7:=(Xr.1 o.m7).1;have l8:=(Xr.1 o.m8).1;have h8:=o.l8;have ne:∀i,i≠A.length+1→((A++ [gC sw wr]++g).set (A.length+1) (BQ kd UB sv))[i]? = (A++ [gC sw wr]++g)[i]? :=fun i hi=>XK (fun e=>hi e.symm)
 refine⟨?_,?_,h8,o.s,o.wl,?_,?_,fun i hi=>?_,o.dv,fun i hi e=>?_⟩
 ·rw[←nC,XL Om]
 ·rw[←nC,ne _ Om,hk _ l8 (fun e=>(o.dn _ e).2 rfl)];exact o.m8
 ·exact z162
 ·rw[←nC];exact o.v.aC fun j hj=>by rw[ne j (by have:=(o.dv j hj).1;omega),hk j (o.v.bN hj).2 (fun e=>o.dd j e hj)]
 ·have:=hlo i hi;exact⟨Om,Om⟩
 ·have h1:=hlo i hi;have h2:=(o.v.bN e).2;omega
def uf.MY(o:uf A kd b8 kb sw wr ws sn sv ns vs B){Uz vs' g}(hF:Fr (A.length+1) (A++ [gC sw wr]++g) Uz 1 (vs'.map aL))(hlo:∀i,sB Uz=some i→(A++ [gC sw wr]++B).length < i)
  (hle: (A++ [gC sw wr]++B).length≤(A++ [gC sw wr]++g).length) (hk:∀i,i < (A++ [gC sw wr]++B).length→sB sv≠some i→(A++ [gC sw wr]++g)[i]? = (A++ [gC sw wr]++B)[i]?):
  uf A kd b8 kb sw wr ws sn Uz ns vs' (g.set 0 (BQ kd sn Uz)):=by
 have l7:=(Xr.1 o.m7).1;have l8:=(Xr.1 o.m8).1;have h8:=o.l8;have ne:∀i,i≠A.length+1→((A++ [gC sw wr]++g).set (A.length+1) (BQ kd sn Uz))[i]? = (A++ [gC sw wr]++g)[i]? :=fun i hi=>XK (fun e=>hi e.symm)
 refine⟨?_,?_,h8,o.s,o.wl,?_,?_,o.dn,fun i hi=>?_,fun i hi e=>?_⟩
 ·rw[←nC,XL Om]
 ·rw[←nC,ne _ Om,hk _ l8 (fun e=>(o.dv _ e).2 rfl)];exact o.m8
 ·rw[←nC];exact o.n.aC fun j hj=>by rw[ne j (by have:=(o.dn j hj).1;omega),hk j (o.n.bN hj).2 (fun e=>o.dd j hj e)]
 ·exact z162
 ·have:=hlo i hi;exact⟨Om,Om⟩
 ·have h1:=hlo i e;have h2:=(o.n.bN hi).2;omega
end
def qo{ws wr}:∀x∈(bP ws wr).2.1,x∈ws:=by
 intro x hx;cases ws with
 | nil=>simp[bP]at hx
 | cons w r=>
  by_cases hw:w= []
  ·rw[bP,XI hw]at hx;simp at hx
  ·rw[bP,XG hw]at hx;exact Yb _ hx
def LI(h:ah)(ws:List (By))(v:AV)(k:ah):Prop:=Ext h k∧∃x:EV,x.ev= (dZ ws).1∧v= .dJ [.agg x.row,.bool (dZ ws).2]∧Fr h.length k x.sn 1 (x.ev.names.map au)∧Fr h.length k x.sv 1 (x.ev.cC.map aL)
def uC{h k}(e:Ext (h++ [aq.cells [.int .i64 0,.str [],.af,.af,.str []] true false]) k):k[h.length]? =some (.cells [.int .i64 0,.str [],.af,.af,.str []] true false):=e.some (by rw[XE (XH _)];simp)
def JY{h k}(e:Ext (h++ [aq.cells [.int .i64 0,.str [],.af,.af,.str []] true false]) k):aW 5 (.ptr h.length 0) (.agg [.int .i64 0,.str [],.af,.af,.str []]) (fun z=>k[z]?)=some (aB,.set h.length (.cells [.int .i64 0,.str [],.af,.af,.str []] true false)):=by rw[aM (uC e)];rfl
def J0{h k}(e:Ext (h++ [aq.cells [.int .i64 0,.str [],.af,.af,.str []] true false]) k):ao (some 5) (.ptr h.length 0) (fun z=>k[z]?)=some (.agg [.int .i64 0,.str [],.af,.af,.str []],.az):=by rw[an (uC e)];rfl
def JZ{h k}(e:Ext (h++ [aq.cells [.int .i64 0,.str [],.af,.af,.str []] true false]) k):k.set h.length (.cells [.int .i64 0,.str [],.af,.af,.str []] true false)=k:=by
 have:=uC e;exact Jx
def JX{h k x}(ox:bo k x)(e:Ext (h++ [aq.cells [.int .i64 0,.str [],.af,.af,.str []] true false]) k):aW 5 (.ptr h.length 0) (.agg x.row) (fun z=>k[z]?)=some (aB,.set h.length (.cells x.row true false)):=by rw[aM (uC e)];exact ox.st
def JW{h k:ah}{x:EV}(e:Ext (h++ [aq.cells [.int .i64 0,.str [],.af,.af,.str []] true false]) k):ao (some 5) (.ptr h.length 0) (fun z=>(k.set h.length (.cells x.row true false))[z]?)=some (.agg x.row,.az):=by
 rw[an (XL (Xr.1 (uC e)).1)];rfl
theorem rS:∀{n} {ws} {wr},(c8 n ws wr).1.length=n
 | 0,_,_=>rfl
 | n+1,ws,wr=>by rw[c8,Xy,rS]
theorem uL:∀{n} {ws} {wr},(fh n ws wr).1.length=n
 | 0,_,_=>rfl
 | n+1,ws,wr=>by rw[fh,Xy,uL]
def uF(ws:List (By)): (dZ ws).1.names.length≤3∧(dZ ws).1.cC.length≤3:=by
 unfold dZ;cases gF (bP ws false).1 with
 | none=>exact⟨X3 _,X3 _⟩
 | some d=>
  have h3: (bL d).length≤3∧cB d≤3:=by cases d<;>decide
  exact⟨by show(c8 _ _ _).1.length≤3;rw[rS];exact h3.1,by show(fh _ _ _).1.length≤3;rw[uL];exact h3.2⟩
def vR(k:Nat):aj:=(fn111).body.dr k
def Be(k:Nat):aj:=(vR k).hd
def MV:fn111= ⟨73,1,[(2,some (some 5)),(3,none)],.seq (Be 0) (.seq (Be 1) (.seq (Be 2) (.seq (Be 3) (.seq (Be 4) (.seq (Be 5) (vR 6))))))⟩:=rfl
def MU:vR 6= .seq (Be 6) (vR 7):=rfl
def MT:vR 7= .seq (Be 7) (vR 8):=rfl
attribute [local irreducible] WQ
section
variable {P:Program} (T:fA P) {h A B:ah} {kd:By} {b8:Nat} {kb:aq} {sw:AV} {wr:Bool} {ws Wb:List (By)} {sn sv:AV} {ns:List (By)} {vs:List Int} {ts:TS}
include T
theorem GB(hA:A=h++ [.cells ga true false])(o:uf A kd b8 kb sw wr ws sn sv ns vs B)(hlen:ts.length=73)(t2:slot ts 2= .ptr h.length 0)(t4:slot ts 4= .ptr A.length 0)(t7:slot ts 7= .ptr (A.length+1) 0)
  (hw:dZ Wb= (⟨0,kd,ns,vs,[]⟩,!wr && decide (ws.length=0))):WC P bR (vR 8) [] ts (A++ [gC sw wr]++B) (FQ [(2,some (some 5)),(3,none)] (LI h Wb)):=by
 have hAl:A.length=h.length+1:=by rw[hA];simp
 obtain⟨Y,hY⟩:∃Y,Y=A++ [gC sw wr]++B:=⟨_,rfl⟩;have SL:Y=h++ ([aq.cells ga true false]++ [gC sw wr]++B):=by rw[hY,hA];simp
 have m2:Y[h.length]? =some (.cells ga true false):=by rw[SL,XE (XH _)];simp
 have m4:Y[A.length]? =some (.cells [sw,.bool wr] true false):=by rw[hY];exact HP
 have m7:Y[A.length+1]? =some (.cells [.int .i64 0,.str kd,sn,sv,.str []] true false):=by rw[hY];exact o.m7
 have ln:=o.n;have lv:=o.v;rw[←hY]at ln lv ⊢;have x:∃x:EV,x= ⟨⟨0,kd,ns,vs,[]⟩,sn,sv⟩:=⟨_,rfl⟩;obtain⟨x,hx⟩:=x;have hrow:x.row= [.int .i64 0,.str kd,sn,sv,.str []]:=by rw[hx];rfl
 have ox:Fr h.length (Y.set h.length (.cells x.row true false)) x.sn 1 (x.ev.names.map au)∧Fr h.length (Y.set h.length (.cells x.row true false)) x.sv 1 (x.ev.cC.map aL):=by
  rw[hx];exact⟨(ln.aC fun j hj=>XK (by have:=(o.dn j hj).1;omega)).low Om,(lv.aC fun j hj=>XK (by have:=(o.dv j hj).1;omega)).low Om⟩
 have oy:bo Y x:=by rw[hx];exact⟨ln.a8,lv.a8⟩
 have l4:∀{n:Option Nat} {a:Nat},ao n (.ptr A.length a) (fun z=>Y[z]?)=cp n a (.cells [sw,.bool wr] true false):=an m4;have l7:ao (some 5) (.ptr (A.length+1) 0) (fun z=>Y[z]?)=some (.agg x.row,.az):=by rw[an m7,hrow];rfl
 have s2:aW 5 (.ptr h.length 0) (.agg x.row) (fun z=>Y[z]?)=some (aB,.set h.length (.cells x.row true false)):=by rw[aM m2];exact oy.st
 have l2:ao (some 5) (.ptr h.length 0) (fun z=>(Y.set h.length (.cells x.row true false))[z]?)=some (.agg x.row,.az):=by rw[an (XL (Xr.1 m2).1)];rfl
 have hlw:=(o.s.aP (row:=au));have fin:∀b,b= (!wr && decide (ws.length=0))→LI h Wb (.dJ [.agg x.row,.bool b]) (Y.set h.length (.cells x.row true false)):=fun b hb=>by
  refine⟨⟨([aq.cells ga true false]++ [gC sw wr]++B).set 0 (.cells x.row true false),by rw[SL,Yp _ _ (XH _),Yy]⟩,x,by rw[hw,hx],by rw[hw,hb],ox⟩
 unfold vR fn111;simp only[aj.j,aj.s,aj.r,aj.dr,aj.tl,aj.hd];cases wr with
 | true=>
  repeat (first| simp (config:={ maxSteps:=1000000 }) only[aV,bd,bD,bE,reduceAdd,reduceMul,reduceLeDiff,reduceEqDiff,bF,hlen,XO,XR,t2,t4,t7,l4,l7,s2,XW,XY,qn,n9,od,oa,ql,n7,tU,yF,tV,qm,lS,yG,tW,tX,qk,n8,tS,tR]| simp (config:={ maxSteps:=1000000 }) (disch:=first| (simp only[Xs,Xy,XA]<;>omega)| rfl| omega| fail) only[fM,aV,bd,bD,bE,reduceAdd,reduceMul,reduceLeDiff,reduceEqDiff,bF,hlen,XO,XR,t2,t4,t7,l4,l7,s2,XW,XY,qn,n9,od,oa,ql,n7,tU,yF,tV,qm,lS,yG,tW,tX,qk,n8,tS,tR])
  rw[Ck];refine⟨?_,?_⟩
  ·exact Pe
  ·repeat (first| simp (config:={ maxSteps:=1000000 }) only[aV,bd,bD,bE,reduceAdd,reduceMul,reduceLeDiff,reduceEqDiff,bF,hlen,XO,XR,t2,l2,nY,nZ,n6,Y8,YL]| simp (config:={ maxSteps:=1000000 }) (disch:=first| (simp only[Xs,Xy,XA]<;>omega)| rfl| omega| fail) only[fM,aV,bd,bD,bE,reduceAdd,reduceMul,reduceLeDiff,reduceEqDiff,bF,hlen,XO,XR,t2,l2,nY,nZ,n6,Y8,YL])
   exact fin _ rfl
 | false=>
  repeat (first| simp (config:={ maxSteps:=1000000 }) only[aV,bd,bD,bE,reduceAdd,reduceMul,reduceLeDiff,reduceEqDiff,bF,hlen,XO,XR,t2,t4,t7,l4,l7,s2,hlw,XW,XY,qn,n9,od,oa,ql,n7,tU,yF,tV,qm,lS,yG,tW,tX,qk,n8,tS,tR]| simp (config:={ maxSteps:=1000000 }) (disch:=first| (simp only[Xs,Xy,XA]<;>omega)| rfl| omega| fail) only[fM,aV,bd,bD,bE,reduceAdd,reduceMul,reduceLeDiff,reduceEqDiff,bF,hlen,XO,XR,t2,t4,t7,l4,l7,s2,hlw,XW,XY,qn,n9,od,oa,ql,n7,tU,yF,tV,qm,lS,yG,tW,tX,qk,n8,tS,tR])
  rw[Ck];refine⟨?_,?_⟩
  ·exact Pe
  ·repeat (first| simp (config:={ maxSteps:=1000000 }) only[aV,bd,bD,bE,reduceAdd,reduceMul,reduceLeDiff,reduceEqDiff,bF,hlen,XO,XR,t2,l2,nY,nZ,n6,Y8,YL]| simp (config:={ maxSteps:=1000000 }) (disch:=first| (simp only[Xs,Xy,XA]<;>omega)| rfl| omega| fail) only[fM,aV,bd,bD,bE,reduceAdd,reduceMul,reduceLeDiff,reduceEqDiff,bF,hlen,XO,XR,t2,l2,nY,nZ,n6,Y8,YL])
   refine fin _ ?_;cases ws<;>simp
   try omega
theorem MR(Z:pZ P){vN rs c2 c3 a4}(hA:A=h++ [.cells ga true false])(hkb:kb= .cells [rs,.int .i64 (vN:Nat),c2,c3,a4] true false)(hvN:vN≤100)(o:uf A kd b8 kb sw wr ws sn sv ns [] B)(hlen:ts.length=73)(t2:slot ts 2= .ptr h.length 0)(t4:slot ts 4= .ptr A.length 0)(t6:slot ts 6= .func (.func 208) [.ptr A.length 0] [])(t7:slot ts 7= .ptr (A.length+1) 0)(t8:slot ts 8= .ptr b8 0)
  (hw:dZ Wb= (⟨0,kd,ns,(fh vN ws wr).1,[]⟩,!(fh vN ws wr).2.2 && decide ((fh vN ws wr).2.1.length=0))):WC P bR (vR 7) [] ts (A++ [gC sw wr]++B) (FQ [(2,some (some 5)),(3,none)] (LI h Wb)):=by
 have m8:=o.m8;rw[hkb]at m8;have l8:∀{n:Option Nat} {a:Nat},ao n (.ptr b8 a) (fun z=>(A++ [gC sw wr]++B)[z]?)=cp n a (.cells [rs,.int .i64 (vN:Nat),c2,c3,a4] true false):=an m8;obtain⟨RR,Rg⟩:∃RR,RR=vR 8:=⟨_,rfl⟩;rw[MT,←Rg];unfold Be vR fn111;simp only[aj.j,aj.s,aj.r,aj.dr,aj.tl,aj.hd];refine Rs (A6 t2 t4 t6 t7 t8 @l8) ?_;refine WL.inv T.mix (fun n ts' h'=>∃ (k:Nat) (sw' Uz:AV) (wr':Bool) (ws':List (By)) (vs':List Int) (B':ah),k≤vN∧n=vN - k∧h' =A++ [gC sw' wr']++B'∧uf A kd b8 kb sw' wr' ws' sn Uz ns vs' B'∧vs'.length=k∧fh vN ws wr= (vs'++ (fh (vN - k) ws' wr').1,(fh (vN - k) ws' wr').2)∧
   ts'.length=73∧slot ts' 2= .ptr h.length 0∧slot ts' 4= .ptr A.length 0∧slot ts' 6= .func (.func 208) [.ptr A.length 0] []∧slot ts' 7= .ptr (A.length+1) 0∧slot ts' 47= .int .i64 vN∧slot ts' 48= .int .i64 k) vN
  ⟨0,sw,sv,wr,ws,[],B,Om,rfl,rfl,o,rfl,rfl,(Sq t2),(Sq t2),(Sq t4),(Sq t6),(Sq t7),(Sq t2),iF⟩ ?_
 clear hlen t2 t4 t6 t7 t8 l8 m8 o;rintro _ ts' _ ⟨k,sw',Uz,wr',ws',vs',B',hk,rfl,rfl,o,Q9,R3,hlen,u2,u4,u6,u7,u47,u48⟩;by_cases hlt:k < vN
 ·have e3:decide ((k:Int)< vN)=true:=Xz Om;refine Rs (A7 @u2 @u4 @u6 @u7 @u47 @u48 e3) ?_;refine WF.gen T.c208 (NN T Z o.s o.wl) ?_;rintro _ _ ⟨Su,g,rfl,rfl,QV⟩;obtain⟨Rt,TZ⟩:∃Rt,Rt= ((bP ws' wr').2.2|| !iB (bP ws' wr').1):=⟨_,rfl⟩;obtain⟨y,hy⟩:∃y,y=kI (bP ws' wr').1:=⟨_,rfl⟩;rw[←TZ,←hy];have o2:=(o.tk (wr':=Rt) QV (fun x hx=>o.wl x (qo x hx))).app g;have bS:fh vN ws wr= ((vs'++ [y])++ (fh (vN - (k+1)) (bP ws' wr').2.1 Rt).1,(fh (vN - (k+1)) (bP ws' wr').2.1 Rt).2):=by
   rw[R3,show vN - k= (vN - (k+1))+1 by omega,fh,hy,TZ];simp
  have l7:∀{kk:ah} {n:Option Nat} {a:Nat},Ext (A++ [gC Su Rt]++ (B'++g)) kk→ao n (.ptr (A.length+1) a) (fun z=>kk[z]?)=cp n a (.cells [.int .i64 0,.str kd,sn,Uz,.str []] true false):=fun e=>an (e.some o2.m7)
  refine Rs (A7 @u2 @u4 @u6 @u7 @u47 @u48 @l7) ?_;refine WR.pY (B:=A++ [gC Su Rt]) (cs:=vs'.map aL) (z:=aL y) (by rw[uU];exact o2.v) rfl ⟨_,rfl⟩ De (by simp;omega) ?_;rintro _ s' ⟨g2,rfl⟩ hF hlo hone hle hkp;rw[uU]at hF;have er:vs'.map aL++ [aL y]= (vs'++ [y]).map aL:=by rw[XD];rfl
  rw[er]at hF;have q7:=(Xr.1 o2.m7).1;have m7': (A++ [gC Su Rt]++g2)[A.length+1]? =some (.cells [.int .i64 0,.str kd,sn,Uz,.str []] true false):=by
   rw[hkp _ q7 (fun e=>by have:=(o2.dv _ e).1;omega)];exact o2.m7
  have s7:aW 1 (.ptr (A.length+1) 3) s' (fun z=>(A++ [gC Su Rt]++g2)[z]?)=some (aB,.set (A.length+1) (.cells [.int .i64 0,.str kd,sn,s',.str []] true false)):=by
   rw[aM m7'];exact bV hone Si
  have o3:=o2.MY hF hlo hle hkp;refine Rs (A8 @u2 @u4 @u6 @u7 @u47 @u48 @s7 (wrapN (show k+1 < 2^63 by omega))) ?_;exact⟨vN - (k+1),Om,k+1,Su,s',Rt,_,vs'++ [y],_,Om,rfl,nC,o3,by simp[Q9],bS,rfl⟩
 ·have e3:decide ((k:Int)< vN)=false:=Xu Om;have ek:k=vN:=Om
  subst ek;rw[Yy,fh,XU]at R3;rw[R3]at hw;refine Rs (A7 @u2 @u4 @u6 @u7 @u47 @u48 e3) ?_;rw[Rg];exact GB T hA o (Sq @u2) (Sq @u2) (Sq @u4) (Sq @u7) hw
theorem MS(Z:pZ P){nN vN rs c2 c3 a4}(hA:A=h++ [.cells ga true false])(hkb:kb= .cells [rs,.int .i64 (vN:Nat),c2,c3,a4] true false)(hnN:nN≤100)(hrs:∀G,iL .sl G rs=some nN)(hvN:vN≤100)(o:uf A kd b8 kb sw wr ws sn sv [] [] B)(hlen:ts.length=73)(t2:slot ts 2= .ptr h.length 0)(t4:slot ts 4= .ptr A.length 0)
  (t5:slot ts 5= .func (.func 207) [.ptr A.length 0] []) (t6:slot ts 6= .func (.func 208) [.ptr A.length 0] []) (t7:slot ts 7= .ptr (A.length+1) 0) (t8:slot ts 8= .ptr b8 0)
  (hw:dZ Wb= (⟨0,kd,(c8 nN ws wr).1,(fh vN (c8 nN ws wr).2.1 (c8 nN ws wr).2.2).1,[]⟩,!(fh vN (c8 nN ws wr).2.1 (c8 nN ws wr).2.2).2.2 && decide ((fh vN (c8 nN ws wr).2.1 (c8 nN ws wr).2.2).2.1.length=0))):WC P bR (vR 6) [] ts (A++ [gC sw wr]++B) (FQ [(2,some (some 5)),(3,none)] (LI h Wb)):=by
 have m8:=o.m8;rw[hkb]at m8;have l8:∀{n:Option Nat} {a:Nat},ao n (.ptr b8 a) (fun z=>(A++ [gC sw wr]++B)[z]?)=cp n a (.cells [rs,.int .i64 (vN:Nat),c2,c3,a4] true false):=an m8;obtain⟨RR,Rg⟩:∃RR,RR=vR 7:=⟨_,rfl⟩;rw[MU,←Rg];unfold Be vR fn111;simp only[aj.j,aj.s,aj.r,aj.dr,aj.tl,aj.hd];refine Rs (A8 t2 t4 t5 t6 t7 t8 @l8 @hrs) ?_;refine WL.inv T.mix (fun n ts' h'=>∃ (k:Nat) (sw' UB:AV) (wr':Bool) (ws' ns':List (By)) (B':ah),k≤nN∧n=nN - k∧h' =A++ [gC sw' wr']++B'∧uf A kd b8 kb sw' wr' ws' UB sv ns' [] B'∧ns'.length=k∧c8 nN ws wr= (ns'++ (c8 (nN - k) ws' wr').1,(c8 (nN - k) ws' wr').2)∧
   ts'.length=73∧slot ts' 2= .ptr h.length 0∧slot ts' 4= .ptr A.length 0∧slot ts' 5= .func (.func 207) [.ptr A.length 0] []∧slot ts' 6= .func (.func 208) [.ptr A.length 0] []∧slot ts' 7= .ptr (A.length+1) 0∧slot ts' 8= .ptr b8 0∧slot ts' 34= .int .i64 nN∧slot ts' 35= .int .i64 k) nN
  ⟨0,sw,sn,wr,ws,[],B,Om,rfl,rfl,o,rfl,rfl,(Sq t2),(Sq t2),(Sq t4),(Sq t5),(Sq t6),(Sq t7),(Sq t8),(Sq t2),iF⟩ ?_
 clear hlen t2 t4 t5 t6 t7 t8 l8 m8 o;rintro _ ts' _ ⟨k,sw',UB,wr',ws',ns',B',hk,rfl,rfl,o,Q9,R3,hlen,u2,u4,u5,u6,u7,u8,u34,u35⟩;by_cases hlt:k < nN
 ·have e3:decide ((k:Int)< nN)=true:=Xz Om;refine Rs (A9 @u2 @u4 @u5 @u6 @u7 @u8 @u34 @u35 e3) ?_;refine WF.gen T.c207 (Hg T o.s) ?_;rintro _ _ ⟨Su,rfl,rfl,QV⟩;obtain⟨Rt,TZ⟩:∃Rt,Rt= (bP ws' wr').2.2:=⟨_,rfl⟩;obtain⟨y,hy⟩:∃y,y= (bP ws' wr').1:=⟨_,rfl⟩;rw[←TZ,←hy];have o2:=o.tk (wr':=Rt) QV (fun x hx=>o.wl x (qo x hx));have bS:c8 nN ws wr= ((ns'++ [y])++ (c8 (nN - (k+1)) (bP ws' wr').2.1 Rt).1,(c8 (nN - (k+1)) (bP ws' wr').2.1 Rt).2):=by
   rw[R3,show nN - k= (nN - (k+1))+1 by omega,c8,hy,TZ];simp
  have l7:∀{kk:ah} {n:Option Nat} {a:Nat},Ext (A++ [gC Su Rt]++B') kk→ao n (.ptr (A.length+1) a) (fun z=>kk[z]?)=cp n a (.cells [.int .i64 0,.str kd,UB,sv,.str []] true false):=fun e=>an (e.some o2.m7)
  refine Rs (A9 @u2 @u4 @u5 @u6 @u7 @u8 @u34 @u35 @l7) ?_;refine WR.pY (B:=A++ [gC Su Rt]) (cs:=ns'.map au) (z:=au y) (by rw[uU];exact o2.n) rfl ⟨_,rfl⟩ De (by simp;omega) ?_;rintro _ s' ⟨g2,rfl⟩ hF hlo hone hle hkp;rw[uU]at hF;have er:ns'.map au++ [au y]= (ns'++ [y]).map au:=by rw[XD];rfl
  rw[er]at hF;have q7:=(Xr.1 o2.m7).1;have m7': (A++ [gC Su Rt]++g2)[A.length+1]? =some (.cells [.int .i64 0,.str kd,UB,sv,.str []] true false):=by
   rw[hkp _ q7 (fun e=>by have:=(o2.dn _ e).1;omega)];exact o2.m7
  have s7:aW 1 (.ptr (A.length+1) 2) s' (fun z=>(A++ [gC Su Rt]++g2)[z]?)=some (aB,.set (A.length+1) (.cells [.int .i64 0,.str kd,s',sv,.str []] true false)):=by
   rw[aM m7'];exact bV hone Si
  have o3:=o2.MZ hF hlo hle hkp;refine Rs (mY @u2 @u4 @u5 @u6 @u7 @u8 @u34 @u35 @s7 (wrapN (show k+1 < 2^63 by omega))) ?_;exact⟨nN - (k+1),Om,k+1,Su,s',Rt,_,ns'++ [y],_,Om,rfl,nC,o3,by simp[Q9],bS,rfl⟩
 ·have e3:decide ((k:Int)< nN)=false:=Xu Om;have ek:k=nN:=Om
  subst ek;rw[Yy,c8,XU]at R3;rw[R3]at hw;refine Rs (A9 @u2 @u4 @u5 @u6 @u7 @u8 @u34 @u35 e3) ?_;rw[Rg];exact MR T Z hA hkb hvN o (Sq @u2) (Sq @u2) (Sq @u4) (Sq @u6) (Sq @u7) (Sq @u8) hw
theorem r111(Z:pZ P){s ws}(hs:aK h s 1 (ws.map au))(hwl:∀x∈ws,x.length≤2^40):aA P 111 [s] h (fun v k=>∃x:EV,x.ev= (dZ ws).1∧v= .dJ [.agg x.row,.bool (dZ ws).2]∧Fr h.length k x.sn 1 (x.ev.names.map au)∧Fr h.length k x.sv 1 (x.ev.cC.map aL)):=by
 refine .of T.mix (Z6 T.c111 (X6 some MV)) ?_;obtain⟨ts,Qn⟩:∃ts,ts=aT 73 [s]:=⟨_,rfl⟩;have hlen:ts.length=73:=by rw[Qn];rfl
 have t0:slot ts 0=s:=by rw[Qn];rfl
 obtain⟨RR,Rg⟩:∃RR,RR=vR 6:=⟨_,rfl⟩;show WC P bR _ [] (aT 73 [s]) h (FQ _ (LI h ws));rw[←Qn,←Rg];clear Qn;have hso:=hs.one;unfold Be vR fn111;simp only[aj.j,aj.s,aj.r,aj.dr,aj.tl,aj.hd];refine Rs (A2 t0 @hso) ?_;obtain⟨A,hA⟩:∃A,A=h++ [aq.cells ga true false]:=⟨_,rfl⟩;have hAl:A.length=h.length+1:=by rw[hA];simp
 have gw:=Hg T (A:=A) (B:=[]) (wr:=false) (hs.ext (k:=A) ⟨_,hA⟩);rw[XU,hA]at gw;refine WF.gen T.c207 gw ?_;rintro _ _ ⟨Su,rfl,rfl,QV⟩;rw[XU];rw[←hA]at QV;have hwl2:∀x∈(bP ws false).2.1,x.length≤2^40:=fun x hx=>hwl x (qo x hx)
 have RD:dZ ws=match gF (bP ws false).1 with
  | none=>(kY,false)
  | some d=>(⟨0,bz d,(c8 (bL d).length (bP ws false).2.1 (bP ws false).2.2).1,(fh (cB d) (c8 (bL d).length (bP ws false).2.1 (bP ws false).2.2).2.1 (c8 (bL d).length (bP ws false).2.1 (bP ws false).2.2).2.2).1,[]⟩,!(fh (cB d) (c8 (bL d).length (bP ws false).2.1 (bP ws false).2.2).2.1 (c8 (bL d).length (bP ws false).2.1 (bP ws false).2.2).2.2).2.2 && decide ((fh (cB d) (c8 (bL d).length (bP ws false).2.1 (bP ws false).2.2).2.1 (c8 (bL d).length (bP ws false).2.1 (bP ws false).2.2).2.2).2.1.length=0)):=by
  unfold dZ;cases gF (bP ws false).1<;>rfl
 generalize (bP ws false).1=kd at *;generalize (bP ws false).2.1=ws2 at *;generalize (bP ws false).2.2=Rt at *;refine Rs t0 ?_;refine WF.res T.c90 (r90 T) ?_;rintro _ g2 ⟨vf,rfl,hk⟩;have lk:∀{z:AV},gV .s z true (.map (h++ [aq.cells ga true false]++ [gC Su Rt]++ [BQ kd .af .af]).length) (.str kd) (fun b=>(h++ [aq.cells ga true false]++ [gC Su Rt]++ [BQ kd .af .af]++g2)[b]?)=k5 z true ((gF kd).map vf):=hk.look;unfold BQ at lk;cases hd:gF kd with
 | none=>
  rw[hd]at lk RD;have QY:∀{z:AV},_=some (AV.dJ [z,.bool false],ia.az):=@lk;have z2:∀{k:ah},Ext (h++ [aq.cells ga true false]) k→k[h.length]? =some (.cells ga true false):=fun e=>e.some (by rw[XE (XH _)];simp)
  have s2:∀{k:ah},Ext (h++ [aq.cells ga true false]) k→aW 5 (.ptr h.length 0) (.agg [.int .i64 0,.str [],.af,.af,.str []]) (fun z=>k[z]?)=some (aB,.set h.length (.cells ga true false)):=fun e=>by rw[aM (z2 e)];rfl
  have l2:∀{k:ah},Ext (h++ [aq.cells ga true false]) k→ao (some 5) (.ptr h.length 0) (fun z=>k[z]?)=some (.agg ga,.az):=fun e=>by rw[an (z2 e)];rfl
  have sq:∀{k:ah},Ext (h++ [aq.cells ga true false]) k→k.set h.length (.cells ga true false)=k:=fun {k} e=>by
   have:=z2 e;exact Jx
  refine Rs (A8 t0 @bT @QY @hP @XY @s2 @sq @l2) ?_;exact⟨Xx,⟨kY,.af,.af⟩,by rw[RD],by rw[RD];rfl,.nil,.nil⟩
 | some d=>
  rw[hd]at lk RD;have QY:∀{z:AV},_=some (AV.dJ [vf d,.bool true],ia.az):=@lk;obtain⟨rs,a,hv,hr,ha,hab⟩:=(hk.k d).ex;rw[hv]at QY;have hlr:=hr.aP;have c1:=lJ d;have c2:=k9 d;have c3:=hr.one;have h3: (bL d).length≤3∧cB d≤3:=by cases d<;>decide
  refine Rs (A8 t0 @bT @QY @XW @c1 @c2 @c3 @ha) ?_;rw[Rg];obtain⟨kb,hkb⟩:∃kb,kb=aq.cells [rs,.int .i64 (cB d:Nat),jr d,nK d,a] true false:=⟨_,rfl⟩;obtain⟨b8,hb8⟩:∃b8,b8= (h++ [aq.cells ga true false]++ [gC Su Rt]++ [aq.cells [.int .i64 0,.str kd,.af,.af,.str []] true false]++g2).length:=⟨_,rfl⟩;rw[←hkb,←hb8];have eh:h++ [aq.cells ga true false]++ [gC Su Rt]++ [aq.cells [.int .i64 0,.str kd,.af,.af,.str []] true false]++g2++ [kb]=A++ [gC Su Rt]++ ([BQ kd .af .af]++g2++ [kb]):=by rw[hA];unfold BQ;simp
  rw[eh];have o:uf A kd b8 kb Su Rt ws2 .af .af [] [] ([BQ kd .af .af]++g2++ [kb]):=by
   refine⟨?_,?_,?_,QV,hwl2,.nil,.nil,fun i hi=>(by cases hi),fun i hi=>(by cases hi),fun i hi=>(by cases hi)⟩
   ·rw[XE Si];simp
   ·rw[←eh,hb8,XE (XH _),Yy];rfl
   ·rw[hb8,hAl];simp only[Xs,XV];omega
  refine MS T Z (nN:=(bL d).length) (vN:=cB d) hA hkb Om hlr Om o (Sq t0) (Sq t0) ?_ ?_ ?_ ?_ (Sq t0) ?_
  all_goals first| (rw[RD,cw hd];done)| skip
  ·refine Zs t0 ?_;rw[hA];rfl
  ·refine Zs t0 ?_;rw[hA];rfl
  ·refine Zs t0 ?_;rw[hA];rfl
  ·refine Zs t0 ?_;rw[hA];simp
end
def rW{c s n}(hs:s.length≤n):∀x∈bK c s,x.length≤n:=fun x hx=>Yi (rY x hx) hs
theorem rj{c}:∀{s},(eS c s).1.length≤s.length∧(eS c s).2.1.length≤s.length
 | []=>⟨XH _,XH _⟩
 | x::r=>by
  have ih:=rj (c:=c) (s:=r);rw[eS];split
  ·simp
  ·simp only[Xy];omega
def Fb{h G:ah}{X Y:aq}{j:Nat}(hj:j≠h.length): (h++ ([X]++G))[j]? = (h++ ([Y]++G))[j]? :=by
 rw[←Xt,←Xt];exact qe hj
section
variable {P:Program} (T:fA P) {h:ah}
include T
theorem r99(X:Cj P)(Z:pZ P)(w:Pw h)(s:By)(hsl:s.length≤2^38)(n:Int):aA P 99 [.str s,.i n] h (fun v k=>∃x:EV,x.ev= (fD s n).1∧v= .dJ [.agg x.row,.i (fD s n).2]∧Fr h.length k x.sn 1 (x.ev.names.map au)∧Fr h.length k x.sv 1 (x.ev.cC.map aL)):=by
 refine .eF 83 T.mix T.c99 ?_;intro ts hlen t0 t1;unfold fn99;have w1:IntKind.i64.wrap ((s.length:Int) - 7)= (s.length:Int) - 7:=bp Om Om;have w2:IntKind.i64.wrap ((s.length:Int) - 7 - 1)= (s.length:Int) - 8:=by rw[bp Om Om];omega
 have s2:=@JY h;have l2:=@J0 h;have sq:=@JZ h;have bad:∀{c:Int} {k:ah},fD s n= (kY,c)→Ext h k→(Ext h k∧∃x:EV,x.ev= (fD s n).1∧AV.dJ [.agg [.i 0,.str [],.af,.af,.str []],.i c]= .dJ [.agg x.row,.i (fD s n).2]∧Fr h.length k x.sn 1 (x.ev.names.map au)∧Fr h.length k x.sv 1 (x.ev.cC.map aL)):=
  fun he e=>⟨e,⟨kY,.af,.af⟩,by rw[he],by rw[he];rfl,.nil,.nil⟩
 by_cases h8:s.length < 8
 ·have d1:decide ((s.length:Int) - 8 < 0)=true:=Xz Om;refine Rs (A8 t0 t1 @w1 @w2 @d1 @s2 @l2 @sq) ?_;exact(bad (by rw[fD,XI h8]) Xx).2
 have d1:decide ((s.length:Int) - 8 < 0)=false:=Xu Om;have ea: (s.length:Int) - 8= ((s.length - 8:Nat):Int):=Om
 rw[ea]at w2 d1;have hlt:s.length - 8 < s.length:=Om
 have w3:IntKind.i64.wrap (((s.length - 8:Nat):Int)+1)= ((s.length - 7:Nat):Int):=by rw[bp Om Om];omega
 have gd:s.getD (s.length - 8) 0=s[s.length - 8]:=by rw[Yc,Xw hlt];rfl
 by_cases hh:s[s.length - 8]=35
 case neg=>
  have d2:decide ((s[s.length - 8].toNat:Int)≠35)=true:=Xz fun e=>hh (UInt8.toNat_inj.1 (by simpa using (by omega:s[s.length - 8].toNat=35)))
  repeat (first| simp (config:={ maxSteps:=1000000 }) only[aV,bd,bD,bE,reduceAdd,reduceMul,reduceLeDiff,reduceEqDiff,bF,hlen,XO,XR,t0,t1,w1,w2,d1,jB hlt,d2,s2,l2,sq]| simp (config:={ maxSteps:=1000000 }) (disch:=first| (simp only[Xs,Xy,XA]<;>omega)| rfl| omega| fail) only[fM,aV,bd,bD,bE,reduceAdd,reduceMul,reduceLeDiff,reduceEqDiff,bF,hlen,XO,XR,t0,t1,w1,w2,d1,jB hlt,d2,s2,l2,sq])
  exact(bad (by rw[fD,XG h8,XI (.inl (by rw[gd];exact hh))]) Xx).2
 have d2:decide ((s[s.length - 8].toNat:Int)≠35)=false:=Xu (by rw[hh];decide)
 repeat (first| simp (config:={ maxSteps:=1000000 }) only[aV,bd,bD,bE,reduceAdd,reduceMul,reduceLeDiff,reduceEqDiff,bF,hlen,XO,XR,t0,t1,w1,w2,d1,jB hlt,d2,w3,jU (show s.length - 7≤s.length by omega)]| simp (config:={ maxSteps:=1000000 }) (disch:=first| (simp only[Xs,Xy,XA]<;>omega)| rfl| omega| fail) only[fM,aV,bd,bD,bE,reduceAdd,reduceMul,reduceLeDiff,reduceEqDiff,bF,hlen,XO,XR,t0,t1,w1,w2,d1,jB hlt,d2,w3,jU (show s.length - 7≤s.length by omega)])
 refine WF.ce T.c189 (r189 T _ (by rw[ZK];omega)) fun g1=>?_
 cases hd:ri (s.drop (s.length - 7))with
 | false=>
  refine Rs (A7 t0 t1 @hd @XY @s2 @l2 @sq) ?_;exact(bad (by rw[fD,XG h8,XI (.inr (by rw[hd];simp))]) Xx).2
 | true=>
 repeat (first| simp (config:={ maxSteps:=1000000 }) only[aV,bd,bD,bE,reduceAdd,reduceMul,reduceLeDiff,reduceEqDiff,bF,hlen,XO,XR,t0,t1,hd,XW,qy (show s.length - 8≤s.length by omega)]| simp (config:={ maxSteps:=1000000 }) (disch:=first| (simp only[Xs,Xy,XA]<;>omega)| rfl| omega| fail) only[fM,aV,bd,bD,bE,reduceAdd,reduceMul,reduceLeDiff,reduceEqDiff,bF,hlen,XO,XR,t0,t1,hd,XW,qy (show s.length - 8≤s.length by omega)])
 have Tx:∀{α:Type} {a b:α},(if s.getD (s.length - 8) 0≠35∨¬ri (s.drop (s.length - 7))=true then a else b)=b:=fun {_ _ _}=>XG (by rw[gd,hd];simp[hh])
 refine WF.ce T.c187 (r187 T Z _ (by rw[Yq];omega) (w.ext Xx)) fun g2=>?_
 by_cases hc:na (s.take (s.length - 8))=s.drop (s.length - 7)
 case neg=>
  have d3:decide (na (s.take (s.length - 8))≠s.drop (s.length - 7))=true:=Xz hc
  repeat (first| simp (config:={ maxSteps:=1000000 }) only[aV,bd,bD,bE,reduceAdd,reduceMul,reduceLeDiff,reduceEqDiff,bF,hlen,XO,XR,t0,t1,w3,jU (show s.length - 7≤s.length by omega),d3,s2,l2,sq]| simp (config:={ maxSteps:=1000000 }) (disch:=first| (simp only[Xs,Xy,XA]<;>omega)| rfl| omega| fail) only[fM,aV,bd,bD,bE,reduceAdd,reduceMul,reduceLeDiff,reduceEqDiff,bF,hlen,XO,XR,t0,t1,w3,jU (show s.length - 7≤s.length by omega),d3,s2,l2,sq])
  exact(bad (by rw[fD,XG h8,Tx,XI hc]) Xx).2
 have d3:decide (na (s.take (s.length - 8))≠s.drop (s.length - 7))=false:=Xu (fun z=>z hc);have hes:fD s n=if !iB (eS 32 (s.take (s.length - 8))).1|| !(dZ (bK 32 (eS 32 (s.take (s.length - 8))).2.1)).2|| decide (gI { (dZ (bK 32 (eS 32 (s.take (s.length - 8))).2.1)).1 with num:=kI (eS 32 (s.take (s.length - 8))).1 }≠0)then(kY,25)else({ (dZ (bK 32 (eS 32 (s.take (s.length - 8))).2.1)).1 with num:=kI (eS 32 (s.take (s.length - 8))).1 },bX (decide (kI (eS 32 (s.take (s.length - 8))).1≠n)) 11):=(XG h8).trans (Tx.trans (XG (fun z=>z hc)))
 have htl: (s.take (s.length - 8)).length≤2^38:=by rw[Yq];omega
 have hcl:=rj (c:=32) (s:=s.take (s.length - 8))
 repeat (first| simp (config:={ maxSteps:=1000000 }) only[aV,bd,bD,bE,reduceAdd,reduceMul,reduceLeDiff,reduceEqDiff,bF,hlen,XO,XR,t0,t1,w3,jU (show s.length - 7≤s.length by omega),d3,qy (show s.length - 8≤s.length by omega)]| simp (config:={ maxSteps:=1000000 }) (disch:=first| (simp only[Xs,Xy,XA]<;>omega)| rfl| omega| fail) only[fM,aV,bd,bD,bE,reduceAdd,reduceMul,reduceLeDiff,reduceEqDiff,bF,hlen,XO,XR,t0,t1,w3,jU (show s.length - 7≤s.length by omega),d3,qy (show s.length - 8≤s.length by omega)])
 refine WF.ce T.c98 (r98 T X _ 32 Om) fun g3=>?_
 generalize hq1: (eS 32 (s.take (s.length - 8))).1=a1 at hes hcl ⊢;generalize hq2: (eS 32 (s.take (s.length - 8))).2.1=a2 at hes hcl ⊢;refine Rs (A2 t0 t1) ?_;refine WF.ce T.c190 (r190 T Z a1 Om) fun g4=>?_
 refine Rs (A2 t0 t1) ?_;refine WF.res T.c64 (r64 T X a2 32 Om) ?_;intro v g5 hv;refine Rs (A2 t0 t1) ?_;have RM:=uF (bK 32 a2);refine WF.res T.c111 (r111 T Z hv (rW Om)) ?_;rintro _ g6 ⟨x,hx,rfl,fn,fv⟩;have ox:bo _ x:=⟨fn.a8,fv.a8⟩;rw[←hx]at hes RM;generalize (dZ (bK 32 a2)).2=fm at hes ⊢;obtain⟨x',Qt⟩:∃x':EV,x' = ⟨{ x.ev with num:=kI a1 },x.sn,x.sv⟩:=⟨_,rfl⟩;have Q6:x'.sn=x.sn:=by rw[Qt]
 have hsv:x'.sv=x.sv:=by rw[Qt]
 have SV:x'.ev.names=x.ev.names:=by rw[Qt]
 have Q9:x'.ev.cC=x.ev.cC:=by rw[Qt]
 have hrow:x'.row=x.row.set 0 (.i (kI a1)):=by rw[Qt];rfl
 have hev: ({ x.ev with num:=kI a1 }:gy)=x'.ev:=by rw[Qt]
 rw[hev]at hes;have Rw:fD s n=if !iB a1|| !fm|| decide (gI x'.ev≠0)then(kY,25)else(x'.ev,bX (decide (kI a1≠n)) 11):=hes
 rw[←Q6,←SV]at fn;rw[←hsv,←Q9]at fv;have Vv:bo _ x':=⟨fn.a8,fv.a8⟩;have st:∀{b':Nat} {a0 a1 a2 a3 a4:AV},kL 5 0 (.agg x.row) b' (.b [a0,a1,a2,a3,a4])=some (aB,.set b' (.b x.row)):=fun {_ _ _ _ _ _}=>ox.st
 have kE:∀{b':Nat},kL 1 0 (.i (kI a1)) b' (.b x.row)=some (aB,.set b' (.b x'.row)):=fun {b'}=>by
  rw[hrow];exact bV rfl (by show 0+1≤5;omega)
 cases hdg:iB a1 with
 | false=>
  rw[hdg]at Rw;refine Rs (A9 t0 t1 @st @kE @cg @XY @s2 @l2 @sq) ?_;exact z193
 | true=>
 cases fm with
 | false=>
  rw[hdg]at Rw;refine Rs (mY t0 t1 @st @kE @cg @XY @XW @s2 @l2 @sq) ?_;exact z193
 | true=>
 rw[hdg]at Rw;refine Rs (A7 t0 t1 @st @kE @cg @XY @XW) ?_;refine WF.ce T.c67 (r67 T (Vv.ext Xx) ⟨by rw[SV];omega,by rw[Q9];omega⟩) fun g7=>?_
 by_cases RF:gI x'.ev=0
 case neg=>
  have d4:decide (gI x'.ev≠0)=true:=Xz RF;rw[d4]at Rw;refine Rs (A6 t0 t1 @d4 @s2 @l2 @sq) ?_;exact z193
 have d4:decide (gI x'.ev≠0)=false:=Xu (fun z=>z RF);rw[d4]at Rw;have key:∀{k:ah} {W:ah},bo W x'→Ext (h++ [aq.b [.i 0,.str [],.af,.af,.str []]]) W→Ext W k→aW 5 (.ptr h.length 0) (.agg x'.row) (fun z=>k[z]?)=some (aB,.set h.length (.b x'.row)):=fun o e1 e2=>JX (o.ext e2) (e1.trans e2)
 have sx:=fun {k:ah}=>@key k _ Vv Xx
 have ly:=@JW h;refine Rs (A4 t0 t1 @d4 @cg) ?_;refine WF.ce T.c85 (r85 T _ _) fun g8=>?_
 have fn3:=((fn.app [aq.b x'.row]).app g7).app g8;have fv3:=((fv.app [aq.b x'.row]).app g7).app g8;refine Rs (A4 t0 t1 @sx @ly) ?_;refine⟨Xx,x',by rw[Rw];rfl,by rw[Rw];rfl,(fn3.aC fun j hj=>?_).low ?_,(fv3.aC fun j hj=>?_).low ?_⟩
 ·simp only[Xt];refine Fb fun e=>?_
  have:=(fn3.bN hj).1;simp only[Xs,XV]at this;omega
 ·exact z198
 ·simp only[Xt];refine Fb fun e=>?_
  have:=(fv3.bN hj).1;simp only[Xs,XV]at this;omega
 ·exact z198
end
end Go.Abs
