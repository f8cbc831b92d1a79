/- A part of the proof that HouseStories holds. No condition. -/
import Derived.Test.YtgplmdgpmbegiaaGreatDoorSt7
import Derived.Lib.Bytealg
import Derived.Test.YtgplmdgpmbegiaaGreatDoorSt6
import Derived.Lib.ItoaNum
import Derived.Lib.ItoaLen
import Derived.Lib.ItoaMem
import Derived.Lib.Join
import Derived.Test.YtgplmdgpmbegiaaGreatDoorSt0
set_option maxHeartbeats 4000000
set_option linter.all false
open Nat (reduceAdd reduceMul reduceLeDiff reduceEqDiff)
namespace Go.Abs
def iu(R:eX):List ed→List eX
 | []=>[]
 | e::l=>ke R e (jH e)::iu (ke R e (jH e)) l
def Dd(R:eX):List ed→Prop
 | []=>True
 | e::l=>(∃d,jG e d∧d≠.ee)∧gK R e (jH e)=0∧Dd (ke R e (jH e)) l
theorem lh:∀ (l:List ed) (R:eX) (e:ed),iu R (l++ [e])=iu R l++ [ke ((iu R l).getLastD R) e (jH e)]
 | [],R,e=>rfl
 | x::l,R,e=>by
  rw[Zj,iu,iu,lh l,List.getLastD_cons];rfl
theorem rh:∀ (l:List ed) (R:eX) (e:ed),Dd R (l++ [e])↔Dd R l∧(∃d,jG e d∧d≠.ee)∧gK ((iu R l).getLastD R) e (jH e)=0
 | [],R,e=>by simp[Dd,iu]
 | x::l,R,e=>by
  rw[Zj,Dd,Dd,rh l,iu,List.getLastD_cons];exact⟨fun⟨a,b,c,d,f⟩=>⟨⟨a,b,c⟩,d,f⟩,fun⟨⟨a,b,c⟩,d,f⟩=>⟨a,b,c,d,f⟩⟩
def j7{α:Type}(l:List α):l= []∨∃m x,l=m++ [x]:=by
 rcases List.eq_nil_or_concat l with h| ⟨m,x,h⟩
 ·exact .inl h
 ·exact .inr ⟨m,x,by rw[h,List.concat_eq_append]⟩
structure GD(H:jj):Prop where
 rg:H.cM=iu eX.zero H.ez
 ok:Dd eX.zero H.ez
theorem GD.zero:GD jj.zero:=⟨rfl,trivial⟩
def GD.add{H:jj}{e:ed}(c:GD H)(w:kC H)(h:fD H e=0):GD (lM H e):=by
 obtain⟨h1,h2⟩:=CM h;obtain⟨d,we⟩:=uk h1;obtain⟨h3,h4,h5⟩:=CZ h2;unfold lM;split
 case isTrue hu=>
  rcases j7 H.ez with hn| ⟨m,x,hm⟩
  ·exact absurd hn (h4 hu)
  ·have e1:=c.rg;have e2:=c.ok;rw[hm,lh]at e1;rw[hm,rh]at e2;exact⟨by rw[e1,hm,List.dropLast_concat,List.dropLast_concat],by rw[hm,List.dropLast_concat];exact e2.1⟩
 case isFalse hu=>
  have UG:H.now= (iu eX.zero H.ez).getLastD eX.zero:=by rw[jj.now,c.rg]
  refine⟨?_,?_⟩
  ·show H.cM++_=iu eX.zero (H.ez++ [e]);rw[lh,←UG,c.rg]
  ·show Dd eX.zero (H.ez++ [e]);rw[rh,←UG];exact⟨c.ok,⟨d,we,fun z=>hu (by rw[we.jH,z])⟩,h5 hu⟩
theorem yL:∀ (l:List ed) (H:jj) (i:Nat),GD H→kC H→(k9 H l i).2.2=0→GD (k9 H l i).1∧kC (k9 H l i).1
 | [],H,_,c,w,_=>⟨c,w⟩
 | e::l,H,i,c,w,h=>by
  rw[k9]at h ⊢;by_cases hb:fD H e=0
  ·rw[Yd (fun z=>z hb)]at h ⊢;exact yL l _ _ (c.add w hb) (w.add hb) h
  ·rw[Yh hb]at h;exact absurd h hb
def yM{l:List ed}(h: (bU l).2.2=0):GD (bU l).1∧kC (bU l).1:=by
 unfold bU at h ⊢;split at h
 ·exact absurd h De
 case isFalse hl=>
 rw[Yd hl];exact yL l _ _ .zero .zero h
def Cu{R:eX}{e:ed}{d:Kd}(h:gK R e d=0):R.tick≤bG e 0:=by
 unfold gK at h;split at h
 ·exact absurd h De
 ·omega
theorem rf:∀ (l:List ed) (R:eX),Dd R l→∀e∈l,R.tick≤bG e 0
 | [],_,_,e,he=>by cases he
 | x::l,R,h,e,he=>by
  obtain⟨_,h2,h3⟩:=h;have ht:=Cu h2;rcases YH.1 he with rfl| he
  ·exact ht
  ·exact Int.le_trans ht (rf l _ h3 e he)
def Gz(t:Int)(R:eX)(e:ed):eX:=if bG e 0≤t then ke R e (jH e)else R
theorem wy:∀ (l:List ed) (R:eX) (t:Int),(∀e∈l,t < bG e 0)→l.foldl (Gz t) R=R
 | [],_,_,_=>rfl
 | x::l,R,t,h=>by
  have:=h x (YV ..);rw[Z9,Gz,Yd Om];exact wy l R t fun e he=>h e (YI _ he)
theorem rL:∀ (l1 l2:List ed) (R:eX) (e:ed) (t:Int),Dd R (l1++e::l2)→fk R→fk (l1.foldl (Gz t) R)∧(∃d,jG e d∧d≠.ee)∧(bG e 0≤t→gK (l1.foldl (Gz t) R) e (jH e)=0)
 | [],l2,R,e,t,h,w=>⟨w,h.1,fun _=>h.2.1⟩
 | x::l1,l2,R,e,t,h,w=>by
  obtain⟨⟨d,wx,hd⟩,h2,h3⟩:=h;have Q0:=wx.jH;have wn:fk (ke R x (jH x)):=by rw[Q0]at h2 ⊢;exact w.step wx hd h2
  obtain⟨a1,a2,a3⟩:=rL l1 l2 _ e t h3 wn;rw[Z9];by_cases ht:bG x 0≤t
  ·have:Gz t R x=ke R x (jH x):=by rw[Gz,Yh ht]
   rw[this];exact⟨a1,a2,a3⟩
  ·have hx:Gz t R x=R:=by rw[Gz,Yd ht]
   have hl:∀y∈l1,t < bG y 0:=fun y hy=>by
    have:=rf _ _ h3 y (Yb.2 (.inl hy));have hn: (ke R x (jH x)).tick=bG x 0:=rfl;omega
   have he:=rf _ _ h3 e Si;have hn: (ke R x (jH x)).tick=bG x 0:=rfl;rw[hx,wy l1 R t hl];exact⟨w,a2,fun z=>by omega⟩
def k8(l:List ed)(n:Int):Bool:=decide ((l.length:Int)≤n) && l.all fun e=>decide (e.kind.length≤40) && decide (e.names.length≤6) && decide (e.b9.length≤8) && decide (e.text.length≤200) && e.names.all fun x=>decide (x.length≤40)
def bK(c:UInt8):By→List (By)
 | []=>[[]]
 | x::r=>
  if x=c then []::bK c r
  else match bK c r with
   | p::ps=>(x::p)::ps
   | []=>[[x]]
def jL{c:UInt8}:∀{s:By},bK c s≠[]
 | []=>by simp[bK]
 | x::r=>by
  unfold bK;split
  ·simp
  ·split<;>simp
theorem sP{c:UInt8}:∀{s:By},c∉s→bK c s= [s]
 | [],_=>rfl
 | x::r,h=>by
  unfold bK;rw[Yd (fun e=>h (by simp[e])),sP (fun hr=>h (YI _ hr))]
theorem qP{c:UInt8}{q:By}:∀{p:By},c∉p→bK c (p++c::q)=p::bK c q
 | [],_=>by simp[bK]
 | x::r,h=>by
  rw[Zj,bK,Yd (fun e=>h (by simp[e])),qP (fun hr=>h (YI _ hr))]
theorem qO{c:UInt8}:∀{s:By},(bK c s).length=s.count c+1
 | []=>rfl
 | x::r=>by
  have ih:=qO (c:=c) (s:=r);unfold bK;by_cases h:x=c
  ·subst h;rw[Yh rfl,X8,ih,List.count_cons_self]
  ·rw[Yd h,List.count_cons_of_ne h];cases hs:bK c r with
   | nil=>exact absurd hs jL
   | cons p ps=>rw[hs]at ih;simpa using ih
theorem sQ{c:UInt8}:∀{s:By},∀p∈bK c s,p.length≤s.length
 | []=>by simp[bK]
 | x::r=>by
  have ih:=sQ (c:=c) (s:=r);intro p hp;unfold bK at hp;rw[X8];by_cases h:x=c
  ·rw[Yh h]at hp;rcases YH.1 hp with rfl| hp
   ·simp
   ·have:=ih p hp;omega
  ·rw[Yd h]at hp;cases hs:bK c r with
   | nil=>exact absurd hs jL
   | cons q qs=>
    rw[hs]at hp ih;rcases YH.1 hp with rfl| hp
    ·have:=ih q Si;rw[X8];omega
    ·have:=ih p (by simp[hp]);omega
def jf(c:UInt8):List (By)→By
 | []=>[]
 | [p]=>p
 | p::ps=>p++c::jf c ps
def mY{c:UInt8}{p:By}{r:List (By)}(h:r≠[]):jf c (p::r)=p++c::jf c r:=by
 cases r with
 | nil=>exact absurd rfl h
 | cons=>rfl
theorem ju{c:UInt8}:∀{s:By},jf c (bK c s)=s
 | []=>rfl
 | x::r=>by
  have ih:=ju (c:=c) (s:=r);unfold bK;by_cases h:x=c
  ·subst h;rw[Yh rfl];cases hs:bK x r with
   | nil=>exact absurd hs jL
   | cons p ps=>rw[hs]at ih;rw[jf,ih]<;>simp
  ·rw[Yd h];cases hs:bK c r with
   | nil=>exact absurd hs jL
   | cons p ps=>
    rw[hs]at ih;cases ps with
    | nil=>rw[jf]at ih ⊢;rw[ih]
    | cons q qs=>
     rw[jf]at ih ⊢<;>first| (rw[←ih];rfl)| simp
theorem Gd{c:UInt8}:∀{s:By},c∉s→Lib.indexByte s c= -1
 | [],_=>rfl
 | x::r,h=>by
  unfold Lib.indexByte;have h1: (x==c)=false:=by simp;exact fun e=>h (by simp[e])
  rw[h1,Gd (fun hr=>h (YI _ hr))];rfl
theorem Cg{c:UInt8}{q:By}:∀{p:By},c∉p→Lib.indexByte (p++c::q) c=p.length
 | [],_=>by simp[Lib.indexByte]
 | x::r,h=>by
  have ih:=Cg (q:=q) (fun hr=>h (YI _ hr):c∉r);rw[Zj,Lib.indexByte];have h1: (x==c)=false:=by simp;exact fun e=>h (by simp[e])
  rw[h1,ih];have h2: ((r.length:Int)== -1)=false:=Si
  rw[h2];simp
def vM(c:UInt8)(s:By): (c∉s∧Lib.indexByte s c= -1)∨∃p q,c∉p∧s=p++c::q∧Lib.indexByte s c=p.length:=by
 by_cases h:c∈s
 ·right
  obtain⟨p,q,rfl,hp⟩:=List.eq_append_cons_of_mem h;exact⟨p,q,hp,rfl,Cg hp⟩
 ·exact .inl ⟨h,Gd h⟩
def Cy(s:By):Int:=s.foldl (fun n c=>10 * n+ ((c.toNat:Int) - 48)) 0
def iF(s:By):Bool:=!decide (s.length=0) && decide (s.length≤9) && !(decide (1 < s.length) && decide (s.head? =some 48)) && s.all fc
def rF(s:By):Bool:=!decide (s= []) && s.all fc
def kS(s:By):Int:=if iF s then Cy s else 0
def Ez:Nat→Nat→By
 | 0,u=>[UInt8.ofNat (48+u)]
 | f+1,u=>
  match Nat.blt u 10 with
  | true=>[UInt8.ofNat (48+u)]
  | false=>Ez f (u / 10)++ [UInt8.ofNat (48+u % 10)]
theorem za:∀ (f u:Nat),u < 10^ (f+1)→Ez f u=Lib.decDigits u
 | 0,u,h=>by rw[Lib.decDigits,dif_pos (by simpa using h)];rfl
 | f+1,u,h=>by
  unfold Ez;cases hb:Nat.blt u 10 with
  | true=>rw[Lib.decDigits,dif_pos (by rw[Nat.blt_eq]at hb;exact hb)]
  | false=>
   have hn:¬u < 10:=fun x=>by rw[←Nat.blt_eq,hb]at x;cases x
   rw[Lib.decDigits,dif_neg hn,za f (u / 10) (by rw[Nat.pow_succ]at h;omega)]
def jw(n:Int):By:=Ez n.toNat n.toNat
def kr(n:Int):jw n=Lib.decDigits n.toNat:=za _ _ (Nat.lt_trans (Nat.lt_succ_self _) (Nat.lt_pow_self De))
def ia(s:By):Int:=s.foldl (fun x c=>(339 * x+ (c.toNat:Int)).tmod 9999749) 1
def nC(s:By):By:=List.replicate (7 - (jw (ia s)).length) 48++jw (ia s)
def wo(e:ed):List (By):=[jw e.num,e.kind]++e.names++e.b9.map jw
def iG(e:ed):By:=jf 32 (wo e)
def vj(e:ed):By:=iG e++ [35]++nC (iG e)++ [10]
def vE(l:List ed):By:=(l.map vj).flatten
def bO:List (By)→Bool→By×List (By)×Bool
 | [],_=>([],[],true)
 | w::r,wr=>if w= []then([],[],true)else(w,r,wr)
def c8:Nat→List (By)→Bool→List (By)×List (By)×Bool
 | 0,ws,b=>([],ws,b)
 | n+1,ws,b=>((bO ws b).1:: (c8 n (bO ws b).2.1 (bO ws b).2.2).1,(c8 n (bO ws b).2.1 (bO ws b).2.2).2)
def fu:Nat→List (By)→Bool→List Int×List (By)×Bool
 | 0,ws,b=>([],ws,b)
 | n+1,ws,b=>(kS (bO ws b).1:: (fu n (bO ws b).2.1 ((bO ws b).2.2|| !iF (bO ws b).1)).1,(fu n (bO ws b).2.1 ((bO ws b).2.2|| !iF (bO ws b).1)).2)
def lD:ed:=⟨0,[],[],[],[]⟩
def ep(ws:List (By)):ed×Bool:=
 match gJ (bO ws false).1 with
 | none=>(lD,false)
 | some d=>
  let n:=c8 (bL d).length (bO ws false).2.1 (bO ws false).2.2
  let v:=fu (cB d) n.2.1 n.2.2
  (⟨0,bu d,n.1,v.1,[]⟩,!v.2.2 && decide (v.2.1.length=0))
def fe(c:UInt8):By→By×By×Bool
 | []=>([],[],false)
 | x::r=>if x=c then([],r,true)else(x:: (fe c r).1,(fe c r).2)
def fK(s:By)(n:Int):ed×Int:=
 if s.length < 8 then(lD,25)else
 if s.getD (s.length - 8) 0≠35∨¬rF (s.drop (s.length - 7))=true then(lD,25)else
 if nC (s.take (s.length - 8))≠s.drop (s.length - 7)then(lD,27)else
 let h:=fe 32 (s.take (s.length - 8))
 let e:=ep (bK 32 h.2.1)
 if !iF h.1|| !e.2|| decide (gL { e.1 with num:=kS h.1 }≠0)then(lD,25)else
 ({ e.1 with num:=kS h.1 },bV (decide (kS h.1≠n)) 11)
def qZ:Nat→By→List ed→Nat→List ed×Int×Int
 | 0,_,l,a=>(l,(a:Int),0)
 | f+1,s,l,a=>
  if s= []then(l,(a:Int),0)else
  if !(fe 10 s).2.2 then(l,(a:Int),28)else
  let e:=fK (fe 10 s).1 ((l.length:Int)+1)
  if e.2≠0 then(l,(a:Int),e.2)else qZ f (fe 10 s).2.1 (l++ [e.1]) (a+ (fe 10 s).1.length+1)
def lq(s:By):List ed×Int×Int:=if 1000000 < s.length then([],0,26)else qZ (s.length+1) s [] 0
def kO(w:By):Option (Nat×Bool×Nat):=
 if w= [108,101,102,116]then some (0,true,4)else
 if w= [102,114,111,109]then some (1,true,5)else
 if w= [108,105,110,101,115]then some (2,true,3)else
 if w= [117,110,115,97,102,101]then some (3,false,2)else
 if w= [116,97,112,101,115]then some (4,true,2)else
 if w= [114,101,108,101,97,115,101,100]then some (5,false,5)else
 if w= [119,97,110,116]then some (6,true,0)else none
def sd(l:List qk):List (By):=(l.map fun p=>if p.rel then [p.name,jw p.nf]else []).flatten
def kv(R:eX)(n:By):Nat→List (By)
 | 0=>(cS (gu R n).bz 0).map jw
 | 1=>sX R n
 | 2=>(iJ R n).map gM.name
 | 3=>j6 R R.tick
 | 4=>(qR R n).aI
 | 5=>sd R.aQ
 | _=>[jw (zR R n).length,jw (dJ R n).want,if(dJ R n).acc then [97,99,99,101,112,116,101,100]else [111,112,101,110]]
def yl(l:List (By)):By:=if l= []then [110,111,110,101]else jf 32 l
def nj(R:eX)(ws:List (By))(q:Nat×Bool×Nat):By×Int:=
 let n:=if q.2.1=true∧ws.length=2 then ws.getD 1 []else []
 if(q.2.1=true∧¬ (ws.length=2∧n≠[]))∨(q.2.1=false∧ws.length≠1)then([],25)else
 if q.2.1=true∧dG R q.2.2 n=false then([],10)else(yl (kv R n q.1),0)
def Ae(H:jj)(s:By):jj×By×Int:=
 if 4096 < s.length then(H,[],26)else
 if s= []then(H,[],25)else
 match kO ((bK 32 s).headD [])with
 | some q=>(H,nj H.now (bK 32 s) q)
 | none=>
  match gJ ((bK 32 s).headD [])with
  | none=>(H,[],13)
  | some _=>
   if !(ep (bK 32 s)).2 then(H,[],25)else
   if 1000≤H.db.length then(H,[],5)else
   let e:={ (ep (bK 32 s)).1 with num:=(H.db.length:Int)+1 }
   if fD H e≠0 then(H,[],fD H e)else(lM H e,[100,111,110,101,32]++jw e.num,0)
structure C1(P:Program):Prop where
 ib:∀ (args:Array Value) (w:World),(callFunc 288 args).run P w= ((Extern.BytealgIndexByte.indexByte args).run P w).andThen fun v w'=>.ok (.value v) w'
 ct:∀ (args:Array Value) (w:World),(callFunc 262 args).run P w= ((Extern.BytealgCount.count args).run P w).andThen fun v w'=>.ok (.value v) w'
def AX(c:UInt8): (c.toNat:Int).toNat.toUInt8=c:=Si
def qQ{s}{n:Nat}{kk}(hn:n≤s.length):uV (.str s) none (some (.int kk (n:Int)))=some (.str (s.take n)):=by
 simp only[uV,jy hn,Zu,Nat.sub_zero]
def j8{s}{n:Nat}{kk}(hn:n≤s.length):uV (.str s) (some (.int kk (n:Int))) none=some (.str (s.drop n)):=by
 simp only[uV,ml hn];rw[YN Si]
def tR{p r kk}:uV (.str (p++r)) none (some (.int kk (p.length:Int)))=some (.str p):=by
 rw[qQ Si];simp
def nI{p r c kk}:uV (.str (p++c::r)) (some (.int kk ((p.length+1:Nat):Int))) none=some (.str r):=by
 rw[j8 Si];simp
def yI{α:Type}{don:List α}{z q:α}{m k:Nat}(hk:don.length=k)(hm:0 < m): (don++List.replicate m z).set k q= (don++ [q])++List.replicate (m - 1) z:=by
 subst hk;obtain⟨n,rfl⟩:∃n,m=n+1:=⟨m - 1,Om⟩;rw[ZG,YX _ _ (Yg _),Zb];simp
section
variable {P:Program} (X:C1 P) {h:ah}
include X
def MW(s:By)(c:UInt8):bF P (.func (.func 288) [] []) [.str s,.int .u8 c.toNat] h (fun v h'=>v= .int .i64 (Lib.indexByte s c)∧h' =h):=by
 refine⟨_,[],?_,rfl,Si⟩;rw[Yu];intro m w cv vs hr hf hargs;rw[VR]at hf;obtain⟨f',a',c',rfl,hfn,ha,hc⟩:=hf;simp only[AE]at hfn;subst hfn;rw[bB]at ha hc;subst ha;subst hc;obtain⟨v1,vs1,rfl,h1,hargs⟩:=aR.1 hargs;obtain⟨v2,vs2,rfl,h2,hargs⟩:=aR.1 hargs;rw[bB]at hargs;subst hargs;have h1:v1= .string ⟨⟨s⟩⟩:=h1;have h2:v2= .int .u8 (c.toNat:Int):=h2;subst h1;subst h2;refine⟨_,fun w=>rfl,?_⟩;simp only[invoke];rw[X.ib];have e:=Lib.run_indexByteString (P:=P) ⟨⟨s⟩⟩ (c.toNat:Int) w;rw[AX]at e;have e': (Extern.BytealgIndexByte.indexByte (#[]++#[.string ⟨⟨s⟩⟩,.int .u8 (c.toNat:Int)]++#[])).run P w= .ok (.int .i64 (Lib.indexByte s c)) w:=by simpa using e
 exact PZ
def MX(s:By)(c:UInt8):bF P (.func (.func 262) [] []) [.str s,.int .u8 c.toNat] h (fun v h'=>v= .int .i64 (s.count c:Nat)∧h' =h):=by
 refine⟨_,[],?_,rfl,Si⟩;rw[Yu];intro m w cv vs hr hf hargs;rw[VR]at hf;obtain⟨f',a',c',rfl,hfn,ha,hc⟩:=hf;simp only[AE]at hfn;subst hfn;rw[bB]at ha hc;subst ha;subst hc;obtain⟨v1,vs1,rfl,h1,hargs⟩:=aR.1 hargs;obtain⟨v2,vs2,rfl,h2,hargs⟩:=aR.1 hargs;rw[bB]at hargs;subst hargs;have h1:v1= .string ⟨⟨s⟩⟩:=h1;have h2:v2= .int .u8 (c.toNat:Int):=h2;subst h1;subst h2;refine⟨_,fun w=>rfl,?_⟩;simp only[invoke];rw[X.ct];have e:=Lib.run_countString (P:=P) ⟨⟨s⟩⟩ (c.toNat:Int) w;rw[AX]at e;have e': (Extern.BytealgCount.count (#[]++#[.string ⟨⟨s⟩⟩,.int .u8 (c.toNat:Int)]++#[])).run P w= .ok (.int .i64 (s.count c:Nat)) w:=by simpa [Lib.countByte]using e
 exact PZ
end
attribute [local irreducible] WP WC WE WB WR WF WL WG fT
section
variable {P:Program} (T:fy P) (X:C1 P) {h:ah}
include T X
def r272(s:By)(c:UInt8):ay P 272 [.str s,.int .u8 c.toNat] h (fun v _=>v= .int .i64 (Lib.indexByte s c)):=by
 refine .of T.mix T.c272 ?_;unfold fn272 zC;refine Wn ?_;refine WF.val (MW X s c) ?_;rintro _ g ⟨rfl,hg⟩;exact Wn Tv
def r221(s:By)(c:UInt8):ay P 221 [.str s,.str [c]] h (fun v _=>v= .int .i64 (s.count c:Nat)):=by
 refine .of T.mix T.c221 ?_;unfold fn221;simp only[aW,bd,bC,bD,reduceAdd,reduceMul,reduceLeDiff,reduceEqDiff,Yv,show decide (((1:Nat):Int)=0)=false from rfl,show decide (((1:Nat):Int)=1)=true from rfl,vK];refine WF.val (MX X s c) ?_;rintro _ g ⟨rfl,hg⟩;exact Wn Tv
def r253(s:By)(c:UInt8):ay P 253 [.str s,.str [c]] h (fun v _=>v= .int .i64 (Lib.indexByte s c)):=by
 refine .of T.mix T.c253 ?_;unfold fn253;by_cases hs: [c]=s
 ·have d1:decide ([c]=s)=true:=X7 hs;have e:Lib.indexByte s c=0:=by rw[←hs];simp[Lib.indexByte]
  simp only[aW,bd,bC,bD,reduceAdd,reduceMul,reduceLeDiff,reduceEqDiff,Yv,show decide (((1:Nat):Int)=0)=false from rfl,d1,e]
 ·have d1:decide ([c]=s)=false:=X3 hs;simp only[aW,bd,bC,bD,reduceAdd,reduceMul,reduceLeDiff,reduceEqDiff,Yv,show decide (((1:Nat):Int)=0)=false from rfl,show decide (((1:Nat):Int)=1)=true from rfl,d1,vK];refine WF.ce T.c272 (r272 T X s c) fun g=>?_
  exact Wn Tv
def r222(s:By)(c:UInt8):ay P 222 [.str s,.str [c]] h (fun v _=>v= .int .i64 (Lib.indexByte s c)):=by
 refine .of T.mix T.c222 ?_;unfold fn222 zC;refine Wn ?_;refine WF.ce T.c253 (r253 T X s c) fun g=>?_
 exact Wn Tv
set_option maxRecDepth 10000 in
def r128(s:By)(c:UInt8)(hs:s.length≤2^40):ay P 128 [.str s,.str [c],.int .i64 0,.int .i64 (-1)] h (fun v h'=>aK h' v 1 ((bK c s).map ao)):=by
 refine .of T.mix T.c128 ?_;obtain⟨ts,QV⟩:∃ts,ts=aU 66 [.str s,.str [c],.int .i64 0,.int .i64 (-1)]:=⟨_,rfl⟩;have hlen:ts.length=66:=by rw[QV];rfl
 have t0:slot ts 0= .str s:=by rw[QV];rfl
 have t1:slot ts 1= .str [c]:=by rw[QV];rfl
 have t2:slot ts 2= .int .i64 0:=by rw[QV];rfl
 have t3:slot ts 3= .int .i64 (-1):=by rw[QV];rfl
 unfold fn128;show WC P bR _ [] (aU 66 [.str s,.str [c],.int .i64 0,.int .i64 (-1)]) h _;rw[←QV];clear QV;have hcnt:s.count c≤s.length:=List.count_le_length;have w1:IntKind.i64.wrap ((s.count c:Int)+1)= ((s.count c+1:Nat):Int):=by rw[bo Om Om];omega
 have w2:IntKind.i64.wrap ((s.length:Int)+1)= ((s.length+1:Nat):Int):=by rw[bo Om Om];omega
 have e1:min ((s.count c+1:Nat):Int) ((s.length+1:Nat):Int)= ((s.count c+1:Nat):Int):=Om
 have w3:IntKind.i64.wrap (((s.count c+1:Nat):Int) - 1)= ((s.count c:Nat):Int):=by rw[bo Om Om];omega
 have dn:decide ([c]= ([] :By))=false:=X3 Si;have d1:decide ((-1:Int)=0)=false:=rfl;have d2:decide (-1 < (0:Int))=true:=rfl;refine Rs (A7 t0 t1 t2 t3 @dn @d1 @d2) ?_;refine WF.ce T.c221 (r221 T X s c) fun g1=>?_
 repeat (first| simp (config:={ maxSteps:=1000000 }) only[aW,bd,bC,bD,reduceAdd,reduceMul,reduceLeDiff,reduceEqDiff,bE,hlen,Yo,Ys,t0,t1,t2,t3,w1,w2,e1,w3,nT (es:=1) (w:=16) (N0:=(h++g1).length) (n:=s.count c+1) (z:=[AV.str []]) (k:=.i64) (k':=.i64) Om Om]| simp (config:={ maxSteps:=1000000 }) (disch:=first| (simp only[X2,X8,X9]<;>omega)| rfl| omega| fail) only[fU,aW,bd,bC,bD,reduceAdd,reduceMul,reduceLeDiff,reduceEqDiff,bE,hlen,Yo,Ys,t0,t1,t2,t3,w1,w2,e1,w3,nT (es:=1) (w:=16) (N0:=(h++g1).length) (n:=s.count c+1) (z:=[AV.str []]) (k:=.i64) (k':=.i64) Om Om])
 have hF:=Fr.AO (N:=h.length) (n:=s.count c+1) (h:=h++g1) (z:=[AV.str []]) (es:=1) Si rfl;obtain⟨sv,hsv⟩:∃sv,sv=AV.slice (h++g1).length 0 (s.count c+1) 1:=⟨_,rfl⟩;rw[←hsv]at hF ⊢;have er:List.replicate (s.count c+1) [AV.str []]= (List.replicate (s.count c+1) ([] :By)).map ao:=by simp[ao]
 rw[er,X4]at hF;rw[X4];refine WL.inv T.mix (fun n ts' h'=>∃ (k:Nat) (don:List (By)) (q:By) (g':ah),don.length=k∧bK c s=don++bK c q∧k+q.count c=s.count c∧n=s.count c - k∧h' =h++g'∧Fr h.length h' sv 1 ((don++List.replicate (s.count c+1 - k) ([] :By)).map ao)∧ts'.length=66∧slot ts' 0= .str q∧slot ts' 1= .str [c]∧slot ts' 2= .int .i64 0∧slot ts' 3= .int .i64 ((s.count c:Nat):Int)∧slot ts' 9=sv∧slot ts' 10= .int .i64 k) (s.count c)
  ⟨0,[],s,_,rfl,rfl,Om,rfl,rfl,hF,(Sq t0),(Sq t0),(Sq t1),(Sq t2),(Sq t0),(Sq t0),hP⟩ ?_
 rintro _ ts' _ ⟨k,don,q,g',hdl,Vh,hkc,rfl,rfl,hF',Sa,u0,u1,u2,u3,u9,WY⟩;clear hlen t0 t1 t2 t3;have hlen:=Sa;have Vn:k < (don++List.replicate (s.count c+1 - k) ([] :By)).length:=by simp;omega
 have hql:q.length≤s.length:=by
  have e1:=ju (c:=c) (s:=s);have:∀ (d:List (By)) (z:List (By)),(jf c z).length≤(jf c (d++z)).length:=by
   intro d
   induction d with
   | nil=>intro z;exact Yg _
   | cons x d ih=>
    intro z;by_cases hz:d++z= []
    ·have:z= []:=by simp at hz;exact hz.2
     subst this;simp[jf]
    ·rw[Zj,mY hz];have:=ih z;simp;omega
  have:=this don (bK c q);rw[←Vh,ju,ju]at this;exact this
 rcases vM c q with⟨hno,hix⟩| ⟨p,q',hp,hq,hix⟩
 ·have hc0:q.count c=0:=List.count_eq_zero.2 hno;have e3:¬ (k:Int)< ((s.count c:Nat):Int):=Om
  have ek:s.count c+1 - k=1:=Om
  have ixk:=hF'.aX.dI (kk:=.i64) Vn;have w4:IntKind.i64.wrap ((k:Int)+1)= ((k+1:Nat):Int):=by rw[bo Om Om];omega
  refine Rs (A9 @u0 @u1 @u2 @u3 @u9 @WY e3 @Yp @ixk) ?_;refine WR.vm (h0:=h) (off:=0) (x':=q) hF' Vn De rfl (by simp[ao]) ?_;intro g3 XH WD _;rw[yI hdl Om,ek]at WD;simp only[Zb,aav,Yu]at WD;have esp:don++ [q]=bK c s:=by rw[Vh,sP hno]
  rw[esp]at WD;have Td:iR none (some (AV.int .i64 ((k+1:Nat):Int))) (bK c s).length=some (0,k+1):=jy (by rw[←esp];simp;omega);obtain⟨s',es',QW⟩:=WD.aX.FT Td;refine Rs (A8 @u0 @u1 @u2 @u3 @u9 @WY @w4 @es') ?_;have et:List.take (k+1 - 0) (List.drop 0 (bK c s))=bK c s:=by
   rw[Zu,YN (by rw[←esp];simp;omega)]
  rw[et]at QW;exact QW
 ·have hcq:q.count c=q'.count c+1:=by rw[hq,List.count_append,List.count_eq_zero.2 hp,List.count_cons_self];omega
  have e3: (k:Int)< ((s.count c:Nat):Int):=Om
  refine Rs (A8 @u0 @u1 @u2 @u3 @u9 @WY e3 @Yk) ?_;refine WF.ce T.c222 (r222 T X q c) fun g2=>?_
  have ixk:=(hF'.app g2).aX.dI (kk:=.i64) Vn;have w4:IntKind.i64.wrap ((k:Int)+1)= ((k+1:Nat):Int):=by rw[bo Om Om];omega
  have T6:p.length < q.length:=by rw[hq];simp
  have w5:IntKind.i64.wrap ((p.length:Int)+0)= (p.length:Int):=by rw[bo Om Om];omega
  have w6:IntKind.i64.wrap ((p.length:Int)+ ((1:Nat):Int))= ((p.length+1:Nat):Int):=by rw[bo Om Om];omega
  have dp:decide ((p.length:Int)< 0)=false:=X3 Om;have hF2:=hF'.app g2;rw[X4]at hF2 ⊢;rw[hix];subst hq
  repeat (first| simp (config:={ maxSteps:=1000000 }) only[aW,bd,bC,bD,reduceAdd,reduceMul,reduceLeDiff,reduceEqDiff,bE,hlen,Yo,Ys,u0,u1,u2,u3,u9,WY,dp,w5,ixk,tR,Yv,w6,nI]| simp (config:={ maxSteps:=1000000 }) (disch:=first| (simp only[X2,X8,X9]<;>omega)| rfl| omega| fail) only[fU,aW,bd,bC,bD,reduceAdd,reduceMul,reduceLeDiff,reduceEqDiff,bE,hlen,Yo,Ys,u0,u1,u2,u3,u9,WY,dp,w5,ixk,tR,Yv,w6,nI])
  refine WR.vm (h0:=h) (off:=0) (x':=p) hF2 Vn De rfl (by simp[ao]) ?_;intro g3 XH WD _;rw[yI hdl Om]at WD
  repeat (first| simp (config:={ maxSteps:=1000000 }) only[aW,bd,bC,bD,reduceAdd,reduceMul,reduceLeDiff,reduceEqDiff,bE,hlen,Yo,Ys,u0,u1,u2,u3,u9,WY,Yv,w6,nI,w4]| simp (config:={ maxSteps:=1000000 }) (disch:=first| (simp only[X2,X8,X9]<;>omega)| rfl| omega| fail) only[fU,aW,bd,bC,bD,reduceAdd,reduceMul,reduceLeDiff,reduceEqDiff,bE,hlen,Yo,Ys,u0,u1,u2,u3,u9,WY,Yv,w6,nI,w4])
  have em:s.count c+1 - k - 1=s.count c+1 - (k+1):=Om
  rw[em]at WD;exact⟨s.count c - (k+1),Om,k+1,don++ [p],q',g3,by simp[hdl],by rw[Vh,qP hp];simp,Om,rfl,rfl,WD,rfl,rfl⟩
def r64(s:By)(c:UInt8)(hs:s.length≤2^40):ay P 64 [.str s,.str [c]] h (fun v h'=>aK h' v 1 ((bK c s).map ao)):=by
 refine .of T.mix T.c64 ?_;unfold fn64;refine Wn ?_;refine WF.res T.c128 (r128 T X s c hs) ?_;intro v g hv;refine Wn ?_;exact hv
omit T X in
theorem zb{c}:∀{s},c∉s→fe c s= (s,[],false)
 | [],_=>rfl
 | x::r,h=>by
  simp only[YH,not_or]at h;rw[fe,Yd (fun e=>h.1 e.symm),zb h.2]
omit T X in
theorem wj{c}:∀{p q},c∉p→fe c (p++c::q)= (p,q,true)
 | [],q,_=>by rw[ZJ,fe,Yh rfl]
 | x::r,q,h=>by
  simp only[YH,not_or]at h;rw[Zj,fe,Yd (fun e=>h.1 e.symm),wj h.2]
def r188(s:By)(c:UInt8)(hs:s.length≤2^40):ay P 188 [.str s,.str [c]] h (fun v _=>v= .dL [.str (fe c s).1,.str (fe c s).2.1,.bool (fe c s).2.2]):=by
 refine .of T.mix T.c188 ?_;unfold fn188;refine Wn ?_;refine WF.ce T.c253 (r253 T X s c) fun g=>?_
 rcases vM c s with⟨hno,hix⟩| ⟨p,q,hp,hq,hix⟩
 ·refine Ws (A2 @hix (show decide ((0:Int)≤-1)=false from rfl)) ?_;rw[zb hno]
 ·have d1:decide ((0:Int)≤(p.length:Int))=true:=X7 Om;have T6:p.length < s.length:=by rw[hq];simp
  have w6:IntKind.i64.wrap ((p.length:Int)+ ((1:Nat):Int))= ((p.length+1:Nat):Int):=by rw[bo Om Om];omega
  rw[hix];subst hq;simp only[aW,bd,bC,bD,reduceAdd,reduceMul,reduceLeDiff,reduceEqDiff,d1,Yv,w6,tR,nI];rw[wj hp]
def r98(s:By)(c:UInt8)(hs:s.length≤2^40):ay P 98 [.str s,.str [c]] h (fun v _=>v= .dL [.str (fe c s).1,.str (fe c s).2.1,.bool (fe c s).2.2]):=by
 refine .of T.mix T.c98 ?_;unfold fn98;refine Wn ?_;refine WF.ce T.c188 (r188 T X s c hs) fun g=>?_
 exact Wn Tv
end
def Pw(h:ah):Prop:=∃mu tl,h[2]? =some (.cells (Lib.pow10Tab.map (AV.int .u64)) mu tl)
def Pw.ext{h k}(o:Pw h)(e:Ext h k):Pw k:=by
 obtain⟨mu,tl,hb⟩:=o;exact⟨mu,tl,e.some hb⟩
structure qj(P:Program):Prop where
 itoa:∀{h:ah} {n:Int},-9223372036854775808≤n→n≤9223372036854775807→Pw h→ay P 113 [.i n] h (fun v _=>v= .str (Lib.itoa n))
 join:∀{h:ah} {s:AV} {sep:By} {xs:List (By)},aK h s 1 (xs.map ao)→(Lib.join xs sep).length≤140737488355328∧xs.length≤140737488355328→ay P 114 [s,.str sep] h (fun v _=>v= .str (Lib.join xs sep))
 atoi:∀{h:ah} {s:By},s.all fc=true→s≠[]→s.length≤9→ay P 254 [.str s] h (fun v _=>v= .dL [.i (Cy s),.kf])
 rep:∀{h:ah} {n:Nat},n≤7→ay P 252 [.str [48],.i (n:Nat)] h (fun v _=>v= .str (List.replicate n 48))
def gx{n}(h:0≤n):Lib.itoa n=jw n:=by rw[kr];unfold Lib.itoa;rw[Yd Om]
theorem l9:∀{k u},u < 10^ (k+1)→(Lib.decDigits u).length≤k+1
 | 0,u,h=>by rw[Lib.decDigits,dif_pos (by simpa using h)];simp
 | k+1,u,h=>by
  by_cases hu:u < 10
  ·rw[Lib.decDigits,dif_pos hu];simp
  ·rw[Lib.decDigits,dif_neg hu,X2];have:=l9 (k:=k) (u:=u / 10) (by rw[Nat.pow_succ]at h;omega);simp;omega
def ko{c}:fc c=true↔48≤c.toNat∧c.toNat≤57:=by simp[fc]
def mM{α:Type}{s:List α}{k:Nat}(hk:k < s.length):s.take (k+1)=s.take k++ [s[k]]:=by
 rw[YM,X6 hk];rfl
def gF(sw:AV)(wr:Bool):ak:=.b [sw,.bool wr]
section
variable {P:Program} (T:fy P) {h A B:ah}
include T
set_option maxRecDepth 10000 in
def r189(s:By)(hs:s.length≤2^40):ay P 189 [.str s] h (fun v _=>v= .bool (rF s)):=by
 refine .kM 18 T.mix T.c189 ?_;intro ts hlen t0;unfold fn189;refine Rs t0 ?_;refine WL.inv T.mix (fun n ts' h'=>∃k:Nat,k≤s.length∧n=s.length - k∧h' =h++ [.iter s k]∧(s.take k).all fc=true∧ts'.length=18∧slot ts' 0= .str s∧slot ts' 6= .ptr h.length 0) s.length
  ⟨0,Om,rfl,rfl,rfl,(Sq t0),(Sq t0),(Sq t0)⟩ ?_
 rintro _ ts' _ ⟨k,hk,rfl,rfl,hd,Sa,u0,u6⟩;clear hlen t0;have hlen:=Sa;by_cases hlt:k < s.length
 ·obtain⟨c,w,Tk,hcw⟩:∃c w,Utf8.decode ⟨⟨s⟩⟩ k= (c,w)∧(c=s[k].toNat∧w=1∧s[k].toNat < 128∨128≤c∧128≤s[k].toNat):=by
   by_cases hc:s[k].toNat < 128
   ·exact⟨_,_,dec_lt hlt hc,.inl ⟨rfl,rfl,hc⟩⟩
   ·exact z194
  have hall:fc s[k]=false→AV.bool false=AV.bool (rF s):=fun hx=>by
   have:s.all fc=false:=by rw[List.all_eq_false];exact⟨s[k],Yi hlt,by simp[hx]⟩
   simp only[rF,this,Bool.and_false]
  by_cases a5: (48:Int)≤c
  ·by_cases a6: (c:Int)≤57
   ·have hc:c=s[k].toNat∧w=1:=Om
    obtain⟨rfl,rfl⟩:=hc;have hy:fc s[k]=true:=ko.2 Om;have d1:decide ((s[k].toNat:Int)< 48)=false:=X3 Om;have d2:decide ((57:Int)< (s[k].toNat:Int))=false:=X3 Om
    repeat (first| simp (config:={ maxSteps:=1000000 }) only[aW,bd,bC,bD,reduceAdd,reduceMul,reduceLeDiff,reduceEqDiff,bE,hlen,Yo,Ys,u0,u6,dV,hlt,Ys,Tk,d1,d2]| simp (config:={ maxSteps:=1000000 }) (disch:=first| (simp only[X2,X8,X9]<;>omega)| rfl| omega| fail) only[fU,aW,bd,bC,bD,reduceAdd,reduceMul,reduceLeDiff,reduceEqDiff,bE,hlen,Yo,Ys,u0,u6,dV,hlt,Ys,Tk,d1,d2])
    refine⟨s.length - (k+1),Om,k+1,Om,rfl,rfl,?_,trivial⟩;rw[mM hlt,List.all_append,hd];simp[hy]
   ·have d1:decide ((c:Int)< 48)=false:=X3 Om;have d2:decide ((57:Int)< (c:Int))=true:=X7 Om
    repeat (first| simp (config:={ maxSteps:=1000000 }) only[aW,bd,bC,bD,reduceAdd,reduceMul,reduceLeDiff,reduceEqDiff,bE,hlen,Yo,Ys,u0,u6,dV,hlt,Ys,Tk,d1,d2]| simp (config:={ maxSteps:=1000000 }) (disch:=first| (simp only[X2,X8,X9]<;>omega)| rfl| omega| fail) only[fU,aW,bd,bC,bD,reduceAdd,reduceMul,reduceLeDiff,reduceEqDiff,bE,hlen,Yo,Ys,u0,u6,dV,hlt,Ys,Tk,d1,d2])
    exact JR
  ·have d1:decide ((c:Int)< 48)=true:=X7 Om
   repeat (first| simp (config:={ maxSteps:=1000000 }) only[aW,bd,bC,bD,reduceAdd,reduceMul,reduceLeDiff,reduceEqDiff,bE,hlen,Yo,Ys,u0,u6,dV,hlt,Ys,Tk,d1]| simp (config:={ maxSteps:=1000000 }) (disch:=first| (simp only[X2,X8,X9]<;>omega)| rfl| omega| fail) only[fU,aW,bd,bC,bD,reduceAdd,reduceMul,reduceLeDiff,reduceEqDiff,bE,hlen,Yo,Ys,u0,u6,dV,hlt,Ys,Tk,d1])
   exact JR
 ·have ek:k=s.length:=Om
  rw[ek,YF]at hd
  repeat (first| simp (config:={ maxSteps:=1000000 }) only[aW,bd,bC,bD,reduceAdd,reduceMul,reduceLeDiff,reduceEqDiff,bE,hlen,Yo,Ys,u0,u6,dV,hlt,Yo]| simp (config:={ maxSteps:=1000000 }) (disch:=first| (simp only[X2,X8,X9]<;>omega)| rfl| omega| fail) only[fU,aW,bd,bC,bD,reduceAdd,reduceMul,reduceLeDiff,reduceEqDiff,bE,hlen,Yo,Ys,u0,u6,dV,hlt,Yo])
  simp only[rF,hd,Bool.and_true,decide_not]
omit T in
theorem Ag{s}:iF s= (rF s && decide (s.length≤9) && !(decide (1 < s.length) && decide (s.head? =some 48))):=by
 unfold iF rF;cases s with
 | nil=>rfl
 | cons x r=>cases (x::r).all fc<;>cases decide ((x::r).length≤9)<;>simp
set_option maxRecDepth 10000 in
def r190(Z:qj P)(s:By)(hs:s.length≤2^40):ay P 190 [.str s] h (fun v _=>v= .dL [.i (kS s),.bool (iF s)]):=by
 refine .kM 30 T.mix T.c190 ?_;intro ts hlen t0;unfold fn190;refine Rs t0 ?_;refine WF.ce T.c189 (r189 T s hs) fun g=>?_
 have bad:iF s=false→AV.dL [.i 0,.bool false]=AV.dL [.i (kS s),.bool (iF s)]:=fun hb=>by unfold kS;rw[hb];rfl
 have e0:=Ag (s:=s);cases hd:rF s with
 | false=>
  rw[hd]at e0;refine Rs (A3 t0 @hd @Yz) ?_;exact bad (by rw[e0];rfl)
 | true=>
  rw[hd]at e0;have Rr:=hd;unfold rF at Rr;simp only[YD,Zt,ZT]at Rr;by_cases h9:9 < s.length
  ·have d9:decide ((9:Int)< s.length)=true:=X7 Om;have q9:decide (s.length≤9)=false:=X3 Om;rw[q9]at e0;refine Rs (A4 t0 @hd @Yw @d9) ?_;exact bad (by rw[e0];rfl)
  ·have d9:decide ((9:Int)< s.length)=false:=X3 Om;have q9:decide (s.length≤9)=true:=X7 Om;rw[q9]at e0;obtain⟨c,r,rfl⟩:∃c r,s=c::r:=by cases s with| nil=>exact absurd rfl Rr.1| cons c r=>exact⟨c,r,rfl⟩
   by_cases h1:1 < (c::r).length
   ·have d1:decide ((1:Int)< ((c::r).length:Int))=true:=X7 Om;have q1:decide (1 < (c::r).length)=true:=X7 h1;rw[q1]at e0;by_cases h2:c=48
    ·have d2:decide ((c.toNat:Int)=48)=true:=by rw[h2];rfl
     have q2:decide ((c::r).head? =some 48)=true:=by rw[h2];rfl
     rw[q2]at e0;refine Rs (A7 t0 @hd @Yw @d9 @d1 @vK @d2) ?_;exact bad (by rw[e0];rfl)
    ·have d2:decide ((c.toNat:Int)=48)=false:=X3 fun e=>h2 (UInt8.toNat_inj.1 (by simpa using (by omega:c.toNat=48)))
     have q2:decide ((c::r).head? =some 48)=false:=X3 (by simp[h2]);rw[q2]at e0;have e1:iF (c::r)=true:=by rw[e0];rfl
     refine Rs (A7 t0 @hd @Yw @d9 @d1 @vK @d2) ?_;exact JS
   ·have d1:decide ((1:Int)< ((c::r).length:Int))=false:=X3 Om;have q1:decide (1 < (c::r).length)=false:=X3 h1;rw[q1]at e0;have e1:iF (c::r)=true:=by rw[e0];rfl
    refine Rs (A5 t0 @hd @Yw @d9 @d1) ?_;exact JS
set_option maxRecDepth 10000 in
def HW{sw ws wr}(hs:aK A sw 1 (ws.map ao)):
  da P 207 [.ptr A.length 0] (A++ [gF sw wr]++B) (fun v h'=>∃sw',v= .str (bO ws wr).1∧h' =A++ [gF sw' (bO ws wr).2.2]++B∧aK A sw' 1 ((bO ws wr).2.1.map ao)):=by
 refine .of T.mix T.c207 ?_;obtain⟨ts,QV⟩:∃ts,ts=aU 40 [.ptr A.length 0]:=⟨_,rfl⟩;have hlen:ts.length=40:=by rw[QV];rfl
 have t0:slot ts 0= .ptr A.length 0:=by rw[QV];rfl
 unfold fn207;show WC P bR _ [] (aU 40 [.ptr A.length 0]) (A++ [gF sw wr]++B) _;rw[←QV];clear QV;unfold gF;have c0:=hs.one;have hsE:∀{k:ah},aK (A++k) sw 1 (ws.map ao):=fun {k}=>hs.ext ⟨k,rfl⟩
 cases ws with
 | nil=>
  have d0:decide ((([] :List (By)).length:Int)=0)=true:=rfl;refine Rs (A4 t0 hs.aL @d0 @c0) ?_;exact⟨.af,by rw[bO];exact⟨rfl,rfl,aK.nil⟩⟩
 | cons w r=>
  have d0:decide (((w::r).length:Int)=0)=false:=X3 (by simp;omega);have ix:=hs.qp (kk:=.i64) Si;have ld:∀{k:ah},Ext A k→aq none (cV sw 1 0) (fun b=>k[b]?)=some (.str w,.au):=fun {k} e=>hs.ki (i:=0) Si rfl e
  by_cases hw:w= []
  ·have d1:decide (w= [])=true:=X7 hw;refine Rs (A7 t0 hs.aL @d0 ix @ld @d1 @c0) ?_;exact⟨.af,by rw[bO,Yh hw];exact⟨rfl,rfl,aK.nil⟩⟩
  ·have d1:decide (w= [])=false:=X3 hw;have Td:iR (some (AV.i 1)) none (w::r).length=some (1,(w::r).length):=ml (k:=1) Si;obtain⟨s',es',QW⟩:=hs.FT Td;have et:List.take ((w::r).length - 1) (List.drop 1 (w::r))=r:=Si
   rw[et]at QW;refine Rs (A9 t0 hs.aL @d0 ix @ld @d1 @c0 @es' QW.one) ?_;exact⟨s',by rw[bO,Yd hw];exact⟨rfl,rfl,QW⟩⟩
set_option maxRecDepth 10000 in
def Ol(Z:qj P){sw ws wr}(hs:aK A sw 1 (ws.map ao))(hl:∀x∈ws,x.length≤2^40):
  da P 208 [.ptr A.length 0] (A++ [gF sw wr]++B) (fun v h'=>∃ (sw':AV) (g:ah),v= .i (kS (bO ws wr).1)∧h' =A++ [gF sw' ((bO ws wr).2.2|| !iF (bO ws wr).1)]++ (B++g)∧aK A sw' 1 ((bO ws wr).2.1.map ao)):=by
 refine .of T.mix T.c208 ?_;obtain⟨ts,QV⟩:∃ts,ts=aU 23 [.ptr A.length 0]:=⟨_,rfl⟩;have hlen:ts.length=23:=by rw[QV];rfl
 have t0:slot ts 0= .ptr A.length 0:=by rw[QV];rfl
 unfold fn208;show WC P bR _ [] (aU 23 [.ptr A.length 0]) (A++ [gF sw wr]++B) _;rw[←QV];clear QV;refine Rs t0 ?_;refine WF.gen T.c207 (HW T hs) ?_;rintro _ _ ⟨sw',rfl,rfl,QW⟩;have hwl: (bO ws wr).1.length≤2^40:=by
  cases ws with
  | nil=>simp[bO]
  | cons w r=>
   by_cases hw:w= []
   ·rw[bO,Yh hw];simp
   ·rw[bO,Yd hw];exact hl w Si
 generalize (bO ws wr).1=w at hwl ⊢;generalize (bO ws wr).2.2=wr' at QW ⊢;generalize (bO ws wr).2.1=ws' at QW ⊢;refine Rs t0 ?_;refine WF.ce T.c190 (r190 T Z w hwl) fun g=>?_
 unfold gF;have c0:=QW.one;cases wr' with
 | true=>
  refine Rs (A3 t0 @c0 @Bool.true_or) ?_;exact⟨sw',g,by rw[X4],QW⟩
 | false=>
  refine Rs (A3 t0 @c0 @aah) ?_;exact⟨sw',g,by rw[X4],QW⟩
end
def uf{α:Type}{p:α→Bool}{L:List α}{k:Nat}(hlt:k < L.length)(hi:L.findIdx? p= ((L.drop k).findIdx? p).map (· +k)): (p L[k]=true→cU p L= (k:Int))∧(p L[k]=false→L.findIdx? p= ((L.drop (k+1)).findIdx? p).map (· + (k+1))):=by
 have hd:L.drop k=L[k]::L.drop (k+1):=Si
 rw[hd,aam]at hi;constructor
 ·intro hp;rw[hp]at hi;rw[cU,hi];simp
 ·intro hp;rw[hp]at hi;rw[hi];exact Qb
def wb{α:Type}{p:α→Bool}{L:List α}(hi:L.findIdx? p= ((L.drop L.length).findIdx? p).map (· +L.length)):cU p L= -1:=by
 rw[YZ]at hi;rw[cU,hi];rfl
set_option maxRecDepth 10000
section
variable {P:Program} (T:fy P) {h:ah}
include T
def r20(n lo hi:Int):ay P 20 [.i n,.i lo,.i hi] h (fun v _=>v= .bool (decide (bh n lo hi≠0))):=by
 refine .nH 15 T.mix T.c20 ?_;intro ts hlen t0 t1 t2;unfold fn20;by_cases h1:n < lo
 ·have q1:decide (n < lo)=true:=X7 h1;refine Rs (A4 t0 t1 t2 q1) ?_;rw[bh,Yh (.inl h1)];rfl
 ·have q1:decide (n < lo)=false:=X3 h1;by_cases h2:hi < n
  ·have q2:decide (hi < n)=true:=X7 h2;refine Rs (A5 t0 t1 t2 q1 q2) ?_;rw[bh,Yh (.inr h2)];rfl
  ·have q2:decide (hi < n)=false:=X3 h2;refine Rs (A5 t0 t1 t2 q1 q2) ?_;rw[bh,Yd Om];rfl
def r35{L:List (By)}{s:AV}(hs:aK h s 1 (L.map ao))(hl:L.length < 2^40)(n:By):ay P 35 [s,.str n] h (fun v _=>v= .bool (decide (n∈L))):=by
 refine .eD 18 T.mix T.c35 ?_;intro ts hlen t0 t1;unfold fn35;refine Rs (A2 t0 t1) ?_;refine WL.inv T.mix (fun m ts h'=>∃k:Nat,k≤L.length∧m=L.length - k∧h' =h∧(n∈L↔n∈L.drop k)∧ts.length=18∧slot ts 0=s∧slot ts 1= .str n∧slot ts 5= .i k) L.length
  ⟨0,Om,rfl,rfl,Iff.rfl,Sn,(Sq t0),(Sq t1),hP⟩ ?_
 rintro _ ts _ ⟨k,hk,rfl,rfl,hi,hlen,t0,t1,t5⟩;by_cases hlt:k < L.length
 ·have hd:L.drop k=L[k]::L.drop (k+1):=Si
  rw[hd,YH]at hi;have e3:=eT hlt;have ix:=hs.dI (kk:=.i64) hlt;have ld:=hs.ki (i:=k) (x:=.str L[k]) hlt rfl (Ext.refl _);have e5:=wrapN (n:=k) Om;by_cases hp:L[k]=n
  ·have q:decide (L[k]=n)=true:=X7 hp;refine Rs (A8 t0 t1 t5 e3 hs.aL ix @ld q) ?_;exact YC AV.bool (X7 (hi.2 (.inl hp.symm))).symm
  ·have q:decide (L[k]=n)=false:=X3 hp;refine Rs (A9 t0 t1 t5 e3 hs.aL ix @ld q e5) ?_;exact⟨_,Om,k+1,Om,rfl,⟨fun z=>(hi.1 z).resolve_left fun e=>hp e.symm,fun z=>hi.2 (.inr z)⟩,rfl⟩
 ·have e3:=fQ hlt;have e4:k=L.length:=Om
  refine Rs (A5 t0 t1 t5 e3 hs.aL) ?_;rw[e4,YZ]at hi;exact YC AV.bool (X3 (fun z=>by simpa using hi.1 z)).symm
def r25{L M:List (By)}{s t:AV}(hs:aK h s 1 (L.map ao))(ht:aK h t 1 (M.map ao))(hl:L.length < 2^40)(hm:M.length < 2^40):ay P 25 [s,t] h (fun v _=>v= .bool (decide (L=M))):=by
 refine .eD 26 T.mix T.c25 ?_;intro ts hlen t0 t1;unfold fn25 Dv;by_cases h1:L.length=M.length
 case neg=>
  exact z70
 have q:decide ((L.length:Int)≠M.length)=false:=X3 Om;refine Rs (A5 t0 t1 hs.aL ht.aL q) ?_;refine WL.inv T.mix (fun m ts h'=>∃k:Nat,k≤L.length∧m=L.length - k∧h' =h∧L.take k=M.take k∧ts.length=26∧slot ts 0=s∧slot ts 1=t∧slot ts 5= .i k) L.length
  ⟨0,Om,rfl,rfl,rfl,Sn,(Sq t0),(Sq t1),hP⟩ ?_
 rintro _ ts h' ⟨k,hk,rfl,rfl,hi,hlen,t0,t1,t5⟩;by_cases hlt:k < L.length
 ·have Rm:k < M.length:=Om
  have e3:=eT hlt;have ix:=hs.dI (kk:=.i64) hlt;have iy:=ht.dI (kk:=.i64) Rm;have ld:∀{kk:ah},Ext h' kk→_:=fun {kk} e=>hs.ki (i:=k) (x:=.str L[k]) (k:=kk) hlt rfl e
  have ly:∀{kk:ah},Ext h' kk→_:=fun {kk} e=>ht.ki (i:=k) (x:=.str M[k]) (k:=kk) Rm rfl e
  exact P9
 ·exact z75
def r62{L M:List (Int)}{s t:AV}(hs:aK h s 1 (L.map aJ))(ht:aK h t 1 (M.map aJ))(hl:L.length < 2^40)(hm:M.length < 2^40):ay P 62 [s,t] h (fun v _=>v= .bool (decide (L=M))):=by
 refine .eD 26 T.mix T.c62 ?_;intro ts hlen t0 t1;unfold fn62 Dv;by_cases h1:L.length=M.length
 case neg=>
  exact z70
 have q:decide ((L.length:Int)≠M.length)=false:=X3 Om;refine Rs (A5 t0 t1 hs.aL ht.aL q) ?_;refine WL.inv T.mix (fun m ts h'=>∃k:Nat,k≤L.length∧m=L.length - k∧h' =h∧L.take k=M.take k∧ts.length=26∧slot ts 0=s∧slot ts 1=t∧slot ts 5= .i k) L.length
  ⟨0,Om,rfl,rfl,rfl,Sn,(Sq t0),(Sq t1),hP⟩ ?_
 rintro _ ts h' ⟨k,hk,rfl,rfl,hi,hlen,t0,t1,t5⟩;by_cases hlt:k < L.length
 ·have Rm:k < M.length:=Om
  have e3:=eT hlt;have ix:=hs.dI (kk:=.i64) hlt;have iy:=ht.dI (kk:=.i64) Rm;have ld:∀{kk:ah},Ext h' kk→_:=fun {kk} e=>hs.ki (i:=k) (x:=.i L[k]) (k:=kk) hlt rfl e
  have ly:∀{kk:ah},Ext h' kk→_:=fun {kk} e=>ht.ki (i:=k) (x:=.i M[k]) (k:=kk) Rm rfl e
  exact P9
 ·exact z75
def pz{f i w:Nat}{α:Type}{row:α→List AV}{nm:α→By}{L:List α}{s:AV}{V:RV}(c:bQ P f=some (uO i w))(o:aC h V)(hs:aK h s w (L.map row))(hv:V.row[i]? =some s)(hr:∀y,(row y)[0]? =some (.str (nm y)))(hl:L.length < 2^30)(n:By):ay P f [.agg V.row,.str n] h (fun v _=>v= .i (cU (fun y=>decide (nm y=n)) L)):=by
 refine .eD 22 T.mix c ?_;intro ts hlen t0 t1;unfold uO;have QU:=@aC.box _ _ o;refine Rs (A3 t0 t1 @QU) ?_;refine WL.inv T.mix (fun m ts h'=>∃k:Nat,k≤L.length∧m=L.length - k∧h' =h++ [ak.b V.row]∧L.findIdx? (fun y=>decide (nm y=n))= ((L.drop k).findIdx? (fun y=>decide (nm y=n))).map (· +k)∧ts.length=22∧slot ts 1= .str n∧slot ts 2= .ptr h.length 0∧slot ts 5= .i k) L.length
  ⟨0,Om,rfl,rfl,Si,Sn,(Sq t1),Sw,hP⟩ ?_
 rintro _ ts _ ⟨k,hk,rfl,rfl,hi,hlen,t1,t2,t5⟩;have lb:∀{kk n a},Ext (h++ [ak.b V.row]) kk→aq n (.ptr h.length a) (fun z=>kk[z]?)=dE n a (.b V.row):=fun {_ _ _} e=>az (e.some ba)
 by_cases hlt:k < L.length
 ·have e3:=eT hlt;have ix:=hs.dI (kk:=.i64) hlt;have e5:=wrapN (n:=k) Om;obtain⟨h1,h2⟩:=uf hlt hi;obtain⟨y,hy⟩:∃y,y=L[k]:=⟨_,rfl⟩;have ld:∀{kk:ah},Ext h kk→aq none (jv s w k 0) (fun b=>kk[b]?)=some (.str (nm y),.au):=fun {kk} e=>hs.lG hlt (by rw[←hy];exact hr y) e
  rw[←hy]at h1 h2;by_cases hp:nm y=n
  ·have q:decide (nm y=n)=true:=X7 hp;refine Rs (nv t1 t2 t5 @lb @hv hs.aL e3 ix @ld q) ?_;rw[h1 q]
  ·have q:decide (nm y=n)=false:=X3 hp;refine Rs (nw t1 t2 t5 @lb @hv hs.aL e3 ix @ld q e5) ?_;exact⟨_,Om,k+1,Om,rfl,h2 q,rfl⟩
 ·have e3:=fQ hlt;have e4:k=L.length:=Om
  refine Rs (A7 t1 t2 t5 @lb @hv hs.aL e3) ?_;subst e4;rw[wb hi]
def r28{V:RV}(o:aC h V)(l:eC V)(n:By):ay P 28 [.agg V.row,.str n] h (fun v _=>v= .i (cU (fun y=>decide (y.name=n)) V.lines)):=
 pz T (nm:=fun y:gM=>y.name) T.c28 o o.i0 ga (fun _=>rfl) l.l0 n
def r141{V:RV}(o:aC h V)(l:eC V)(n:By):ay P 141 [.agg V.row,.str n] h (fun v _=>v= .i (cU (fun y=>decide (y.name=n)) V.aI)):=
 pz T (nm:=fun y:rT=>y.name) T.c141 o o.i1 la (fun _=>rfl) l.l1 n
def r22{V:RV}(o:aC h V)(l:eC V)(n:By):ay P 22 [.agg V.row,.str n] h (fun v _=>v= .i (cU (fun y:jI×AV=>decide (y.1.name=n)) V.aj)):=
 pz T (nm:=fun y:jI×AV=>y.1.name) T.c22 o o.i2 fF (fun _=>rfl) l.l2 n
def r55{V:RV}(o:aC h V)(l:eC V)(n:By):ay P 55 [.agg V.row,.str n] h (fun v _=>v= .i (cU (fun y:gS×AV=>decide (y.1.name=n)) V.aD)):=
 pz T (nm:=fun y:gS×AV=>y.1.name) T.c55 o o.i3 fN (fun _=>rfl) l.l3 n
def r56{V:RV}(o:aC h V)(l:eC V)(n:By):ay P 56 [.agg V.row,.str n] h (fun v _=>v= .i (cU (fun y:kU×AV=>decide (y.1.name=n)) V.aH)):=
 pz T (nm:=fun y:kU×AV=>y.1.name) T.c56 o o.i4 fZ (fun _=>rfl) l.l4 n
def r57{V:RV}(o:aC h V)(l:eC V)(n:By):ay P 57 [.agg V.row,.str n] h (fun v _=>v= .i (cU (fun y=>decide (y.name=n)) V.aQ)):=
 pz T (nm:=fun y:qk=>y.name) T.c57 o o.i5 gT (fun _=>rfl) l.l5 n
end
def kW(r:Nat×Bool):UInt8:=
 match r.1,r.2 with
 | 0,true=>108
 | 1,true=>116
 | 2,true=>115
 | 3,true=>109
 | 4,true=>106
 | _,true=>112
 | 0,false=>76
 | 1,false=>84
 | 2,false=>83
 | 3,false=>77
 | 4,false=>74
 | _,false=>80
def xF(d:Kd):By:=(bL d).map kW
def y5(k:By):List AV:=
 match gJ k with
 | none=>[.str [],.i 0,.bool false]
 | some d=>[.str (xF d),.i (cB d:Int),.bool true]
def gy(d:Kd):decide (bu d= [108,105,110,101])=decide (d= .line):=by cases d<;>rfl
def gX(d:Kd):decide (bu d= [116,97,112,101])=decide (d= .tape):=by cases d<;>rfl
def ry(d:Kd):decide (bu d= [115,104,111,116])=decide (d= .gg):=by cases d<;>rfl
def vS(d:Kd):decide (bu d= [99,111,112,121])=decide (d= .copy):=by cases d<;>rfl
def rz(d:Kd):decide (bu d= [97,99,99,101,112,116])=decide (d= .accept):=by cases d<;>rfl
def gQ(d:Kd):decide (bu d= [115,111,117,114,99,101])=decide (d= .source):=by cases d<;>rfl
def jT(d:Kd):decide (bu d= [109,111,100,117,108,101])=decide (d= .fP):=by cases d<;>rfl
def iY(d:Kd):decide (bu d= [109,101,114,103,101])=decide (d= .merge):=by cases d<;>rfl
def y0(d:Kd):decide (bu d= [114,117,110])=decide (d= .run):=by cases d<;>rfl
def vP(d:Kd):decide (bu d= [116,105,108,101])=decide (d= .fM):=by cases d<;>rfl
def vR(d:Kd):decide (bu d= [102,97,105,108])=decide (d= .fail):=by cases d<;>rfl
def vQ(d:Kd):decide (bu d= [112,105,99,116,117,114,101])=decide (d= .gh):=by cases d<;>rfl
def qq(d:Kd):decide (bu d= [114,101,108,101,97,115,101])=decide (d= .rel):=by cases d<;>rfl
def nX(d:Kd):decide (bu d= [117,110,100,111])=decide (d= .ee):=by cases d<;>rfl
def eO:type_of% (AF @gy @gX @ry @vS @rz @gQ @jT @iY @y0 @vP @vR @vQ @qq @nX):=AF @gy @gX @ry @vS @rz @gQ @jT @iY @y0 @vP @vR @vQ @qq @nX
def BH:∀r:Nat×Bool,r.1 < 6→decide (97≤((kW r).toNat:Int))=r.2
 | (0,true),_=>rfl
 | (1,true),_=>rfl
 | (2,true),_=>rfl
 | (3,true),_=>rfl
 | (4,true),_=>rfl
 | (5,true),_=>rfl
 | (0,false),_=>rfl
 | (1,false),_=>rfl
 | (2,false),_=>rfl
 | (3,false),_=>rfl
 | (4,false),_=>rfl
 | (5,false),_=>rfl
def DQ(d:Kd):∀r∈bL d,r.1 < 6:=by cases d<;>decide
section
variable {P:Program} (T:fy P) {h:ah}
include T
def r101(k:By):ay P 101 [.str k] h (fun v _=>v= .agg (y5 k)):=by
 refine .kM 47 T.mix T.c101 ?_;intro ts hlen t0;unfold fn101;unfold y5;cases hk:gJ k with
 | none=>
  have Xe:decide (k= [108,105,110,101])=false:=X3 (dz hk .line);have Xa:decide (k= [116,97,112,101])=false:=X3 (dz hk .tape);have Xb:decide (k= [115,104,111,116])=false:=X3 (dz hk .gg);have Xg:decide (k= [99,111,112,121])=false:=X3 (dz hk .copy);have Uu:decide (k= [97,99,99,101,112,116])=false:=X3 (dz hk .accept);have Ut:decide (k= [115,111,117,114,99,101])=false:=X3 (dz hk .source);have Xd:decide (k= [109,111,100,117,108,101])=false:=X3 (dz hk .fP);have Vu:decide (k= [109,101,114,103,101])=false:=X3 (dz hk .merge);have q_run:decide (k= [114,117,110])=false:=X3 (dz hk .run);have W9:decide (k= [116,105,108,101])=false:=X3 (dz hk .fM)
  have Xf:decide (k= [102,97,105,108])=false:=X3 (dz hk .fail);have Xc:decide (k= [112,105,99,116,117,114,101])=false:=X3 (dz hk .gh);have q_rel:decide (k= [114,101,108,101,97,115,101])=false:=X3 (dz hk .rel);have WZ:decide (k= [117,110,100,111])=false:=X3 (dz hk .ee);exact Rs (Db t0 @Xe @Xa @Xb @Xg @Uu @Ut @Xd @Vu @q_run @W9 @Xf @Xc @q_rel @WZ) Tv
 | some d=>
  have Q0:=cg hk;subst Q0;clear hk;cases d
  all_goals
   refine kE (A4 t0 @eO @Yk @Yp) ?_;rfl
def r39{x}(o:bg h x)(hl:x.ev.names.length≤2^40∧x.ev.b9.length≤2^40)(hn:∀n∈x.ev.names,n.length < 2^63):ay P 39 [.agg x.row] h (fun v _=>v= .i (gL x.ev)):=by
 refine .kM 59 T.mix T.c39 ?_;intro ts hlen t0;unfold fn39;have QU:=@bg.box _ _ o;refine Rs (A3 t0 @QU @na) ?_;refine WF.ce T.c20 (r20 T _ _ _) fun g1=>?_
 by_cases h0:bh x.ev.num 1 1000=0
 case neg=>
  have e0:decide (bh x.ev.num 1 1000≠0)=true:=X7 h0;refine Rs (A2 t0 e0) ?_;rw[gL,Yh h0]
 have e0:decide (bh x.ev.num 1 1000≠0)=false:=X3 (fun z=>z h0);refine Rs (A3 t0 e0 @a8) ?_;refine WF.ce T.c101 (r101 T _) fun g2=>?_
 unfold y5;rw[gL,Yd (fun z=>z h0)];cases hd:gJ x.ev.kind with
 | none=>
  exact Rs (A2 t0 @Yz) Tv
 | some d=>
  have Sd: (xF d).length= (bL d).length:=by rw[xF,Ya]
  have hr3: (bL d).length≤3∧cB d≤3:=by cases d<;>decide
  refine Rs (A7 t0 @Yw @aM @aY o.n.aL o.v.aL @Sd) ?_;by_cases h1:x.ev.names.length= (bL d).length
  case neg=>
   have q:decide ((x.ev.names.length:Int)≠(bL d).length)=true:=X7 Om;refine Rs (A2 t0 q) ?_;rw[Yh (.inl h1)]
  have q:decide ((x.ev.names.length:Int)≠(bL d).length)=false:=X3 Om;by_cases h2:x.ev.b9.length=cB d
  case neg=>
   have q2:decide ((x.ev.b9.length:Int)≠cB d)=true:=X7 Om;refine Rs (A5 t0 @aY q q2 o.v.aL) ?_;rw[Yh (.inr h2)]
  have q2:decide ((x.ev.b9.length:Int)≠cB d)=false:=X3 Om;refine Rs (A5 t0 @aY q q2 o.v.aL) ?_;rw[Yd Om];obtain⟨H,hH⟩:∃H,H=h++ [ak.b x.row]++g1++g2++ [ak.b [AV.str (xF d),.i (cB d:Int),.bool true]]:=⟨_,rfl⟩;obtain⟨fb,hfb⟩:∃fb,fb= (h++ [ak.b x.row]++g1++g2).length:=⟨_,rfl⟩;have Rx:Ext h H:=by rw[hH];exact Xx
  have me:H[h.length]? =some (.b x.row):=by rw[hH];exact(show Ext (h++ [ak.b x.row]) _ from Xx).some ba
  have mf:H[fb]? =some (.b [AV.str (xF d),.i (cB d:Int),.bool true]):=by rw[hH,hfb];exact ba
  rw[←hH,←hfb];refine WL.inv T.mix (fun m ts h'=>∃k:Nat,k≤x.ev.names.length∧m=x.ev.names.length - k∧Ext H h'∧x.ev.names.any (fun s=>!dW s)= (x.ev.names.drop k).any (fun s=>!dW s)∧ts.length=59∧slot ts 1= .ptr h.length 0∧slot ts 3= .ptr fb 0∧slot ts 4= .i k) x.ev.names.length
   ⟨0,Om,rfl,.refl _,rfl,Sn,Sw,Sw,hP⟩ ?_
  rintro _ ts h' ⟨k,hk,rfl,hx,hi,hlen,t1,t3,t4⟩;have le:∀{kk n a},Ext h' kk→aq n (.ptr h.length a) (fun z=>kk[z]?)=dE n a (.b x.row):=fun {_ _ _} e=>az ((hx.trans e).some me)
  have lf:∀{kk n a},Ext h' kk→aq n (.ptr fb a) (fun z=>kk[z]?)=dE n a (.b [AV.str (xF d),.i (cB d:Int),.bool true]):=fun {_ _ _} e=>az ((hx.trans e).some mf)
  by_cases hlt:k < x.ev.names.length
  ·have e3:decide ((k:Int)< (bL d).length)=true:=X7 Om;have e5:=wrapN (n:=k) Om;have ix:=o.n.dI (kk:=.i64) hlt;have ld:∀{kk:ah},Ext h' kk→aq none (cV x.sn 1 k) (fun b=>kk[b]?)=some (.str x.ev.names[k],.au):=fun {kk} e=>o.n.ki hlt rfl ((Rx.trans hx).trans e)
   have VS:x.ev.names.drop k=x.ev.names[k]::x.ev.names.drop (k+1):=Si
   rw[VS,aai]at hi;have hnk:=hn x.ev.names[k] (Yi _);obtain⟨y,hy⟩:∃y,y=x.ev.names[k]:=⟨_,rfl⟩;rw[←hy]at ld hi hnk;refine Rs (nv t1 t3 t4 @le @lf @Sd e3 @aM ix @ld) ?_;refine WF.ce T.c102 (r102 T y hnk) fun g3=>?_
   cases hny:dW y with
   | false=>
    rw[hny]at hi;have hi:x.ev.names.any (fun s=>!dW s)=true:=hi;refine Rs (A4 t1 t3 t4 @Yz) ?_;refine⟨(Rx.trans hx).trans Xx,?_⟩;rw[Yh hi]
   | true=>
    rw[hny]at hi;refine Rs (A5 t1 t3 t4 @Yw e5) ?_;exact Js
  ·have e3:decide ((k:Int)< (bL d).length)=false:=X3 Om;have e4:k=x.ev.names.length:=Om
   have hi0:x.ev.names.any (fun s=>!dW s)=false:=by rw[hi,e4,YZ];rfl
   rw[Yd (by rw[hi0];decide)];refine Rs (A6 t1 t3 t4 @lf @Sd e3) ?_;refine WL.inv T.mix (fun m ts V3=>∃k:Nat,k≤x.ev.b9.length∧m=x.ev.b9.length - k∧Ext H V3∧x.ev.b9.any (fun n=>decide (bh n 0 999999999≠0))= (x.ev.b9.drop k).any (fun n=>decide (bh n 0 999999999≠0))∧ts.length=59∧slot ts 1= .ptr h.length 0∧slot ts 3= .ptr fb 0∧slot ts 5= .i k) x.ev.b9.length
    ⟨0,Om,rfl,hx,rfl,Sn,(Sq t1),(Sq t3),hP⟩ ?_
   clear t1 t3 t4 hlen hlt hi e3 e4 hk le lf hx;clear ts k h';rintro _ ts h' ⟨k,hk,rfl,hx,hi,hlen,t1,t3,t5⟩;have le:∀{kk n a},Ext h' kk→aq n (.ptr h.length a) (fun z=>kk[z]?)=dE n a (.b x.row):=fun {_ _ _} e=>az ((hx.trans e).some me)
   have lf:∀{kk n a},Ext h' kk→aq n (.ptr fb a) (fun z=>kk[z]?)=dE n a (.b [AV.str (xF d),.i (cB d:Int),.bool true]):=fun {_ _ _} e=>az ((hx.trans e).some mf)
   by_cases hlt:k < x.ev.b9.length
   ·have e3:decide ((k:Int)< cB d)=true:=X7 Om;have e5:=wrapN (n:=k) Om;have ix:=o.v.dI (kk:=.i64) hlt;have ld:∀{kk:ah},Ext h' kk→aq none (cV x.sv 1 k) (fun b=>kk[b]?)=some (.i x.ev.b9[k],.au):=fun {kk} e=>o.v.ki hlt rfl ((Rx.trans hx).trans e)
    have VS:x.ev.b9.drop k=x.ev.b9[k]::x.ev.b9.drop (k+1):=Si
    rw[VS,aai]at hi;obtain⟨y,hy⟩:∃y,y=x.ev.b9[k]:=⟨_,rfl⟩;rw[←hy]at ld hi;refine Rs (A9 t1 t3 t5 @le @lf e3 @aY ix @ld) ?_;refine WF.ce T.c20 (r20 T _ _ _) fun g3=>?_
    cases hny:decide (bh y 0 999999999≠0)with
    | true=>
     rw[hny]at hi;have hi:x.ev.b9.any (fun n=>decide (bh n 0 999999999≠0))=true:=hi;refine Rs (A3 t1 t3 t5) ?_;refine⟨(Rx.trans hx).trans Xx,?_⟩;rw[Yh hi]
    | false=>
     rw[hny]at hi;refine Rs (A4 t1 t3 t5 e5) ?_;exact Js
   ·have e3:decide ((k:Int)< cB d)=false:=X3 Om;have e4:k=x.ev.b9.length:=Om
    have hi0:x.ev.b9.any (fun n=>decide (bh n 0 999999999≠0))=false:=by rw[hi,e4,YZ];rfl
    rw[Yd (by rw[hi0];decide)];by_cases ht:x.ev.text= []
    ·have q:decide (x.ev.text≠[])=false:=X3 (fun z=>z ht);refine Rs (A8 t1 t3 t5 @lf @le e3 @yc q) ?_;refine⟨Rx.trans hx,?_⟩;rw[Yd (fun z=>z ht)]
    ·have q:decide (x.ev.text≠[])=true:=X7 ht;refine Rs (A8 t1 t3 t5 @lf @le e3 @yc q) ?_;refine⟨Rx.trans hx,?_⟩;rw[Yh ht]
end
def Dr(R:eX)(e:ed):List (Nat×Bool)→Bool
 | []=>false
 | r::_=>!r.2 && dG R r.1 (aO e 0)
def B2{R e d}:kP d R e=if mK R e (bL d) 0 then 10 else bV (Dr R e (bL d)) 9:=by
 have:qH R e (bL d) 0=Dr R e (bL d):=by cases d<;>simp[bL,qH,Dr]
 rw[kP,this];rfl
def Al:∀r:Nat×Bool,r.1 < 6→r.2=false→IntKind.u8.wrap (IntKind.u8.wrap (((kW r).toNat:Int)+97) - 65)= ((kW (r.1,true)).toNat:Int)
 | (0,false),_,_=>rfl
 | (1,false),_,_=>rfl
 | (2,false),_,_=>rfl
 | (3,false),_,_=>rfl
 | (4,false),_,_=>rfl
 | (5,false),_,_=>rfl
section
variable {P:Program} (T:fy P) {h:ah}
include T
def QN{V}(o:aC h V)(l:eC V)(n:By):ay P 195 [.agg V.row,.int .u8 ((kW (0,true)).toNat:Int),.str n] h (fun v _=>∃i,v= .i i∧decide (0≤i)=dG V.an 0 n):=by
 refine .nH 36 T.mix T.c195 ?_;intro ts hlen t0 t1 t2;unfold fn195;have QU:=@aC.box _ _ o;have q0:decide (((kW (0,true)).toNat:Int)=108)=true:=rfl;refine Rs (A6 t0 t1 t2 @QU q0 @aG) ?_;refine WF.ce T.c28 (r28 T (o.ext Xx) l n) fun g1=>?_
 refine Rs t0 ?_;exact⟨_,rfl,fi (f:=fun y:gM=>y.name)⟩
def QM{V}(o:aC h V)(l:eC V)(n:By):ay P 195 [.agg V.row,.int .u8 ((kW (1,true)).toNat:Int),.str n] h (fun v _=>∃i,v= .i i∧decide (0≤i)=dG V.an 1 n):=by
 refine .nH 36 T.mix T.c195 ?_;intro ts hlen t0 t1 t2;unfold fn195;have QU:=@aC.box _ _ o;have q0:decide (((kW (1,true)).toNat:Int)=108)=false:=rfl;have q1:decide (((kW (1,true)).toNat:Int)=116)=true:=rfl;refine Rs (A7 t0 t1 t2 @QU q0 q1 @aG) ?_;refine WF.ce T.c141 (r141 T (o.ext Xx) l n) fun g1=>?_
 refine Rs t0 ?_;exact⟨_,rfl,fi (f:=fun y:rT=>y.name)⟩
def QL{V}(o:aC h V)(l:eC V)(n:By):ay P 195 [.agg V.row,.int .u8 ((kW (2,true)).toNat:Int),.str n] h (fun v _=>∃i,v= .i i∧decide (0≤i)=dG V.an 2 n):=by
 refine .nH 36 T.mix T.c195 ?_;intro ts hlen t0 t1 t2;unfold fn195;have QU:=@aC.box _ _ o;have q0:decide (((kW (2,true)).toNat:Int)=108)=false:=rfl;have q1:decide (((kW (2,true)).toNat:Int)=116)=false:=rfl;have q2:decide (((kW (2,true)).toNat:Int)=115)=true:=rfl;refine Rs (A8 t0 t1 t2 @QU q0 q1 q2 @aG) ?_;refine WF.ce T.c22 (r22 T (o.ext Xx) l n) fun g1=>?_
 refine Rs t0 ?_;refine⟨_,rfl,(fi (f:=fun y:jI×AV=>y.1.name)).trans ?_⟩;rw[←jQ];rfl
def QK{V}(o:aC h V)(l:eC V)(n:By):ay P 195 [.agg V.row,.int .u8 ((kW (3,true)).toNat:Int),.str n] h (fun v _=>∃i,v= .i i∧decide (0≤i)=dG V.an 3 n):=by
 refine .nH 36 T.mix T.c195 ?_;intro ts hlen t0 t1 t2;unfold fn195;have QU:=@aC.box _ _ o;have q0:decide (((kW (3,true)).toNat:Int)=108)=false:=rfl;have q1:decide (((kW (3,true)).toNat:Int)=116)=false:=rfl;have q2:decide (((kW (3,true)).toNat:Int)=115)=false:=rfl;have q3:decide (((kW (3,true)).toNat:Int)=109)=true:=rfl;refine Rs (A9 t0 t1 t2 @QU q0 q1 q2 q3 @aG) ?_;refine WF.ce T.c55 (r55 T (o.ext Xx) l n) fun g1=>?_
 refine Rs t0 ?_;refine⟨_,rfl,(fi (f:=fun y:gS×AV=>y.1.name)).trans ?_⟩;rw[←gU];rfl
def QJ{V}(o:aC h V)(l:eC V)(n:By):ay P 195 [.agg V.row,.int .u8 ((kW (4,true)).toNat:Int),.str n] h (fun v _=>∃i,v= .i i∧decide (0≤i)=dG V.an 4 n):=by
 refine .nH 36 T.mix T.c195 ?_;intro ts hlen t0 t1 t2;unfold fn195;have QU:=@aC.box _ _ o;have q0:decide (((kW (4,true)).toNat:Int)=108)=false:=rfl;have q1:decide (((kW (4,true)).toNat:Int)=116)=false:=rfl;have q2:decide (((kW (4,true)).toNat:Int)=115)=false:=rfl;have q3:decide (((kW (4,true)).toNat:Int)=109)=false:=rfl;have q4:decide (((kW (4,true)).toNat:Int)=106)=true:=rfl;refine Rs (nv t0 t1 t2 @QU q0 q1 q2 q3 q4 @aG) ?_;refine WF.ce T.c56 (r56 T (o.ext Xx) l n) fun g1=>?_
 refine Rs t0 ?_;refine⟨_,rfl,(fi (f:=fun y:kU×AV=>y.1.name)).trans ?_⟩;rw[←gV];rfl
def QI{V}(o:aC h V)(l:eC V)(n:By):ay P 195 [.agg V.row,.int .u8 ((kW (5,true)).toNat:Int),.str n] h (fun v _=>∃i,v= .i i∧decide (0≤i)=dG V.an 5 n):=by
 refine .nH 36 T.mix T.c195 ?_;intro ts hlen t0 t1 t2;unfold fn195;have QU:=@aC.box _ _ o;have q0:decide (((kW (5,true)).toNat:Int)=108)=false:=rfl;have q1:decide (((kW (5,true)).toNat:Int)=116)=false:=rfl;have q2:decide (((kW (5,true)).toNat:Int)=115)=false:=rfl;have q3:decide (((kW (5,true)).toNat:Int)=109)=false:=rfl;have q4:decide (((kW (5,true)).toNat:Int)=106)=false:=rfl;refine Rs (nv t0 t1 t2 @QU q0 q1 q2 q3 q4 @aG) ?_;refine WF.ce T.c57 (r57 T (o.ext Xx) l n) fun g1=>?_
 refine Rs t0 ?_;exact⟨_,rfl,fi (f:=fun y:qk=>y.name)⟩
def r195{V}(o:aC h V)(l:eC V){t}(ht:t < 6)(n:By):ay P 195 [.agg V.row,.int .u8 ((kW (t,true)).toNat:Int),.str n] h (fun v _=>∃i,v= .i i∧decide (0≤i)=dG V.an t n):=by
 match t,ht with
 | 0,_=>exact QN T o l n
 | 1,_=>exact QM T o l n
 | 2,_=>exact QL T o l n
 | 3,_=>exact QK T o l n
 | 4,_=>exact QJ T o l n
 | 5,_=>exact QI T o l n
def r223{V x d}(o:aC h V)(l:eC V)(ox:bg h x)(wx:jG x.ev d):ay P 223 [.agg V.row,.agg x.row] h (fun v _=>v= .i (kP d V.an x.ev)):=by
 refine .eD 55 T.mix T.c223 ?_;intro ts hlen t0 t1;unfold fn223;have QU:=@aC.box _ _ o;have hex:=@bg.box _ _ ox;refine Rs (A5 t0 t1 @QU @hex @a8) ?_;refine WF.ce T.c101 (r101 T _) fun g1=>?_
 unfold y5;rw[wx.kd];obtain⟨L,hL⟩:∃L,L=bL d:=⟨_,rfl⟩;have hnl:x.ev.names.length=L.length:=by rw[hL];exact wx.nl
 have VZ:L.length≤3:=by rw[hL];cases d<;>decide
 have Wz:∀r∈L,r.1 < 6:=by rw[hL];exact DQ d
 have Sd: (xF d).length=L.length:=by rw[xF,Ya,hL]
 refine Rs (A2 t0 t1) ?_;obtain⟨H,hH⟩:∃H,H=h++ [ak.b V.row]++ [ak.b x.row]++g1:=⟨_,rfl⟩;obtain⟨eb,heb⟩:∃eb,eb= (h++ [ak.b V.row]).length:=⟨_,rfl⟩;have Rx:Ext h H:=by rw[hH];exact Xx
 have mr:H[h.length]? =some (.b V.row):=by rw[hH];exact(show Ext (h++ [ak.b V.row]) _ from Xx).some ba
 have me:H[eb]? =some (.b x.row):=by rw[hH,heb];exact(show Ext (h++ [ak.b V.row]++ [ak.b x.row]) _ from Xx).some ba
 rw[←hH,←heb];have TB:∀ (i:Nat) (hi:i < L.length),aZ 1 x.sn (.i (i:Int))=some (cV x.sn 1 i,.au):=fun i hi=>ox.n.dI Om
 have hld:∀ (i:Nat) (hi:i < L.length) (k':ah),Ext h k'→aq none (cV x.sn 1 i) (fun b=>k'[b]?)=some (.str (aO x.ev i),.au):=fun i hi k' e=>by
  exact PQ
 have hixs:∀ (i:Nat) (hi:i < L.length),vL (.str (xF d)) (.i (i:Int))=some (.int .u8 ((kW L[i]).toNat:Int)):=fun i hi=>by
  have hi':i < (xF d).length:=Om
  rw[jC hi'];have: (xF d)[i]=kW L[i]:=by simp only[xF,hL,Zf]
  rw[this]
 refine WL.inv T.mix (fun m ts h'=>∃k:Nat,k≤L.length∧m=L.length - k∧Ext H h'∧mK V.an x.ev L 0=mK V.an x.ev (L.drop k) k∧ts.length=55∧slot ts 2= .ptr h.length 0∧slot ts 3= .ptr eb 0∧slot ts 5= .str (xF d)∧slot ts 6= .i k) L.length
  ⟨0,Om,rfl,.refl _,rfl,Sn,Sw,Sw,Sw,hP⟩ ?_
 clear t0 t1 hlen QU hex;clear ts;rintro _ ts h' ⟨k,hk,rfl,hx,hu,hlen,t2,t3,t5,t6⟩;have le:∀{kk n a},Ext h' kk→aq n (.ptr eb a) (fun z=>kk[z]?)=dE n a (.b x.row):=fun {_ _ _} e=>az ((hx.trans e).some me)
 have lr:∀{kk n a},Ext h' kk→aq n (.ptr h.length a) (fun z=>kk[z]?)=dE n a (.b V.row):=fun {_ _ _} e=>az ((hx.trans e).some mr)
 by_cases hlt:k < L.length
 ·have e3:=eT hlt;have e5:=wrapN (n:=k) Om;have iy:=TB k hlt;have ly:∀{k'},Ext h' k'→aq none (cV x.sn 1 k) (fun b=>k'[b]?)=some (.str (aO x.ev k),.au):=fun {k'} e=>hld k hlt k' ((Rx.trans hx).trans e)
  have ii:=hixs k hlt;have hd:L.drop k=L[k]::L.drop (k+1):=Si
  obtain⟨r,UE⟩:∃r,r=L[k]:=⟨_,rfl⟩;have Vi:r.1 < 6:=by rw[UE];exact Wz _ (Yi _)
  rw[hd,←UE,mK]at hu;rw[←UE]at ii;have qg:=BH r Vi;cases R7:r.2 with
  | false=>
   rw[R7]at hu qg;refine Rs (A9 t2 t3 t5 t6 @Sd e3 @ii @qg e5) ?_;exact Jv
  | true=>
   rw[R7]at hu qg;have er:r= (r.1,true):=by rw[←R7]
   rw[er]at ii qg;refine Rs (AF t2 t3 t5 t6 @Sd e3 @ii @qg @le @lr @aG @aM @iy @ly) ?_;refine WF.res T.c195 (r195 T ((o.ext (Rx.trans hx)).ext Xx) l Vi _) ?_;rintro _ g3 ⟨i,rfl,hi⟩;have qi:decide (i < 0)= !dG V.an r.1 (aO x.ev k):=by rw[←hi];by_cases h0:0≤i<;>simp[h0]<;>omega
   cases hh:dG V.an r.1 (aO x.ev k)with
   | true=>
    rw[hh]at hu qi;have qi:decide (i < 0)=false:=qi;refine Rs (A6 t2 t3 t5 t6 @qi e5) ?_;exact Jv
   | false=>
    rw[hh]at hu qi;have qi:decide (i < 0)=true:=qi;have hu1:mK V.an x.ev L 0=true:=by rw[hu];rfl
    refine Rs (A5 t2 t3 t5 t6 @qi) ?_;refine⟨(Rx.trans hx).trans Xx,?_⟩;rw[B2,←hL,Yh hu1]
 ·have e3:=fQ hlt;have e4:k=L.length:=Om
  have TT:mK V.an x.ev L 0=false:=by rw[hu,e4,YZ];rfl
  have Ve:=Rx.trans hx;rw[B2,←hL,Yd (by rw[TT];decide)];refine Rs (A6 t2 t3 t5 t6 @Sd e3) ?_;cases hLc:L with
  | nil=>
   have q0:decide ((0:Int)< (([] :List (Nat×Bool)).length:Int))=false:=rfl;refine Rs (A5 t2 t3 t5 t6 q0) ?_;exact⟨Ve,rfl⟩
  | cons r rest=>
   rw[Dr];have q0:decide ((0:Int)< ((r::rest).length:Int))=true:=X7 (by simp only[X8];omega);have VM:0 < L.length:=by rw[hLc];simp
   have ii:vL (.str (xF d)) (.i 0)=some (.int .u8 ((kW r).toNat:Int)):=by
    have:=hixs 0 VM;simp only[hLc,List.getElem_cons_zero]at this;exact this
   have Vi:r.1 < 6:=Wz r (by rw[hLc];simp);have qg:=BH r Vi;have qp:aZ 1 x.sn (.i 0)=some (cV x.sn 1 0,.au):=TB 0 VM;have ld0:∀{k':ah},Ext h' k'→aq none (cV x.sn 1 0) (fun b=>k'[b]?)=some (.str (aO x.ev 0),.au):=fun {k'} e=>hld 0 VM k' (Ve.trans e)
   cases R7:r.2 with
   | true=>
    rw[R7]at qg;have qg2:decide (((kW r).toNat:Int)< 97)=false:=X3 (by have:=Zq qg;omega);refine Rs (A7 t2 t3 t5 t6 q0 @ii @qg2) ?_;exact⟨Ve,rfl⟩
   | false=>
    rw[R7]at qg;have qg2:decide (((kW r).toNat:Int)< 97)=true:=X7 (by have:=of_decide_eq_false qg;omega);have ew:=Al r Vi R7;refine Rs (AF t2 t3 t5 t6 q0 @ii @qg2 @le @lr @aG @aM @qp @ld0 @ew) ?_;refine WF.res T.c195 (r195 T (o.ext Ve) l Vi _) ?_;rintro _ g3 ⟨i,rfl,hi⟩;cases hh:dG V.an r.1 (aO x.ev 0)with
    | true=>
     exact JI
    | false=>
     exact JI
end
section
variable {P:Program} (T:fy P) {h:ah}
include T
def r84{V}(o:aC h V)(l:eC V){n}(hn:n∈jB V.an)(t:Int):ay P 84 [.agg V.row,.str n,.i t] h (fun v _=>v= .bool (jo V.an t n)):=by
 refine .nH 17 T.mix T.c84 ?_;intro ts hlen t0 t1 t2;unfold fn84;have QU:=@aC.box _ _ o;have hlt:=cY hn;have Rm:bp (jB V.an) n < V.aI.length:=by simpa [jB,RV.an]using hlt
 have ix:aZ 2 V.s1 (.i ((bp (jB V.an) n:Nat):Int))=some (cV V.s1 2 (bp (jB V.an) n),.au):=o.i1.dI Rm;have ev:jn V.an n=V.aI[bp (jB V.an) n]:=dh (f:=rT.name) (l:=V.aI) hn;have ld:∀{k':ah},Ext h k'→aq none (jv V.s1 2 (bp (jB V.an) n) 1) (fun b=>k'[b]?)=some (.i (jn V.an n).last,.au):=fun {k'} e=>by
  rw[ev];exact o.i1.lG Rm rfl e
 refine Rs (A6 t0 t1 t2 @QU @la @aG) ?_;refine WF.ce T.c141 (r141 T (o.ext Xx) l n) fun g1=>?_
 have ei:cU (fun y:rT=>decide (y.name=n)) V.aI= (bp (jB V.an) n:Int):=e9 (f:=fun y:rT=>y.name) hn;rw[ei];refine Rs (A5 t0 t1 t2 ix @ld) ?_;rfl
def r23{V}(o:aC h V)(l:eC V){x}(hx:aK h x.2 1 (x.1.aI.map ao))(hl:x.1.aI.length < 2^30)(hk:∀n∈x.1.aI,n∈jB V.an)(t:Int):
  ay P 23 [.agg V.row,.agg (bj x),.i t] h (fun v _=>v= .bool (iB V.an x.1 t)):=by
 refine .nH 23 T.mix T.c23 ?_;intro ts hlen t0 t1 t2;unfold fn23;have QU:=@aC.box _ _ o;have ox:=hx.one;unfold bj at t1;refine Rs (A5 t0 t1 t2 @QU @ox) ?_;obtain⟨H,hH⟩:∃H,H=h++ [ak.b V.row]++ [ak.b [AV.str x.1.name,.str x.1.line,x.2]]:=⟨_,rfl⟩;obtain⟨sb,hsb⟩:∃sb,sb= (h++ [ak.b V.row]).length:=⟨_,rfl⟩;have Rx:Ext h H:=by rw[hH];exact Xx
 have mr:H[h.length]? =some (.b V.row):=by rw[hH];exact(show Ext (h++ [ak.b V.row]) _ from Xx).some ba
 have ms:H[sb]? =some (.b [AV.str x.1.name,.str x.1.line,x.2]):=by rw[hH,hsb];exact ba
 rw[←hH,←hsb];refine WL.inv T.mix (fun n ts h'=>∃k:Nat,k≤x.1.aI.length∧n=x.1.aI.length - k∧Ext H h'∧iB V.an x.1 t= (x.1.aI.drop k).any (jo V.an t)∧
   ts.length=23∧slot ts 2= .i t∧slot ts 3= .ptr h.length 0∧slot ts 4= .ptr sb 0∧slot ts 7= .i k) x.1.aI.length
  ⟨0,Om,rfl,.refl _,rfl,Sn,(Sq t2),Sw,Sw,hP⟩ ?_
 rintro _ ts h' ⟨k,QY,rfl,he,hi,hlen,t2,t3,t4,t7⟩;have lr:∀{kk n a},Ext h' kk→aq n (.ptr h.length a) (fun z=>kk[z]?)=dE n a (.b V.row):=fun {_ _ _} e=>az ((he.trans e).some mr)
 have ls:∀{kk n a},Ext h' kk→aq n (.ptr sb a) (fun z=>kk[z]?)=dE n a (.b [AV.str x.1.name,.str x.1.line,x.2]):=fun {_ _ _} e=>az ((he.trans e).some ms)
 by_cases hlt:k < x.1.aI.length
 ·have e3:=eT hlt;have e5:=wrapN (n:=k) Om;have ix:=hx.dI (kk:=.i64) hlt;have hd:x.1.aI.drop k=x.1.aI[k]::x.1.aI.drop (k+1):=Si
  have hm:=hk x.1.aI[k] (Yi _);have ld:∀{kk:ah},Ext h' kk→aq none (cV x.2 1 k) (fun b=>kk[b]?)=some (.str x.1.aI[k],.au):=fun {kk} e=>hx.ki hlt rfl ((Rx.trans he).trans e)
  rw[hd,aai]at hi;obtain⟨y,hy⟩:∃y,y=x.1.aI[k]:=⟨_,rfl⟩;rw[←hy]at ld hi hm;refine Rs (nw t2 t3 t4 t7 @ls @lr hx.aL e3 ix @ld @aG) ?_;refine WF.ce T.c84 (r84 T ((o.ext (Rx.trans he)).ext Xx) l hm t) fun g3=>?_
  cases hr:jo V.an t y with
  | true=>
   rw[hr]at hi;refine Rs (A4 t2 t3 t4 t7) ?_;refine⟨(Rx.trans he).trans Xx,?_⟩;rw[hi];rfl
  | false=>
   rw[hr]at hi;refine Rs (A5 t2 t3 t4 t7 e5) ?_;exact⟨_,Om,k+1,Om,rfl,he.trans Xx,hi,rfl⟩
 ·have e3:=fQ hlt;have e4:k=x.1.aI.length:=Om
  refine Rs (A7 t2 t3 t4 t7 @ls hx.aL e3) ?_;refine⟨Rx.trans he,?_⟩;rw[hi,e4,YZ];rfl
end
def any_eq{α:Type}{p:α→Bool}{L:List α}{k:Nat}(hlt:k < L.length): (L.drop k).any p= (p L[k]|| (L.drop (k+1)).any p):=by
 have hd:L.drop k=L[k]::L.drop (k+1):=Si
 rw[hd,aai]
section
variable {P:Program} (T:fy P) {h:ah}
include T
def r263(n:Int):ay P 263 [.i n] h (fun v _=>v= .dL [.str (mL n),.str (jE n)]):=by
 refine .kM 11 T.mix T.c263 ?_;intro ts hlen t0;unfold fn263;by_cases h1:n=1
 ·have q1:decide (n=1)=true:=X7 h1;refine Rs (A2 t0 q1) ?_;subst h1;rfl
 have q1:decide (n=1)=false:=X3 h1;by_cases h2:n=2
 ·have q2:decide (n=2)=true:=X7 h2;refine Rs (A3 t0 q1 q2) ?_;subst h2;rfl
 have q2:decide (n=2)=false:=X3 h2;by_cases h3:n=3
 ·have q3:decide (n=3)=true:=X7 h3;refine Rs (A4 t0 q1 q2 q3) ?_;subst h3;rfl
 have q3:decide (n=3)=false:=X3 h3;refine Rs (A4 t0 q1 q2 q3) ?_;rw[mL,Yd h1,Yd h2,Yd h3,jE,Yd h1,Yd h2];rfl
def r265{V:RV}(o:aC h V)(l:eC V)(n:By):ay P 265 [.agg V.row,.str n] h (fun v _=>v= .bool (p9 V.an n)):=by
 refine .eD 21 T.mix T.c265 ?_;intro ts hlen t0 t1;unfold fn265;have QU:=@aC.box _ _ o;have hl:=l.l5;refine Rs (A3 t0 t1 @QU) ?_;refine WL.inv T.mix (fun m ts h'=>∃k:Nat,k≤V.aQ.length∧m=V.aQ.length - k∧h' =h++ [ak.b V.row]∧p9 V.an n= (V.aQ.drop k).any (fun p=>decide (p.Ce=n))∧ts.length=21∧slot ts 1= .str n∧slot ts 2= .ptr h.length 0∧slot ts 5= .i k) V.aQ.length
  ⟨0,Om,rfl,rfl,rfl,Sn,(Sq t1),Sw,hP⟩ ?_
 rintro _ ts _ ⟨k,hk,rfl,rfl,hi,hlen,t1,t2,t5⟩;have lb:∀{kk n a},Ext (h++ [ak.b V.row]) kk→aq n (.ptr h.length a) (fun z=>kk[z]?)=dE n a (.b V.row):=fun {_ _ _} e=>az (e.some ba)
 by_cases hlt:k < V.aQ.length
 ·have e3:=eT hlt;have ix:=o.i5.dI (kk:=.i64) hlt;have e5:=wrapN (n:=k) Om;rw[any_eq hlt]at hi;obtain⟨y,hy⟩:∃y,y=V.aQ[k]:=⟨_,rfl⟩;have ld:∀{kk:ah},Ext h kk→aq none (jv V.s5 4 k 1) (fun b=>kk[b]?)=some (.str y.Ce,.au):=fun {kk} e=>o.i5.lG hlt (by rw[←hy];rfl) e
  rw[←hy]at hi;cases hp:decide (y.Ce=n)with
  | true=>
   rw[hp]at hi;refine Rs (nv t1 t2 t5 @lb @gT o.i5.aL e3 ix @ld @hp) ?_;rw[hi];rfl
  | false=>
   rw[hp]at hi;refine Rs (nw t1 t2 t5 @lb @gT o.i5.aL e3 ix @ld @hp e5) ?_;exact⟨_,Om,k+1,Om,rfl,hi,rfl⟩
 ·have e3:=fQ hlt;have e4:k=V.aQ.length:=Om
  refine Rs (A7 t1 t2 t5 @lb @gT o.i5.aL e3) ?_;rw[hi,e4,YZ];rfl
def r264{V}(o:aC h V)(l:eC V){n}(hn:n∈gP V.an):ay P 264 [.agg V.row,.str n] h (fun v _=>v= .str (gI V.an n).gives):=by
 refine .eD 13 T.mix T.c264 ?_;intro ts hlen t0 t1;unfold fn264;have QU:=@aC.box _ _ o;have hlt:=cY hn;have Rm:bp (gP V.an) n < V.aD.length:=by simpa [gP,RV.an]using hlt
 have ix:aZ 4 V.s3 (.i ((bp (gP V.an) n:Nat):Int))=some (cV V.s3 4 (bp (gP V.an) n),.au):=o.i3.dI Rm;have ev:gI V.an n= (V.aD[bp (gP V.an) n]).1:=by
  rw[gI,dh (f:=gS.name) (l:=V.an.aD) (d:=B0) hn];exact Dk
 have ld:∀{k':ah},Ext h k'→aq none (jv V.s3 4 (bp (gP V.an) n) 1) (fun b=>k'[b]?)=some (.str (gI V.an n).gives,.au):=fun {k'} e=>by
  rw[ev];exact o.i3.lG Rm rfl e
 refine Rs (A5 t0 t1 @QU @fN @aG) ?_;refine WF.ce T.c55 (r55 T (o.ext Xx) l n) fun g1=>?_
 have ei:cU (fun y:gS×AV=>decide (y.1.name=n)) V.aD= (bp (gP V.an) n:Int):=by
  rw[gU];exact e9 (f:=fun y:gS×AV=>y.1.name) (by rw[←gU];exact hn)
 exact Dl
def r31{s l}(hs:aK h s 1 (l.map aJ))(hl:l.length < 2^30)(hb:∀s∈l,-1≤s∧s≤999999999):ay P 31 [s] h (fun v _=>v= .i (fC l)):=by
 refine .kM 20 T.mix T.c31 ?_;intro ts hlen t0;unfold fn31;refine Rs t0 ?_;refine WL.inv T.mix (fun n ts h'=>∃k:Nat,k≤l.length∧n=l.length - k∧h' =h∧ts.length=20∧slot ts 0=s∧slot ts 3= .i (fC (l.take k))∧slot ts 4= .i k) l.length
  ⟨0,Om,rfl,rfl,Sn,(Sq t0),hP,hP⟩ ?_
 rintro _ ts h' ⟨k,hk,rfl,rfl,hlen,t0,t3,t4⟩;by_cases hlt:k < l.length
 ·have e3:=eT hlt;have e5:=wrapN (n:=k) Om;have ix:=hs.dI (kk:=.i64) hlt;have ld:=hs.ki (i:=k) (x:=.i l[k]) hlt rfl (Ext.refl _);have hd:=uj (l.take k) 1 (fun s hs=>hb s (Zd hs)) De De;have Tf:=hb _ (Yi hlt);have Rr:-16777213 < fC (l.take k)∧fC (l.take k)< 16777213:=hd;have w1:IntKind.i64.wrap (257 * fC (l.take k))=257 * fC (l.take k):=bo Om Om;have w2:IntKind.i64.wrap (257 * fC (l.take k)+l[k])=257 * fC (l.take k)+l[k]:=bo Om Om;have er:=oh (k:=.i64) (a:=257 * fC (l.take k)+l[k]) (b:=16777213) De;have Rh:fC (l.take (k+1))= (257 * fC (l.take k)+l[k]).tmod 16777213:=by
   exact z156
  rw[←Rh]at er;refine Rs (nw t0 t3 t4 hs.aL e3 ix @ld @w1 @w2 @er e5) ?_;exact⟨_,Om,k+1,Om,rfl,rfl,rfl⟩
 ·have e3:=fQ hlt;have e4:k=l.length:=Om
  refine Rs (A5 t0 t3 t4 hs.aL e3) ?_;rw[e4,YF]
def r60{x}(hx:aK h x.2 1 (x.1.bz.map aJ))(hl:x.1.bz.length < 2^30):ay P 60 [.agg (bN x)] h (fun v h'=>aK h' v 1 ((cS x.1.bz 0).map aJ)):=by
 refine .kM 23 T.mix T.c60 ?_;intro ts hlen t0;unfold fn60;have ox:=hx.one;unfold bN at t0;refine Rs (A2 t0 @ox) ?_;obtain⟨H0,U5⟩:∃H0,H0=h++ [ak.b [AV.str x.1.name,.str x.1.mod,x.2]]:=⟨_,rfl⟩;have e0:Ext h H0:=by rw[U5];exact Xx
 have lb:∀{k n a},Ext H0 k→aq n (.ptr h.length a) (fun z=>k[z]?)=dE n a (.b [AV.str x.1.name,.str x.1.mod,x.2]):=fun {_ _ _} e=>az (e.some (by rw[U5];exact ba))
 rw[←U5];refine WL.inv T.mix (fun n ts h'=>∃ (k:Nat) (out:AV),k≤x.1.bz.length∧n=x.1.bz.length - k∧Ext H0 h'∧Fr H0.length h' out 1 ((cS (x.1.bz.take k) 0).map aJ)∧
   ts.length=23∧slot ts 1= .ptr h.length 0∧slot ts 3=out∧slot ts 4= .i k) x.1.bz.length
  ⟨0,.af,Om,rfl,Ext.refl _,.nil,Sn,(Sq t0),(Sq t0),hP⟩ ?_
 rintro _ ts _ ⟨k,out,hk',rfl,⟨g,rfl⟩,hfr,hlen,t1,t3,t4⟩;by_cases hlt:k < x.1.bz.length
 ·have e3:=eT hlt;have ix:=hx.dI (kk:=.i64) hlt;have ld:∀{k':ah},Ext H0 k'→aq none (cV x.2 1 k) (fun b=>k'[b]?)=some (.i x.1.bz[k],.au):=fun {k'} e=>hx.ki hlt rfl (e0.trans e)
  have e5:=wrapN (n:=k) Om;have Rh:cS (x.1.bz.take (k+1)) 0=cS (x.1.bz.take k) 0++ (if x.1.bz[k] < 0 then [(k:Int)]else []):=by
   exact PJ
  by_cases hn:x.1.bz[k] < 0
  ·have q:decide (x.1.bz[k] < 0)=true:=X7 hn;rw[Yh hn]at Rh;refine Rs (A9 t1 t3 t4 @lb hx.aL e3 ix @ld q) ?_;have Tc:=jR (l:=x.1.bz.take k) (i:=0);refine WR.fL (h0:=H0) (cs:=(cS (x.1.bz.take k) 0).map aJ) (ys:=[aJ (k:Int)]) (hfr.app _) (Fr.push (N:=0) (YB _) [aJ (k:Int)] Si).aX De Si (by simp only[Ya,Y5,X8,X9]at Tc ⊢;omega) Xx ?_;intro g' Q7 hff hkp;have hrow: (cS (x.1.bz.take k) 0).map aJ++ [aJ (k:Int)]= (cS (x.1.bz.take (k+1)) 0).map aJ:=by rw[Rh,Yc];rfl
   rw[hrow]at hff;rw[hrow];refine Rs (A4 t1 t3 t4 e5) ?_;exact z51
  ·have q:decide (x.1.bz[k] < 0)=false:=X3 hn;rw[Yd hn,Yu]at Rh;refine Rs (nv t1 t3 t4 @lb hx.aL e3 ix @ld q e5) ?_;refine⟨_,Om,k+1,out,Om,rfl,?_,rfl,rfl⟩;rw[Rh];exact hfr
 ·have e3:=fQ hlt;have e4:k=x.1.bz.length:=Om
  refine Rs (A6 t1 t3 t4 @lb hx.aL e3) ?_;rw[e4,YF]at hfr;exact⟨e0.trans Xx,hfr.aX⟩
def r127{V:RV}(o:aC h V)(l:eC V){M:List (By)}{s:AV}(hs:aK h s 1 (M.map ao))(hM:M.length < 2^40):ay P 127 [.agg V.row,s] h (fun v h'=>aK h' v 1 (((V.an.aj.filter fun x=>decide (x.line∈M)).map jI.name).map ao)):=by
 refine .eD 32 T.mix T.c127 ?_;intro ts hlen t0 t1;unfold fn127;have QU:=@aC.box _ _ o;refine Rs (A3 t0 t1 @QU) ?_;obtain⟨H,hH⟩:∃H,H=h++ [ak.b V.row]:=⟨_,rfl⟩;have Rx:Ext h H:=by rw[hH];exact Xx
 have mr:H[h.length]? =some (.b V.row):=by rw[hH];exact ba
 rw[←hH];have eu: (V.an.aj.filter fun x=>decide (x.line∈M)).map jI.name= (V.aj.filter fun x=>decide (x.1.line∈M)).map fun x=>x.1.name:=by
  simp only[RV.an,aaa,ZK];rfl
 rw[eu];refine WL.inv T.mix (fun n ts h'=>∃ (k:Nat) (out:AV),k≤V.aj.length∧n=V.aj.length - k∧Ext H h'∧Fr H.length h' out 1 ((((V.aj.take k).filter fun x=>decide (x.1.line∈M)).map fun x=>x.1.name).map ao)∧
   ts.length=32∧slot ts 1=s∧slot ts 2= .ptr h.length 0∧slot ts 5=out∧slot ts 6= .i k) V.aj.length
  ⟨0,.af,Om,rfl,.refl _,.nil,Sn,(Sq t1),Sw,Sw,hP⟩ ?_
 rintro _ ts h' ⟨k,out,QY,rfl,⟨g,rfl⟩,hfr,hlen,t1,t2,t5,t6⟩;have he:Ext H (H++g):=⟨_,rfl⟩;have lr:∀{kk n a},Ext (H++g) kk→aq n (.ptr h.length a) (fun z=>kk[z]?)=dE n a (.b V.row):=fun {_ _ _} e=>az ((he.trans e).some mr)
 have Tc:=l.l2;by_cases hlt:k < V.aj.length
 ·have e3:=eT hlt;have e5:=wrapN (n:=k) Om;have ix:=o.i2.dI (kk:=.i64) hlt;obtain⟨y,hy⟩:∃y,y=V.aj[k]:=⟨_,rfl⟩;have lf:∀{kk:ah},Ext (H++g) kk→aq none (jv V.s2 3 k 0) (fun b=>kk[b]?)=some (.str y.1.name,.au):=fun {kk} e=>o.i2.lG hlt (by rw[←hy];rfl) ((Rx.trans he).trans e)
  have lg:∀{kk:ah},Ext (H++g) kk→aq none (jv V.s2 3 k 1) (fun b=>kk[b]?)=some (.str y.1.line,.au):=fun {kk} e=>o.i2.lG hlt (by rw[←hy];rfl) ((Rx.trans he).trans e)
  have Rh:V.aj.take (k+1)=V.aj.take k++ [y]:=by rw[hy,YM,X6 hlt];rfl
  refine Rs (nv t1 t2 t5 t6 @lr @fF o.i2.aL e3 ix @lg) ?_;refine WF.ce T.c35 (r35 T (hs.ext (Rx.trans he)) hM _) fun g3=>?_
  cases hd:decide (y.1.line∈M)with
  | false=>
   refine Rs (A5 t1 t2 t5 t6 e5) ?_;exact PR
  | true=>
   refine Rs (A8 t1 t2 t5 t6 @lr @fF ix @lf) ?_;have Ru: ((V.aj.take k).filter fun x=>decide (x.1.line∈M)).length≤V.aj.length:=YQ (YK _ _) (by rw[Y5];omega);refine WR.fL (h0:=H) (cs:=(((V.aj.take k).filter fun x=>decide (x.1.line∈M)).map fun x=>x.1.name).map ao) (ys:=[ao y.1.name]) ((hfr.app _).app _) (Fr.push (N:=0) (YB _) [ao y.1.name] (by simp[ao])).aX De Si (by simp only[Ya,X8,X9];omega) (by rw[X4,X4];exact⟨_,rfl⟩) ?_;intro g' Q7 hff hkp;have hrow: (((V.aj.take k).filter fun x=>decide (x.1.line∈M)).map fun x=>x.1.name).map ao++ [ao y.1.name]= (((V.aj.take (k+1)).filter fun x=>decide (x.1.line∈M)).map fun x=>x.1.name).map ao:=by
    exact MO
   rw[hrow]at hff;rw[hrow];refine Rs (A5 t1 t2 t5 t6 e5) ?_;exact z51
 ·have e3:=fQ hlt;have e4:k=V.aj.length:=Om
  refine Rs (A8 t1 t2 t5 t6 @lr @fF o.i2.aL e3) ?_;rw[e4,YF]at hfr;exact⟨Rx.trans he,hfr.aX⟩
end
end Go.Abs
namespace Go.Abs
section
variable {P:Program} {ro:Option Nat→Prop} {ks:List Kt} {ts:TS} {Q:Ex→TS→ah→Prop}
def WR.Fc{h s y es cs ys h0 w d l}
  (hs:Fr h0.length h s es cs) (hy:aK h y es ys) (hes:0 < es) (dZ: (cs.length+ys.length) * w≤2^46) (he:Ext h0 h)
  (K:∀s' g,Fr h0.length (h0++g) s' es (cs++ys)→(∀b,b < h.length→sB s≠some b→(h0++g)[b]? =h[b]?)→h.length≤(h0++g).length→WP P ro l ks (put ts d s') (h0++g) Q):
  WR P ro (pB es w s y (fun b=>h[b]?) h.length) false d l ks ts h Q:=by
 by_cases hn:ys.length=0
 ·have hys:ys= []:=Y9.1 hn;subst hys;obtain⟨g,rfl⟩:=he;rw[Yu]at K;have e:pB es w s y (fun b=>(h0++g)[b]?) (h0++g).length=some (s,.au):=by
   simp only[pB,hy.ff];cases hs with
   | nil=>simp
   | mk hN hb h'=>simp
  rw[e,iT];exact K s g hs (fun _ _ _=>rfl) (Yg _)
 ·refine WR.fL hs hy hes Om dZ he fun g h1 h2 h3=>K _ g h2 (fun b hb hne=>h3 b hb fun b0 o n e Xy hbb=>hne (by rw[Xy,hbb];rfl)) Om
end
def D6{R}(w:fk R){x}(hx:x∈R.aD):gI R x.name=x:=ue (f:=gS.name) w.n3.nd hx
def pR{m l x}:cN m (l++ [x])=if x.name∈cN m l then cN m l++x.bw else cN m l:=by
 rw[cN,List.foldl_append];rfl
def vw{m}:∀{l},(∀x∈l,x.bw.length≤2)→(cN m l).length≤1+2 * l.length:=by
 intro l;have key:∀ (l:List gS) (a:List (By)),(∀x∈l,x.bw.length≤2)→(l.foldl (fun n x=>if x.name∈n then n++x.bw else n) a).length≤a.length+2 * l.length:=by
  intro l
  induction l with
  | nil=>intro a _;simp
  | cons x l ih=>
   intro a hl;have h1:=hl x Si;have:=ih (if x.name∈a then a++x.bw else a) (fun y hy=>hl y (YI _ hy));rw[Z9];refine YQ this ?_;split<;>simp only[X2,X8]<;>omega
 intro hl;exact key l [m] hl
set_option maxRecDepth 10000
attribute [local irreducible] WP WC WE WB WR WF WL WG fT WM
section
variable {P:Program} (T:fy P) {h:ah}
include T
def r58{V}(o:aC h V)(w:fk V.an)(m:By):ay P 58 [.agg V.row,.str m] h (fun v h'=>aK h' v 1 (((mC V.an m).map gS.name).map ao)):=by
 refine .eD 60 T.mix T.c58 ?_;intro ts hlen t0 t1;unfold fn58;have QU:=@aC.box _ _ o;have l:=w.len;have hn32:V.aD.length≤32:=by have:=w.l3;simpa [RV.an]using this
 have hin:∀x∈V.an.aD,x.bw.length≤2:=fun x hx=>(w.md x hx).2.1
 have hml:V.an.aD.length=V.aD.length:=by simp[RV.an]
 have ew:IntKind.i64.wrap ((V.aD.length:Int) - 1)= (V.aD.length:Int) - 1:=bo Om Om;have lb0:∀{kk n a},Ext (h++ [ak.b V.row]) kk→aq n (.ptr h.length a) (fun z=>kk[z]?)=dE n a (.b V.row):=fun {_ _ _} e=>az (e.some ba)
 refine Rs (A7 t0 t1 @QU @lb0 @fN o.i3.aL @ew) ?_;obtain⟨H,hH⟩:∃H,H=h++ [ak.b V.row]:=⟨_,rfl⟩;have Rx:Ext h H:=by rw[hH];exact Xx
 have mr:H[h.length]? =some (.b V.row):=by rw[hH];exact ba
 rw[←hH];refine WL.inv T.mix (fun n ts h'=>∃ (k:Nat) (ws:AV),k≤V.aD.length∧n=V.aD.length - k∧Ext H h'∧aK h' ws 1 ((cN m (V.an.aD.reverse.take k)).map ao)∧
   ts.length=60∧slot ts 2= .ptr h.length 0∧slot ts 5=ws∧slot ts 6= .i ((V.aD.length:Int) - 1 - k)) V.aD.length
  ⟨0,.slice H.length 0 1 1,Om,rfl,⟨_,rfl⟩,(Fr.push (N:=0) (YB _) [ao m] (by simp[ao])).aX,Sn,Sw,Sw,(by simp only[aW,bd,bC,bD,reduceAdd,reduceMul,reduceLeDiff,reduceEqDiff,bE,hlen,Yo,Ys];simp)⟩ ?_
 clear t0 t1 hlen lb0;clear ts;rintro _ ts h' ⟨k,ws,hk,rfl,⟨g,rfl⟩,Ux,hlen,t2,t5,t6⟩;have he:Ext H (H++g):=⟨_,rfl⟩;have lr:∀{kk n a},Ext (H++g) kk→aq n (.ptr h.length a) (fun z=>kk[z]?)=dE n a (.b V.row):=fun {_ _ _} e=>az ((he.trans e).some mr)
 have hwl:=vw (m:=m) (l:=V.an.aD.reverse.take k) (fun x hx=>hin x (List.mem_reverse.1 (Zd hx)));have htl: (V.an.aD.reverse.take k).length≤32:=by rw[Y5,ZZ];omega
 by_cases hlt:k < V.aD.length
 ·have hi:V.aD.length - 1 - k < V.aD.length:=Om
  have ei: (V.aD.length:Int) - 1 - k= ((V.aD.length - 1 - k:Nat):Int):=Om
  have e3:decide (0≤(V.aD.length:Int) - 1 - k)=true:=X7 Om;have e5:IntKind.i64.wrap ((V.aD.length:Int) - 1 - k - 1)= (V.aD.length:Int) - 1 - ((k+1:Nat):Int):=by rw[bo Om Om];omega
  have ix:aZ 4 V.s3 (.i ((V.aD.length:Int) - 1 - k))=some (cV V.s3 4 (V.aD.length - 1 - k),.au):=by rw[ei];exact o.i3.dI hi
  obtain⟨y,hy⟩:∃y,y=V.aD[V.aD.length - 1 - k]:=⟨_,rfl⟩;have Xq:y∈V.aD:=by rw[hy];exact Yi _
  have ld:∀{kk:ah},Ext (H++g) kk→aq (some 4) (cV V.s3 4 (V.aD.length - 1 - k)) (fun b=>kk[b]?)=some (.agg (aV y),.au):=fun {kk} e=>by rw[hy];exact o.i3.kR hi ((Rx.trans he).trans e)
  have Rh:V.an.aD.reverse.take (k+1)=V.an.aD.reverse.take k++ [y.1]:=by
   have hk':k < V.an.aD.reverse.length:=by rw[ZZ];omega
   rw[YM,X6 hk',List.getElem_reverse];simp only[RV.an,Zf,Ya,Option.toList_some,hy]
  have oy:=(o.e3 y Xq).one;have hy3:=o.e3 y Xq;unfold aV at ld;refine Rs (A9 t2 t5 t6 e3 @lr @fN ix @ld @oy) ?_;refine WF.ce T.c35 (r35 T (Ux.ext Xx) Om _) fun g3=>?_
  cases hd:decide (y.1.name∈cN m (V.an.aD.reverse.take k))with
  | false=>
   refine Rs (A4 t2 t5 t6 e5) ?_;refine⟨_,Om,k+1,ws,Om,rfl,?_,rfl,rfl⟩;rw[Rh,pR,Yd (of_decide_eq_false hd)];exact Ux.ext Xx
  | true=>
   refine Rs (A3 t2 t5 t6) ?_;obtain⟨H1,Vs⟩:∃H1,H1=H++g++ [ak.b [AV.str y.1.name,.str y.1.gives,.str y.1.line,y.2]]++g3:=⟨_,rfl⟩;obtain⟨bx,QU⟩:∃bx,bx= (H++g).length:=⟨_,rfl⟩;have Sj:Ext (H++g) H1:=by rw[Vs];exact Xx
   have mx:H1[bx]? =some (.b [AV.str y.1.name,.str y.1.gives,.str y.1.line,y.2]):=by rw[Vs,QU];exact(show Ext (H++g++ [ak.b [AV.str y.1.name,.str y.1.gives,.str y.1.line,y.2]]) _ from Xx).some ba
   have hbl:bx < H1.length:=(X1.1 mx).1;rw[←Vs,←QU];refine oT (fun h=>h[bx]? =some (.b [AV.str y.1.name,.str y.1.gives,.str y.1.line,y.2])) ?_;refine c7 mx rfl rfl ?_;refine Rs t2 ?_;have x2:Ext H1 (H1++ [ak.b []]):=⟨_,rfl⟩;have m2: (fun h:ah=>h[bx]? =some (.b [AV.str y.1.name,.str y.1.gives,.str y.1.line,y.2])) (H1++ [ak.b []]):=x2.some mx;refine c7 m2 rfl rfl ?_;refine Rs (A2 t2 t5) ?_;refine c7 m2 rfl rfl ?_;refine Rs (A2 t2 t5) ?_;refine WR.pA (N:=H1.length) ba (Yg _) (Ux.ext (Sj.trans x2)) (by simp only[Ya];omega) fun s' g5 XO=>?_
   have x3:Ext H1 (H1++ [ak.b []]++g5):=Xx;have m3: (fun h:ah=>h[bx]? =some (.b [AV.str y.1.name,.str y.1.gives,.str y.1.line,y.2])) (H1++ [ak.b []]++g5):=x3.some mx;refine Rs (A2 t2 t5) ?_;refine c7 m3 rfl rfl ?_;refine Rs (A2 t2 t5) ?_;refine kN m3 (v:=y.2) (fun z hz=>?_) ?_
   ·simp only[aW,bd,bC,bD,reduceAdd,reduceMul,reduceLeDiff,reduceEqDiff,bE,hlen,Yo,Ys,t2,az hz]
   refine Rs (A2 t2 t5) ?_;refine c7 m3 rfl rfl ?_;refine Rs (A2 t2 t5) ?_;have SO:y.1.bw.length≤2:=hin y.1 (Yx Xq);refine WR.Fc (h0:=H1) (ys:=y.1.bw.map ao) XO (hy3.ext (((Rx.trans he).trans Sj).trans x3)) De (by simp only[Ya];omega) x3 fun s6 g6 hf6 hk6 hl6=>?_
   have m6: (fun h:ah=>h[bx]? =some (.b [AV.str y.1.name,.str y.1.gives,.str y.1.line,y.2])) (H1++g6):=(Ext.app g6 (Ext.refl H1)).some mx;refine Rs (A2 t2 t5) ?_;refine oS m6 rfl ?_;refine Rs (A4 t2 t5 t6 e5) ?_;refine⟨_,Om,k+1,s6,Om,rfl,⟨_,by rw[Vs];simp only[X4];rfl⟩,?_,rfl,rfl⟩;rw[Rh,pR,Yh (Zq hd),Yc];exact hf6.aX
 ·have e3:decide (0≤(V.aD.length:Int) - 1 - k)=false:=X3 Om;have e4:k=V.aD.length:=Om
  refine Rs (A4 t2 t5 t6 e3) ?_;have hns:cN m (V.an.aD.reverse.take k)=cN m V.an.aD.reverse:=by rw[e4,←hml,←ZZ,YF]
  rw[hns]at Ux hwl;have eu: (mC V.an m).map gS.name= (V.aD.filter fun x=>decide (x.1.name∈cN m V.an.aD.reverse)).map fun x=>x.1.name:=by
   rw[←ph,iC,ZK];rfl
  rw[eu];obtain⟨W,hW⟩:∃W,W=cN m V.an.aD.reverse:=⟨_,rfl⟩;rw[←hW]at Ux hwl ⊢;have hwl2:W.length≤65:=Om
  clear hwl;refine WL.inv T.mix (fun n ts h'=>∃ (k:Nat) (out:AV),k≤V.aD.length∧n=V.aD.length - k∧Ext (H++g) h'∧Fr (H++g).length h' out 1 ((((V.aD.take k).filter fun x=>decide (x.1.name∈W)).map fun x=>x.1.name).map ao)∧
    ts.length=60∧slot ts 2= .ptr h.length 0∧slot ts 5=ws∧slot ts 8=out∧slot ts 9= .i k) V.aD.length
   ⟨0,.af,Om,rfl,.refl _,.nil,Sn,(Sq t2),(Sq t5),Sw,hP⟩ ?_
  clear t2 t5 t6 hlen lr hlt e3 e4 hk htl hns;clear ts k;rintro _ ts _ ⟨k,out,QY,rfl,⟨g2,rfl⟩,hfr,hlen,t2,t5,t8,t9⟩;have Q6:Ext (H++g) (H++g++g2):=⟨_,rfl⟩;have lr:∀{kk n a},Ext (H++g++g2) kk→aq n (.ptr h.length a) (fun z=>kk[z]?)=dE n a (.b V.row):=fun {_ _ _} e=>az (((he.trans Q6).trans e).some mr)
  by_cases hlt:k < V.aD.length
  ·have e3:=eT hlt;have e5:=wrapN (n:=k) Om;have ix:=o.i3.dI (kk:=.i64) hlt;obtain⟨y,hy⟩:∃y,y=V.aD[k]:=⟨_,rfl⟩;have lf:∀{kk:ah},Ext (H++g++g2) kk→aq none (jv V.s3 4 k 0) (fun b=>kk[b]?)=some (.str y.1.name,.au):=fun {kk} e=>o.i3.lG hlt (by rw[←hy];rfl) (((Rx.trans he).trans Q6).trans e)
   have Rh:V.aD.take (k+1)=V.aD.take k++ [y]:=by rw[hy,YM,X6 hlt];rfl
   refine Rs (nv t2 t5 t8 t9 @lr @fN o.i3.aL e3 ix @lf) ?_;refine WF.ce T.c35 (r35 T (Ux.ext Q6) Om _) fun g3=>?_
   cases hd:decide (y.1.name∈W)with
   | false=>
    refine Rs (A5 t2 t5 t8 t9 e5) ?_;exact PR
   | true=>
    refine Rs (A8 t2 t5 t8 t9 @lr @fN ix @lf) ?_;have Ru: ((V.aD.take k).filter fun x=>decide (x.1.name∈W)).length≤V.aD.length:=YQ (YK _ _) (by rw[Y5];omega);refine WR.fL (h0:=H++g) (cs:=(((V.aD.take k).filter fun x=>decide (x.1.name∈W)).map fun x=>x.1.name).map ao) (ys:=[ao y.1.name]) ((hfr.app _).app _) (Fr.push (N:=0) (YB _) [ao y.1.name] (by simp[ao])).aX De Si (by simp only[Ya,X8,X9];omega) (by rw[X4,X4];exact⟨_,rfl⟩) ?_;intro g' Q7 hff hkp;have hrow: (((V.aD.take k).filter fun x=>decide (x.1.name∈W)).map fun x=>x.1.name).map ao++ [ao y.1.name]= (((V.aD.take (k+1)).filter fun x=>decide (x.1.name∈W)).map fun x=>x.1.name).map ao:=by
     exact MO
    rw[hrow]at hff;rw[hrow];refine Rs (A5 t2 t5 t8 t9 e5) ?_;exact z51
  ·have e3:=fQ hlt;have e4:k=V.aD.length:=Om
   refine Rs (A8 t2 t5 t8 t9 @lr @fN o.i3.aL e3) ?_;rw[e4,YF]at hfr;exact⟨(Rx.trans he).trans Q6,hfr.aX⟩
def r59{V}(o:aC h V)(w:fk V.an)(m:By):ay P 59 [.agg V.row,.str m] h (fun v h'=>aK h' v 1 (((iJ V.an m).map gM.name).map ao)):=by
 refine .eD 64 T.mix T.c59 ?_;intro ts hlen t0 t1;unfold fn59;have QU:=@aC.box _ _ o;have l:=w.len;have hn32:V.aD.length≤32:=by have:=w.l3;simpa [RV.an]using this
 have hml:V.an.aD.length=V.aD.length:=by simp[RV.an]
 refine Rs (A4 t0 t1 @QU @aG) ?_;refine WF.res T.c58 (r58 T (o.ext Xx) w m) ?_;rintro ns g0 hns;obtain⟨M,hM⟩:∃M,M=mC V.an m:=⟨_,rfl⟩;rw[←hM]at hns;have hMm:∀x∈M,x∈V.an.aD:=fun x hx=>by rw[hM]at hx;exact(Zk.1 hx).1
 have hMl:M.length≤32:=by
  have h1:M.length≤V.an.aD.length:=by rw[hM];unfold mC;exact YK _ _
  omega
 obtain⟨H,hH⟩:∃H,H=h++ [ak.b V.row]++g0:=⟨_,rfl⟩;have Rx:Ext h H:=by rw[hH];exact Xx
 have mr:H[h.length]? =some (.b V.row):=by rw[hH];exact(show Ext (h++ [ak.b V.row]) _ from Xx).some ba
 rw[←hH]at hns ⊢;rw[ZK]at hns;refine Rs (A2 t0 t1) ?_;obtain⟨F,hF⟩:∃F:List gS→List (By),F=fun l=>(l.filter fun x=>decide (x.bw= [])).map gS.line:=⟨_,rfl⟩
 refine WL.inv T.mix (fun n ts h'=>∃ (k:Nat) (out:AV),k≤M.length∧n=M.length - k∧Ext H h'∧Fr H.length h' out 1 ((F (M.take k)).map ao)∧
   ts.length=64∧slot ts 2= .ptr h.length 0∧slot ts 5=ns∧slot ts 6=out∧slot ts 7= .af∧slot ts 8= .i k) M.length
  ⟨0,.af,Om,rfl,.refl _,(by rw[hF];exact .nil),Sn,Sw,Sw,Sw,Sw,hP⟩ ?_
 rintro _ ts _ ⟨k,out,hk,rfl,⟨g,rfl⟩,hfr,hlen,t2,t5,t6,t7,t8⟩;have he:Ext H (H++g):=⟨_,rfl⟩;have lr:∀{kk n a},Ext (H++g) kk→aq n (.ptr h.length a) (fun z=>kk[z]?)=dE n a (.b V.row):=fun {_ _ _} e=>az ((he.trans e).some mr)
 have hFl:∀j,(F (M.take j)).length≤M.length:=fun j=>by
  rw[hF];simp only[Ya];exact YQ (YK _ _) (by rw[Y5];omega)
 by_cases hlt:k < M.length
 ·have e3:=eT hlt;have e5:=wrapN (n:=k) Om;have ix:=hns.dI (kk:=.i64) hlt;obtain⟨x,hx⟩:∃x,x=M[k]:=⟨_,rfl⟩;have RC:x∈V.an.aD:=hMm x (by rw[hx];exact Yi _);have lf:∀{kk:ah},Ext (H++g) kk→aq none (cV ns 1 k) (fun b=>kk[b]?)=some (.str x.name,.au):=fun {kk} e=>hns.ki hlt (by rw[←hx];rfl) (he.trans e)
  have UH:x.name∈gP V.an:=Yx RC;have hps:=cY UH;have Te:bp (gP V.an) x.name < V.aD.length:=by simpa [gP,RV.an]using hps
  have iy:aZ 4 V.s3 (.i ((bp (gP V.an) x.name:Nat):Int))=some (cV V.s3 4 (bp (gP V.an) x.name),.au):=o.i3.dI Te;obtain⟨y,hy⟩:∃y,y=V.aD[bp (gP V.an) x.name]:=⟨_,rfl⟩;have Xq:y∈V.aD:=by rw[hy];exact Yi _
  have Xp:y.1=x:=by
   have e1:=D6 w RC;rw[gI,dh (f:=gS.name) (l:=V.an.aD) (d:=B0) UH]at e1;rw[←e1,hy];exact Dk
  have ly:∀{kk:ah},Ext (H++g) kk→aq (some 4) (cV V.s3 4 (bp (gP V.an) x.name)) (fun b=>kk[b]?)=some (.agg (aV y),.au):=fun {kk} e=>by rw[hy];exact o.i3.kR Te ((Rx.trans he).trans e)
  have Rh:M.take (k+1)=M.take k++ [x]:=by rw[hx,YM,X6 hlt];rfl
  have oy:=o.e3 y Xq;have Xh:=oy.one;unfold aV at ly;refine Rs (pJ t2 t5 t6 t7 t8 hns.aL e3 @lr @fN @aG ix @lf) ?_;refine WF.ce T.c55 (r55 T ((o.ext (Rx.trans he)).ext Xx) l _) fun g1=>?_
  have ei:cU (fun y:gS×AV=>decide (y.1.name=x.name)) V.aD= (bp (gP V.an) x.name:Int):=by
   rw[gU];exact e9 (f:=fun y:gS×AV=>y.1.name) (by rw[←gU];exact UH)
  rw[ei];refine Rs (A9 t2 t5 t6 t7 t8 @iy @ly @Xh oy.aL) ?_;rw[Xp];by_cases hin:x.bw= []
  ·have q:decide ((x.bw.length:Int)=0)=true:=X7 (by rw[hin];rfl);refine Rs (A6 t2 t5 t6 t7 t8 q) ?_;have Ru:=hFl k;refine WR.fL (h0:=H) (cs:=(F (M.take k)).map ao) (ys:=[ao x.line]) (((hfr.app _).app _).app _) (Fr.push (N:=0) (YB _) [ao x.line] (by simp[ao])).aX De Si (by simp only[Ya,X8,X9];omega) (by simp only[X4];exact⟨_,rfl⟩) ?_;intro g' Q7 hff hkp;have hrow: (F (M.take k)).map ao++ [ao x.line]= (F (M.take (k+1))).map ao:=by
    rw[Rh,hF];simp only[Zw,ZR,Z7,hin,Yk,Ys,Yc,YY,ZV]
   rw[hrow]at hff;rw[hrow];refine Rs (A6 t2 t5 t6 t7 t8 e5) ?_;exact z51
  ·have q:decide ((x.bw.length:Int)=0)=false:=X3 (fun z=>hin (Y9.1 Om));refine Rs (A7 t2 t5 t6 t7 t8 q e5) ?_;refine⟨_,Om,k+1,out,Om,rfl,?_,rfl,rfl⟩;have:F (M.take (k+1))=F (M.take k):=by
    rw[Rh,hF];simp only[Zw,ZR,Z7,hin,Yp,YS,Yo,Yu]
   rw[this];exact(hfr.app _).app _
 ·have e3:=fQ hlt;have e4:k=M.length:=Om
  rw[e4,YF]at hfr;have Ru:=hFl M.length;rw[YF]at Ru;have hsrc:∀y∈V.lines,decide (y.name∈F M)=decide (y.name∈(mC V.an m).map gS.line):=fun y hy=>by
   refine ZS.2 ?_;rw[←hM,hF];simp only[YA,Zk,YO];constructor
   ·rintro⟨x,⟨h1,_⟩,h2⟩;exact⟨x,h1,h2⟩
   ·rintro⟨x,h1,h2⟩;refine⟨x,⟨h1,?_⟩,h2⟩;rcases(w.md x (hMm x h1)).1 with⟨a,_⟩| ⟨_,a⟩
    ·exact a
    ·have hnn:=w.n0.nm y.name (Yx hy);rw[←h2,a]at hnn;cases hnn
  have eu: (iJ V.an m).map gM.name= (V.lines.filter fun y=>decide (y.name∈F M)).map gM.name:=by
   rw[iJ];congr 1;exact(List.filter_congr fun y hy=>hsrc y hy).symm
  rw[eu];obtain⟨W,hW⟩:∃W,W=F M:=⟨_,rfl⟩;rw[←hW]at hfr Ru ⊢;have Ux:=hfr.aX;refine Rs (A7 t2 t5 t6 t7 t8 hns.aL e3) ?_;refine WL.inv T.mix (fun n ts h'=>∃ (k:Nat) (res:AV),k≤V.lines.length∧n=V.lines.length - k∧Ext (H++g) h'∧Fr (H++g).length h' res 1 ((((V.lines.take k).filter fun y=>decide (y.name∈W)).map gM.name).map ao)∧
    ts.length=64∧slot ts 2= .ptr h.length 0∧slot ts 6=out∧slot ts 7=res∧slot ts 10= .i k) V.lines.length
   ⟨0,.af,Om,rfl,.refl _,.nil,Sn,(Sq t2),(Sq t6),(Sq t7),hP⟩ ?_
  clear t2 t5 t6 t7 t8 hlen lr hlt e3 e4 hk;clear ts k;rintro _ ts _ ⟨k,res,QY,rfl,⟨g2,rfl⟩,TD,hlen,t2,t6,t7,t10⟩;have Q6:Ext (H++g) (H++g++g2):=⟨_,rfl⟩;have lr:∀{kk n a},Ext (H++g++g2) kk→aq n (.ptr h.length a) (fun z=>kk[z]?)=dE n a (.b V.row):=fun {_ _ _} e=>az (((he.trans Q6).trans e).some mr)
  have Tc:=l.l0;by_cases hlt:k < V.lines.length
  ·have e3:=eT hlt;have e5:=wrapN (n:=k) Om;have ix:=o.i0.dI (kk:=.i64) hlt;obtain⟨y,hy⟩:∃y,y=V.lines[k]:=⟨_,rfl⟩;have lf:∀{kk:ah},Ext (H++g++g2) kk→aq none (jv V.s0 3 k 0) (fun b=>kk[b]?)=some (.str y.name,.au):=fun {kk} e=>o.i0.lG hlt (by rw[←hy];rfl) (((Rx.trans he).trans Q6).trans e)
   have Rh:V.lines.take (k+1)=V.lines.take k++ [y]:=by rw[hy,YM,X6 hlt];rfl
   refine Rs (nv t2 t6 t7 t10 @lr @ga o.i0.aL e3 ix @lf) ?_;refine WF.ce T.c35 (r35 T (Ux.ext Q6) Om _) fun g3=>?_
   cases hd:decide (y.name∈W)with
   | false=>
    refine Rs (A5 t2 t6 t7 t10 e5) ?_;refine⟨_,Om,k+1,res,Om,rfl,?_,rfl,rfl⟩;rw[Rh,Zw];simp only[ZR,Z7,hd,YS,Yo,Yu];exact TD.app _
   | true=>
    refine Rs (A8 t2 t6 t7 t10 @lr @ga ix @lf) ?_;have hfl2: ((V.lines.take k).filter fun y=>decide (y.name∈W)).length≤V.lines.length:=YQ (YK _ _) (by rw[Y5];omega);refine WR.fL (h0:=H++g) (cs:=(((V.lines.take k).filter fun y=>decide (y.name∈W)).map gM.name).map ao) (ys:=[ao y.name]) ((TD.app _).app _) (Fr.push (N:=0) (YB _) [ao y.name] (by simp[ao])).aX De Si (by simp only[Ya,X8,X9];omega) (by rw[X4,X4];exact⟨_,rfl⟩) ?_;intro g' Q7 hff hkp;have hrow: (((V.lines.take k).filter fun y=>decide (y.name∈W)).map gM.name).map ao++ [ao y.name]= (((V.lines.take (k+1)).filter fun y=>decide (y.name∈W)).map gM.name).map ao:=by
     exact MO
    rw[hrow]at hff;rw[hrow];refine Rs (A5 t2 t6 t7 t10 e5) ?_;exact z51
  ·have e3:=fQ hlt;have e4:k=V.lines.length:=Om
   refine Rs (A8 t2 t6 t7 t10 @lr @ga o.i0.aL e3) ?_;rw[e4,YF]at TD;exact⟨(Rx.trans he).trans Q6,TD.aX⟩
end
def uQ{s c}:ia (s++ [c])= (339 * ia s+ (c.toNat:Int)).tmod 9999749:=by simp[ia]
theorem yD:∀ (s:By) (a:Int),0≤a∧a < 9999749→0≤s.foldl (fun x c=>(339 * x+ (c.toNat:Int)).tmod 9999749) a∧s.foldl (fun x c=>(339 * x+ (c.toNat:Int)).tmod 9999749) a < 9999749
 | [],_,h=>h
 | c::s,a,h=>by
  rw[Z9];exact yD s _ ⟨Int.tmod_nonneg _ Om,Int.tmod_lt_of_pos _ Om⟩
def nD(s:By):0≤ia s∧ia s < 9999749:=yD s 1 Om
def tN(s:By): (jw (ia s)).length≤7:=by
 have:=nD s;rw[kr];exact l9 (k:=6) Om
def uP(s:By): (nC s).length=7:=by
 have:=tN s;unfold nC;rw[X2,Ze];omega
theorem ru{c}:∀{xs},Lib.join xs [c]=jf c xs
 | []=>rfl
 | [x]=>Lib.join_one x [c]
 | x::y::r=>by
  rw[mY Si,←ru (xs:=y::r),Lib.join_cons,Lib.join_cons];simp[Lib.joinTail]
def Cd:∀{xs},Lib.join xs []=xs.flatten
 | []=>rfl
 | x::r=>by rw[Lib.join_cons];simp[Lib.joinTail]
section
variable {P:Program} (T:fy P) (Z:qj P) {h:ah}
include T Z
set_option maxRecDepth 10000 in
def r187(s:By)(hs:s.length≤2^40)(w:Pw h):ay P 187 [.str s] h (fun v _=>v= .str (nC s)):=by
 refine .kM 28 T.mix T.c187 ?_;intro ts hlen t0;unfold fn187;refine Rs t0 ?_;refine WL.inv T.mix (fun n ts' h'=>∃k:Nat,k≤s.length∧n=s.length - k∧h' =h∧ts'.length=28∧slot ts' 0= .str s∧slot ts' 3= .i (ia (s.take k))∧slot ts' 7= .i s.length∧slot ts' 8= .i k) s.length
  ⟨0,Om,rfl,rfl,(Sq t0),(Sq t0),hP,(Sq t0),hP⟩ ?_
 rintro _ ts' _ ⟨k,hk,rfl,rfl,Sa,u0,u3,u7,u8⟩;clear hlen t0;have hlen:=Sa;by_cases hlt:k < s.length
 ·have e3:=eT hlt;have hb:=nD (s.take k);have hcn:=UInt8.toNat_lt s[k];have w1:IntKind.i64.wrap (339 * ia (s.take k))=339 * ia (s.take k):=bo Om Om;have w2:IntKind.i64.wrap (s[k].toNat:Int)= (s[k].toNat:Int):=bo Om Om;have w3:IntKind.i64.wrap (339 * ia (s.take k)+ (s[k].toNat:Int))=339 * ia (s.take k)+ (s[k].toNat:Int):=bo Om Om;have er:=oh (k:=.i64) (a:=339 * ia (s.take k)+ (s[k].toNat:Int)) (b:=9999749) De;rw[←uQ,←mM hlt]at er
  repeat (first| simp (config:={ maxSteps:=1000000 }) only[aW,bd,bC,bD,reduceAdd,reduceMul,reduceLeDiff,reduceEqDiff,bE,hlen,Yo,Ys,u0,u3,u7,u8,e3,jC hlt,w1,w2,w3,er,wrapN (show k+1 < 2^63 by omega)]| simp (config:={ maxSteps:=1000000 }) (disch:=first| (simp only[X2,X8,X9]<;>omega)| rfl| omega| fail) only[fU,aW,bd,bC,bD,reduceAdd,reduceMul,reduceLeDiff,reduceEqDiff,bE,hlen,Yo,Ys,u0,u3,u7,u8,e3,jC hlt,w1,w2,w3,er,wrapN (show k+1 < 2^63 by omega)])
  exact JB
 ·have e3:=fQ hlt;have ek:k=s.length:=Om
  rw[ek,YF]at u3;have hb:=nD s;have hl:=tN s;refine Rs (A5 @u0 @u3 @u7 @u8 e3) ?_;refine WF.ce T.c113 (Z.itoa Om Om w) fun g=>?_
  rw[gx hb.1];have w1:IntKind.i64.wrap (7 - ((jw (ia s)).length:Int))= ((7 - (jw (ia s)).length:Nat):Int):=by rw[bo Om Om];omega
  refine Rs (A2 @u0 @w1) ?_;refine WF.ce T.c252 (Z.rep Om) fun g2=>?_
  refine Rs (A2 @u0 (jz (show(List.replicate (7 - (jw (ia s)).length) (48:UInt8)).length+ (jw (ia s)).length < 2^62 by rw[Ze];omega))) ?_;rfl
def yt{x}(h0:0≤x)(h1:x < 2^62)(w:Pw h):bF P (.func (.func 113) [] []) [.i x] h (fun v _=>v= .str (jw x)):=by
 rw[←gx h0];exact bF.of (a:=[]) (c:=[]) T.c113 (Z.itoa Om Om w)
end
structure PD(e:ed):Prop where
 num:0≤e.num∧e.num < 2^62
 b9:∀x∈e.b9,0≤x∧x < 2^62
 nl:e.names.length≤2^30
 vl:e.b9.length≤2^30
 bl: (iG e).length≤2^38
section
variable {P:Program} (T:fy P) (Z:qj P) {h:ah}
include T Z
set_option maxRecDepth 10000 in
def r186{x}(ox:bg h x)(en:PD x.ev)(w:Pw h):ay P 186 [.agg x.row] h (fun v _=>v= .str (iG x.ev)):=by
 refine .kM 19 T.mix T.c186 ?_;intro ts hlen t0;unfold fn186;have QU:=@bg.box _ _ ox;have hnl:=en.nl;have RL:=en.vl;refine Rs (A5 t0 @QU @na @a8 @aM) ?_;refine WF.ce T.c113 (Z.itoa (by have:=en.num;omega) (by have:=en.num;omega) (w.ext Xx)) fun g1=>?_
 rw[gx en.num.1];refine Rs (A4 t0 @na @a8 @aM) ?_;have hF:=Fr.push (N:=h.length) (h:=h++ [ak.b x.row]++g1) (es:=1) (by simp only[X2];omega) (([jw x.ev.num,x.ev.kind] :List (By)).map ao) (by simp[ao]);refine WR.Fc (h0:=h) (cs:=([jw x.ev.num,x.ev.kind] :List (By)).map ao) (ys:=x.ev.names.map ao) hF (ox.n.ext Xx) De (by simp;omega) Xx ?_;intro s' g hfr hkp hle;rw[←Yc]at hfr;have Rq: (h++g)[h.length]? =some (.b x.row):=by
  rw[hkp _ (by simp only[X2,Yv];omega) (fun e=>by have e2: (h++ [ak.b x.row]++g1).length=h.length:=Y6 e;simp only[X2,Yv]at e2;omega)];simp
 have lb:∀{k:ah} {n':Option Nat} {a:Nat},Ext (h++g) k→aq n' (.ptr h.length a) (fun z=>k[z]?)=dE n' a (.b x.row):=fun e=>az (e.some Rq)
 refine Rs (A3 t0 @lb @aY) ?_;refine WF.res T.c199 (r199 T (ox.v.ext Xx) Om jw (fun y hy k ek=>yt T Z (en.b9 y hy).1 (en.b9 y hy).2 (w.ext (Ext.trans Xx ek)))) ?_;intro v g2 hv;refine Rs t0 ?_;refine WR.Fc (h0:=h) (hfr.app g2) hv.aX De (by simp;omega) Xx ?_;intro s2 g3 TD hkp2 TC;rw[←Yc]at TD;refine Rs t0 ?_;have hbl:=en.bl;refine WF.ce T.c114 (Z.join TD.aX ⟨by rw[ru];show(iG x.ev).length≤_;omega,by simp;omega⟩) fun g4=>?_
 refine Rs t0 ?_;rw[ru];rfl
set_option maxRecDepth 10000 in
def r97{x}(ox:bg h x)(en:PD x.ev)(w:Pw h):ay P 97 [.agg x.row] h (fun v _=>v= .str (vj x.ev)):=by
 refine .kM 12 T.mix T.c97 ?_;intro ts hlen t0;unfold fn97;have QU:=@bg.box _ _ ox;have hbl:=en.bl;refine Rs (A3 t0 @QU @cj) ?_;refine WF.ce T.c186 (r186 T Z (ox.ext Xx) en (w.ext Xx)) fun g=>?_
 refine Rs (A2 t0 (jz (show(iG x.ev).length+ ([35] :By).length < 2^62 by simp;omega))) ?_;refine WF.ce T.c187 (r187 T Z _ Om (w.ext Xx)) fun g2=>?_
 have h7:=uP (iG x.ev);refine Rs (A3 t0 (jz (show(iG x.ev++ [35]).length+ (nC (iG x.ev)).length < 2^62 by simp;omega)) (jz (show(iG x.ev++ [35]++nC (iG x.ev)).length+ ([10] :By).length < 2^62 by simp;omega))) ?_;rfl
theorem BO{e}: (vj e).length= (iG e).length+9:=by
 have:=uP (iG e);unfold vj;simp;omega
end
def Ext.iK{h W b X}(e:Ext h W)(hb:h.length≤b):Ext h (W.set b X):=by
 obtain⟨g,rfl⟩:=e;exact⟨g.set (b - h.length) X,YX _ _ hb⟩
structure eQ(B W0:ah)(b:Nat)(K:Nat→Prop)(W:ah)(U:RV):Prop where
 bk:bX B.length W b U
 ex:Ext B W
 ln:W0.length≤W.length
 kp:∀i,K i→W[i]? =W0[i]?
 kl:∀i,K i→i < W0.length∧i≠b∧some i∉U.bl
section
variable {B W0 W W2:ah} {b:Nat} {K:Nat→Prop} {U:RV} (s:eQ B W0 b K W U)
include s
def eQ.grow(e:Ext W W2):eQ B W0 b K W2 U:=by
 obtain⟨g,rfl⟩:=e;refine⟨s.bk.app g,s.ex.trans ⟨g,rfl⟩,YQ s.ln Si,fun i hi=>?_,s.kl⟩;rw[X5 (YU (s.kl i hi).1 s.ln)];exact s.kp i hi
omit s in
theorem Pf{L s' i}(h:some i∈{ U with lines:=L,s0:=s' }.bl):some i∈U.bl∨sB s' =some i:=by
 exact z21
def eQ.p0{L s'}(hff:Fr B.length W2 s' 3 (L.map cp))(hn:∀i,sB s' =some i→sB U.s0=some i∨W.length≤i)(hk:∀i,i < W.length→sB U.s0≠some i→W2[i]? =W[i]?)(hx:Ext B W2)(hl:W.length≤W2.length):
  eQ B W0 b K (W2.set b (.b (U.row.set 1 s'))) { U with lines:=L,s0:=s' }:=by
 have hbl:=s.bk.lt;have Rb:sB U.s0≠some b:=fun z=>s.bk.ne (by rw[←z];simp[RV.bl])
 have hsb:∀i,sB s' =some i→i≠b:=fun i hi z=>by
  exact IY
 obtain⟨X,hX⟩:∃X,X=ak.b (U.row.set 1 s'):=⟨_,rfl⟩;rw[←hX];have g2:∀i,i≠b→(W2.set b X)[i]? =W2[i]? :=fun i hi=>Yj (Zv hi)
 have gb: (W2.set b X)[b]? =some X:=Yl Om;refine⟨s.bk.My (hff.aB fun i hi=>g2 i (hsb i hi)) hn (by rw[hX]at gb ⊢;exact gb) (fun i hi h1 h2=>(g2 i h2).trans (hk i hi h1)),hx.iK s.bk.hN,by rw[YL];exact YQ s.ln hl,fun i hi=>?_,fun i hi=>?_⟩
 ·exact z20
 ·obtain⟨h1,h2,h3⟩:=s.kl i hi;refine⟨h1,h2,fun hm=>?_⟩;rcases Pf hm with z| z
  ·exact h3 z
  ·exact MH
def eQ.q0{L}(hff:Fr B.length W2 U.s0 3 (L.map cp))(hk:∀i,i < W.length→sB U.s0≠some i→W2[i]? =W[i]?)(hx:Ext B W2)(hl:W.length≤W2.length):eQ B W0 b K W2 { U with lines:=L }:=by
 have hbl:=s.bk.lt;have Rb:sB U.s0≠some b:=fun z=>s.bk.ne (by rw[←z];simp[RV.bl])
 refine⟨s.bk.My (s:=U.s0) hff (fun i hi=>.inl hi) ((hk b hbl Rb).trans s.bk.m) (fun i hi h1 _=>hk i hi h1),hx,YQ s.ln hl,fun i hi=>?_,s.kl⟩;exact JZ
omit s in
theorem Pe{L s' i}(h:some i∈{ U with aI:=L,s1:=s' }.bl):some i∈U.bl∨sB s' =some i:=by
 exact z21
def eQ.p1{L s'}(hff:Fr B.length W2 s' 2 (L.map dQ))(hn:∀i,sB s' =some i→sB U.s1=some i∨W.length≤i)(hk:∀i,i < W.length→sB U.s1≠some i→W2[i]? =W[i]?)(hx:Ext B W2)(hl:W.length≤W2.length):
  eQ B W0 b K (W2.set b (.b (U.row.set 2 s'))) { U with aI:=L,s1:=s' }:=by
 have hbl:=s.bk.lt;have Rb:sB U.s1≠some b:=fun z=>s.bk.ne (by rw[←z];simp[RV.bl])
 have hsb:∀i,sB s' =some i→i≠b:=fun i hi z=>by
  exact IY
 obtain⟨X,hX⟩:∃X,X=ak.b (U.row.set 2 s'):=⟨_,rfl⟩;rw[←hX];have g2:∀i,i≠b→(W2.set b X)[i]? =W2[i]? :=fun i hi=>Yj (Zv hi)
 have gb: (W2.set b X)[b]? =some X:=Yl Om;refine⟨s.bk.Qm (hff.aB fun i hi=>g2 i (hsb i hi)) hn (by rw[hX]at gb ⊢;exact gb) (fun i hi h1 h2=>(g2 i h2).trans (hk i hi h1)),hx.iK s.bk.hN,by rw[YL];exact YQ s.ln hl,fun i hi=>?_,fun i hi=>?_⟩
 ·exact z20
 ·obtain⟨h1,h2,h3⟩:=s.kl i hi;refine⟨h1,h2,fun hm=>?_⟩;rcases Pe hm with z| z
  ·exact h3 z
  ·exact MH
omit s in
theorem Pa{L s' i}(h:some i∈{ U with aQ:=L,s5:=s' }.bl):some i∈U.bl∨sB s' =some i:=by
 exact z21
def eQ.p5{L s'}(hff:Fr B.length W2 s' 4 (L.map c9))(hn:∀i,sB s' =some i→sB U.s5=some i∨W.length≤i)(hk:∀i,i < W.length→sB U.s5≠some i→W2[i]? =W[i]?)(hx:Ext B W2)(hl:W.length≤W2.length):
  eQ B W0 b K (W2.set b (.b (U.row.set 6 s'))) { U with aQ:=L,s5:=s' }:=by
 have hbl:=s.bk.lt;have Rb:sB U.s5≠some b:=fun z=>s.bk.ne (by rw[←z];simp[RV.bl])
 have hsb:∀i,sB s' =some i→i≠b:=fun i hi z=>by
  exact IY
 obtain⟨X,hX⟩:∃X,X=ak.b (U.row.set 6 s'):=⟨_,rfl⟩;rw[←hX];have g2:∀i,i≠b→(W2.set b X)[i]? =W2[i]? :=fun i hi=>Yj (Zv hi)
 have gb: (W2.set b X)[b]? =some X:=Yl Om;refine⟨s.bk.Mx (hff.aB fun i hi=>g2 i (hsb i hi)) hn (by rw[hX]at gb ⊢;exact gb) (fun i hi h1 h2=>(g2 i h2).trans (hk i hi h1)),hx.iK s.bk.hN,by rw[YL];exact YQ s.ln hl,fun i hi=>?_,fun i hi=>?_⟩
 ·exact z20
 ·obtain⟨h1,h2,h3⟩:=s.kl i hi;refine⟨h1,h2,fun hm=>?_⟩;rcases Pa hm with z| z
  ·exact h3 z
  ·exact MH
def eQ.q5{L}(hff:Fr B.length W2 U.s5 4 (L.map c9))(hk:∀i,i < W.length→sB U.s5≠some i→W2[i]? =W[i]?)(hx:Ext B W2)(hl:W.length≤W2.length):eQ B W0 b K W2 { U with aQ:=L }:=by
 have hbl:=s.bk.lt;have Rb:sB U.s5≠some b:=fun z=>s.bk.ne (by rw[←z];simp[RV.bl])
 refine⟨s.bk.Mx (s:=U.s5) hff (fun i hi=>.inl hi) ((hk b hbl Rb).trans s.bk.m) (fun i hi h1 _=>hk i hi h1),hx,YQ s.ln hl,fun i hi=>?_,s.kl⟩;exact JZ
omit s in
theorem Pd{y t s' i}(h:some i∈{ U with aj:=U.aj++ [(y,t)],s2:=s' }.bl):some i∈U.bl∨sB s' =some i∨sB t=some i:=by
 exact z21
def eQ.p2{y t s'}(hff:Fr B.length W2 s' 3 ((U.aj++ [(y,t)]).map bj))(ht:Fr B.length W2 t 1 (y.aI.map ao))(hn:∀i,sB s' =some i→sB U.s2=some i∨W.length≤i)(hnt:∀i,sB t=some i→W.length≤i∧sB s'≠some i)(hk:∀i,i < W.length→sB U.s2≠some i→W2[i]? =W[i]?)(hx:Ext B W2)(hl:W.length≤W2.length):
  eQ B W0 b K (W2.set b (.b (U.row.set 3 s'))) { U with aj:=U.aj++ [(y,t)],s2:=s' }:=by
 have hbl:=s.bk.lt;have Rb:sB U.s2≠some b:=fun z=>s.bk.ne (by rw[←z];simp[RV.bl])
 have hsb:∀i,sB s' =some i→i≠b:=fun i hi z=>by
  exact IY
 have htb:∀i,sB t=some i→i≠b:=fun i hi z=>by
  exact zx
 obtain⟨X,hX⟩:∃X,X=ak.b (U.row.set 3 s'):=⟨_,rfl⟩;rw[←hX];have g2:∀i,i≠b→(W2.set b X)[i]? =W2[i]? :=fun i hi=>Yj (Zv hi)
 have gb: (W2.set b X)[b]? =some X:=Yl Om;refine⟨s.bk.Ql (hff.aB fun i hi=>g2 i (hsb i hi)) (ht.aB fun i hi=>g2 i (htb i hi)) hn hnt (by rw[hX]at gb ⊢;exact gb) (fun i hi h1 h2=>(g2 i h2).trans (hk i hi h1)),hx.iK s.bk.hN,by rw[YL];exact YQ s.ln hl,fun i hi=>?_,fun i hi=>?_⟩
 ·exact z20
 ·obtain⟨h1,h2,h3⟩:=s.kl i hi;have VJ:=s.ln;refine⟨h1,h2,fun hm=>?_⟩;rcases Pd hm with z| z| z
  ·exact h3 z
  ·rcases hn i z with z| z
   ·exact GQ
   ·omega
  ·have:=(hnt i z).1;omega
omit s in
theorem Pc{y t s' i}(h:some i∈{ U with aD:=U.aD++ [(y,t)],s3:=s' }.bl):some i∈U.bl∨sB s' =some i∨sB t=some i:=by
 exact z21
def eQ.p3{y t s'}(hff:Fr B.length W2 s' 4 ((U.aD++ [(y,t)]).map aV))(ht:Fr B.length W2 t 1 (y.bw.map ao))(hn:∀i,sB s' =some i→sB U.s3=some i∨W.length≤i)(hnt:∀i,sB t=some i→W.length≤i∧sB s'≠some i)(hk:∀i,i < W.length→sB U.s3≠some i→W2[i]? =W[i]?)(hx:Ext B W2)(hl:W.length≤W2.length):
  eQ B W0 b K (W2.set b (.b (U.row.set 4 s'))) { U with aD:=U.aD++ [(y,t)],s3:=s' }:=by
 have hbl:=s.bk.lt;have Rb:sB U.s3≠some b:=fun z=>s.bk.ne (by rw[←z];simp[RV.bl])
 have hsb:∀i,sB s' =some i→i≠b:=fun i hi z=>by
  exact IY
 have htb:∀i,sB t=some i→i≠b:=fun i hi z=>by
  exact zx
 obtain⟨X,hX⟩:∃X,X=ak.b (U.row.set 4 s'):=⟨_,rfl⟩;rw[←hX];have g2:∀i,i≠b→(W2.set b X)[i]? =W2[i]? :=fun i hi=>Yj (Zv hi)
 have gb: (W2.set b X)[b]? =some X:=Yl Om;refine⟨s.bk.Qk (hff.aB fun i hi=>g2 i (hsb i hi)) (ht.aB fun i hi=>g2 i (htb i hi)) hn hnt (by rw[hX]at gb ⊢;exact gb) (fun i hi h1 h2=>(g2 i h2).trans (hk i hi h1)),hx.iK s.bk.hN,by rw[YL];exact YQ s.ln hl,fun i hi=>?_,fun i hi=>?_⟩
 ·exact z20
 ·obtain⟨h1,h2,h3⟩:=s.kl i hi;have VJ:=s.ln;refine⟨h1,h2,fun hm=>?_⟩;rcases Pc hm with z| z| z
  ·exact h3 z
  ·rcases hn i z with z| z
   ·exact GQ
   ·omega
  ·have:=(hnt i z).1;omega
omit s in
theorem Pb{y t s' i}(h:some i∈{ U with aH:=U.aH++ [(y,t)],s4:=s' }.bl):some i∈U.bl∨sB s' =some i∨sB t=some i:=by
 exact z21
def eQ.p4{y t s'}(hff:Fr B.length W2 s' 3 ((U.aH++ [(y,t)]).map bN))(ht:Fr B.length W2 t 1 (y.bz.map aJ))(hn:∀i,sB s' =some i→sB U.s4=some i∨W.length≤i)(hnt:∀i,sB t=some i→W.length≤i∧sB s'≠some i)(hk:∀i,i < W.length→sB U.s4≠some i→W2[i]? =W[i]?)(hx:Ext B W2)(hl:W.length≤W2.length):
  eQ B W0 b K (W2.set b (.b (U.row.set 5 s'))) { U with aH:=U.aH++ [(y,t)],s4:=s' }:=by
 have hbl:=s.bk.lt;have Rb:sB U.s4≠some b:=fun z=>s.bk.ne (by rw[←z];simp[RV.bl])
 have hsb:∀i,sB s' =some i→i≠b:=fun i hi z=>by
  exact IY
 have htb:∀i,sB t=some i→i≠b:=fun i hi z=>by
  exact zx
 obtain⟨X,hX⟩:∃X,X=ak.b (U.row.set 5 s'):=⟨_,rfl⟩;rw[←hX];have g2:∀i,i≠b→(W2.set b X)[i]? =W2[i]? :=fun i hi=>Yj (Zv hi)
 have gb: (W2.set b X)[b]? =some X:=Yl Om;refine⟨s.bk.Qj (hff.aB fun i hi=>g2 i (hsb i hi)) (ht.aB fun i hi=>g2 i (htb i hi)) hn hnt (by rw[hX]at gb ⊢;exact gb) (fun i hi h1 h2=>(g2 i h2).trans (hk i hi h1)),hx.iK s.bk.hN,by rw[YL];exact YQ s.ln hl,fun i hi=>?_,fun i hi=>?_⟩
 ·exact z20
 ·obtain⟨h1,h2,h3⟩:=s.kl i hi;have VJ:=s.ln;refine⟨h1,h2,fun hm=>?_⟩;rcases Pb hm with z| z| z
  ·exact h3 z
  ·rcases hn i z with z| z
   ·exact GQ
   ·omega
  ·have:=(hnt i z).1;omega
def eQ.qJ{i}(hi:i < U.aH.length){y}(hy:y.name=U.aH[i].1.name∧y.mod=U.aH[i].1.mod)(hf:Fr B.length W2 U.aH[i].2 1 (y.bz.map aJ))(hk:∀j,j < W.length→sB U.aH[i].2≠some j→W2[j]? =W[j]?)(hx:Ext B W2)(hl:W.length≤W2.length):
  eQ B W0 b K W2 { U with aH:=U.aH.set i (y,U.aH[i].2) }:=by
 have Su:sB U.aH[i].2∈U.bl:=by simp only[RV.bl,Yb,YA];exact .inr ⟨_,Yi hi,rfl⟩
 have hbl:{ U with aH:=U.aH.set i (y,U.aH[i].2) }.bl=U.bl:=by
  simp only[RV.bl,aac];congr 1;have:sB U.aH[i].2= (U.aH.map fun x=>sB x.2)[i]'(by simpa using hi):=Si
  exact GK
 refine⟨s.bk.Qi hi hy hf hk,hx,YQ s.ln hl,fun j hj=>?_,fun j hj=>by rw[hbl];exact s.kl j hj⟩;obtain⟨h1,h2,h3⟩:=s.kl j hj;rw[hk j (YU h1 s.ln) (fun z=>h3 (by rw[←z];exact Su))];exact s.kp j hj
omit s in
theorem O9{i j y t}(h:some j∈{ U with aj:=U.aj.set i (y,t) }.bl):some j∈U.bl∨sB t=some j:=by
 simp only[RV.bl,Yb,YA]at h ⊢;rcases h with((h| ⟨x,hx,h⟩)| h)| h
 ·exact .inl (.inl (.inl (.inl h)))
 ·rcases ZO hx with hx| hx
  ·exact .inl (.inl (.inl (.inr ⟨x,hx,h⟩)))
  ·rw[hx]at h;exact .inr h
 ·exact .inl (.inl (.inr h))
 ·exact .inl (.inr h)
def eQ.qS{i}(hi:i < U.aj.length){y t}(hs:Fr B.length W2 U.s2 3 ((U.aj.set i (y,t)).map bj))(ht:Fr B.length W2 t 1 (y.aI.map ao))(hnt:∀j,sB t=some j→W.length≤j)
  (hk:∀j,j < W.length→sB U.s2≠some j→sB U.aj[i].2≠some j→W2[j]? =W[j]?) (hx:Ext B W2) (hl:W.length≤W2.length):eQ B W0 b K W2 { U with aj:=U.aj.set i (y,t) }:=by
 have m1:sB U.s2∈U.bl:=by simp[RV.bl]
 have m2:sB U.aj[i].2∈U.bl:=by simp only[RV.bl,Yb,YA];exact .inl (.inl (.inr ⟨_,Yi hi,rfl⟩))
 refine⟨s.bk.Qh hi hs ht hnt hk,hx,YQ s.ln hl,fun j hj=>?_,fun j hj=>?_⟩
 ·obtain⟨h1,h2,h3⟩:=s.kl j hj;rw[hk j (YU h1 s.ln) (fun z=>h3 (by rw[←z];exact m1)) (fun z=>h3 (by rw[←z];exact m2))];exact s.kp j hj
 ·obtain⟨h1,h2,h3⟩:=s.kl j hj;refine⟨h1,h2,fun hm=>?_⟩;rcases O9 hm with z| z
  ·exact h3 z
  ·have:=hnt j z;have:=s.ln;omega
end
def ow(k:Nat):ai:=((fn224).body.dr k).hd
def qo(k:Nat):ai:=(fn224).body.dr k
def NA:qo 9= .seq (ow 9) .ret:=rfl
def NB:qo 8= .seq (ow 8) (qo 9):=rfl
def NC:qo 7= .seq (ow 7) (qo 8):=rfl
def ND:qo 6= .seq (ow 6) (qo 7):=rfl
def NF:qo 5= .seq (ow 5) (qo 6):=rfl
def NG:qo 4= .seq (ow 4) (qo 5):=rfl
def NH:qo 3= .seq (ow 3) (qo 4):=rfl
def NI:qo 2= .seq (ow 2) (qo 3):=rfl
def NJ:qo 1= .seq (ow 1) (qo 2):=rfl
def NK:fn224= ⟨100,1,[(2,some (some 7))],.seq (ow 0) (qo 1)⟩:=rfl
def kH:List AV:=[.i 0,.af,.af,.af,.af,.af,.af]
def QQ(h:ah)(i:Nat):Prop:=i < h.length∨i=h.length+1
def wJ(h:ah)(r:ak)(W:ah)(U:RV):Prop:=eQ h (h++ [r]++ [.b kH]) h.length (QQ h) W U
def wJ.rb{h W r U}(s:wJ h r W U):W[h.length+1]? =some (.b kH):=by
 rw[eQ.kp s _ (.inr rfl)];simp
def Jc(h:ah)(V:RV):AV→ah→Prop:=fun v h'=>Ext h h'∧∃V':RV,V'.an=V.an∧v= .agg V'.row∧cG h.length h' V'
section
variable {P:Program} (T:fy P) {h W:ah} {ts:TS} {V U:RV} {r:ak}
include T
def QC(s:wJ h r W U)(hr:U.an=V.an)(hlen:ts.length=100)(t1:slot ts 1= .ptr h.length 0)(t2:slot ts 2= .ptr (h.length+1) 0):
  WC P bR (qo 9) [] ts W (FQ [(2,some (some 7))] (Jc h V)):=by
 have:=T.mix;rw[NA];unfold ow fn224;simp only[ai.j,ai.s,ai.r,ai.dr,ai.tl,ai.hd];have lb:=@fH _ _ _ s.bk.m;have sb:=@aN 7 (h.length+1) 0 (.agg U.row) (fun z=>W[z]?) _ s.rb;have st:=@aC.st _ _ s.bk.o.ok;unfold kH at sb;rw[st]at sb;have hl:=(X1.1 s.rb).1;have gm: (W.set (h.length+1) (.b U.row))[h.length+1]? =some (.b U.row):=Yl hl
 repeat (first| simp (config:={ maxSteps:=1000000 }) only[aW,bd,bC,bD,reduceAdd,reduceMul,reduceLeDiff,reduceEqDiff,bE,hlen,Yo,Ys,t1,t2,lb,sb,aG,az gm]| simp (config:={ maxSteps:=1000000 }) (disch:=first| (simp only[X2,X8,X9]<;>omega)| rfl| omega| fail) only[fU,aW,bd,bC,bD,reduceAdd,reduceMul,reduceLeDiff,reduceEqDiff,bE,hlen,Yo,Ys,t1,t2,lb,sb,aG,az gm])
 refine⟨s.ex.iK Om,U,hr,rfl,s.bk.o.au fun i hi=>?_⟩;have:i≠h.length+1:=fun e=>(s.kl _ (.inr rfl)).2.2 (e▸hi)
 rw[Yj (Zv this)]
def NL(o:aC h V)(w:fk V.an)(hj:∀x∈V.aH,x.1.bz.length≤2^30)(s:wJ h r W U)(hr:U.an={ V.an with aH:=V.an.aH.take 0 })(hlen:ts.length=100)(t1:slot ts 1= .ptr h.length 0)(t2:slot ts 2= .ptr (h.length+1) 0)(t5:slot ts 5=V.s4):
  WC P bR (qo 8) [] ts W (FQ [(2,some (some 7))] (Jc h V)):=by
 have hL:V.aH.length≤16:=by have:=w.l4;simpa [RV.an]using this
 have hRl:V.an.aH.length=V.aH.length:=by simp[RV.an]
 rw[NB];unfold ow fn224;simp only[ai.j,ai.s,ai.r,ai.dr,ai.tl,ai.hd];refine Rs (A3 t1 t2 t5) ?_;refine WL.inv T.mix (fun m ts h'=>∃ (k:Nat) (U:RV),k≤V.aH.length∧m=V.aH.length - k∧wJ h r h' U∧U.an={ V.an with aH:=V.an.aH.take k }∧ts.length=100∧slot ts 1= .ptr h.length 0∧slot ts 2= .ptr (h.length+1) 0∧slot ts 5=V.s4∧slot ts 10= .i k) V.aH.length
  ⟨0,U,Om,rfl,s,hr,Sn,(Sq t1),(Sq t2),(Sq t5),hP⟩ ?_
 clear t1 t2 t5 hlen s hr;rintro _ ts W ⟨k,U,hk,rfl,s,hr,hlen,t1,t2,t5,t10⟩;have oW:=o.ext s.ex;by_cases hlt:k < V.aH.length
 ·have e3:=eT hlt;have e5:=wrapN (n:=k) Om;have ix:=oW.i4.dI (kk:=.i64) hlt;obtain⟨y,hy⟩:∃y,y=V.aH[k]:=⟨_,rfl⟩;have SF:y∈V.aH:=by rw[hy];exact Yi _
  have ld:∀{k':ah},Ext W k'→aq (some 3) (cV V.s4 3 k) (fun b=>k'[b]?)=some (.agg (bN y),.au):=fun {k'} e=>by rw[hy];exact oW.i4.kR hlt e
  have oy:=oW.e4 y SF;have Xh:=oy.one;unfold bN at ld;obtain⟨n,hn⟩:∃n,n=W.length:=⟨_,rfl⟩;refine Rs (A9 t1 t2 t5 t10 oW.i4.aL e3 ix @ld @Xh) ?_;refine WR.pA (N:=n+1) ba (by rw[hn];simp) (oy.ext Xx) (by have:=hj y SF;simp only[Ya];omega) fun t g f=>?_
  have p1:=f.aX.one;rw[←hn];obtain⟨W3,Rg⟩:∃W3,W3=W++ [ak.b [AV.str y.1.name,AV.str y.1.mod,y.2]]++ [.b []]++g:=⟨_,rfl⟩;rw[←Rg]at f ⊢;have WI:Ext W W3:=by rw[Rg];exact Xx
  have l3:n+2≤W3.length:=by rw[Rg,hn];simp only[X2,X8,X9];omega
  have m3:W3[n]? =some (.b [AV.str y.1.name,AV.str y.1.mod,y.2]):=by rw[Rg,hn];exact(show Ext (W++ [ak.b [AV.str y.1.name,AV.str y.1.mod,y.2]]) _ from Xx).some ba
  have V9:aT 1 (.ptr n 2) t (fun z=>W3[z]?)=some (aA,.set n (.b [AV.str y.1.name,AV.str y.1.mod,t])):=(aN m3).trans (bW p1 (by show 2+1≤3;omega));refine Rs (A6 t1 t2 t5 t10 @V9 @p1) ?_;obtain⟨W4,RO⟩:∃W4,W4=W3.set n (.b [AV.str y.1.name,AV.str y.1.mod,t]):=⟨_,rfl⟩;rw[←RO];have l4:W4.length=W3.length:=by rw[RO,YL]
  have k4:∀i,i≠n→W4[i]? =W3[i]? :=fun i hi=>by rw[RO,Yj (Zv hi)]
  have m4:W4[n]? =some (.b [AV.str y.1.name,AV.str y.1.mod,t]):=by rw[RO,Yl Om]
  have e4:Ext W W4:=by rw[RO];exact WI.iK Om
  have s4:wJ h r W4 U:=s.grow e4;have f4:Fr (n+1) W4 t 1 (y.1.bz.map aJ):=f.aB fun i hi=>k4 i (by have:=(f.bM hi).1;omega)
  have lr:=@fH _ _ _ s4.bk.m;have ln4:=@fH _ _ _ m4;clear WI m3 V9 f RO Rg;refine Rs (A8 t1 t2 t5 t10 @lr @ln4 @fZ @p1) ?_;have S2:U.aH.length≤16:=by
   have h1:U.an.aH.length=U.aH.length:=by simp[RV.an]
   exact GO
  obtain⟨z,hz⟩:∃z:List AV,z=bN (y.1,t):=⟨_,rfl⟩;have SN: [AV.str y.1.name,AV.str y.1.mod,t]=z:=by rw[hz];rfl
  rw[SN];have Xo:aK (W4++ [ak.cells z true true]) (AV.slice W4.length 0 1 3) 3 [z]:=by
   exact J5
  refine WR.fL (h0:=h) (cs:=U.aH.map bN) (ys:=[z]) ((s4.bk.o.i4).app _) Xo De Si (by simp only[Ya,X8,X9];omega) (s4.ex.trans Xx) ?_;intro g' Q7 hff hkp;have hrow:U.aH.map bN++ [z]= (U.aH++ [(y.1,t)]).map bN:=by rw[Yc,hz];rfl
  rw[hrow]at hff;rw[hrow];obtain⟨s',QW⟩:∃s',s' =AV.slice (W4++ [ak.cells z true true]).length 0 ((U.aH++ [(y.1,t)]).map bN).length 3:=⟨_,rfl⟩;rw[←QW]at hff;rw[←QW];have SP:sB s' =some (W4.length+1):=by rw[QW];simp[sB]
  have q1:s'.one=true:=by rw[QW];rfl
  obtain⟨W5,Tr⟩:∃W5,W5=h++g':=⟨_,rfl⟩;rw[←Tr]at Q7 hff hkp ⊢;have hk1:∀i,i < W4.length→sB U.s4≠some i→W5[i]? =W4[i]? :=fun i hi hne=>by
   exact Mu
  have hl5:W4.length≤W5.length:=by rw[Q7];simp only[X2];omega
  have htb:∀i,sB t=some i→W.length≤i∧i < W4.length:=fun i hi=>by have:=f4.bM hi;omega
  have bS:∀i,sB t=some i→sB U.s4≠some i:=fun i hi e=>by
   exact z85
  have f5:Fr h.length W5 t 1 (y.1.bz.map aJ):=(f4.aB fun i hi=>hk1 i (htb i hi).2 (bS i hi)).low (by have:=s.bk.lt;omega);have WH:W.length≤W4.length:=e4.len;have s5:wJ h r (W5.set h.length (.b (U.row.set 5 s'))) { U with aH:=U.aH++ [(y.1,t)],s4:=s' }:=
   s.p4 hff f5 (fun i hi=>.inr (by rw[SP]at hi;cases hi;omega)) (fun i hi=>⟨(htb i hi).1,fun e=>by rw[SP]at e;cases e;have:=(htb _ hi).2;omega⟩) (fun i hi hne=>(hk1 i Om hne).trans (e4.get hi)) (by rw[Tr];exact⟨_,rfl⟩) Om
  have mB:W5[h.length]? =some (.b U.row):=(hk1 _ s4.bk.lt (fun z=>s4.bk.ne (by rw[←z];simp[RV.bl]))).trans s4.bk.m;have SA:aT 1 (.ptr h.length 5) s' (fun z=>W5[z]?)=some (aA,.set h.length (.b (U.row.set 5 s'))):=(aN mB).trans (bW q1 (by show 5+1≤7;omega));refine Rs (A7 t1 t2 t5 t10 @SA q1 e5) ?_;refine⟨_,Om,k+1,_,Om,rfl,s5,?_,rfl⟩;have:V.an.aH.take (k+1)=V.an.aH.take k++ [y.1]:=by
   exact MJ
  rw[this];have hf: (U.aH++ [(y.1,t)]).map Prod.fst=V.an.aH.take k++ [y.1]:=by
   have h1:U.an.aH=V.an.aH.take k:=by rw[hr]
   rw[Yc,←h1];rfl
  have e: ({ U with aH:=U.aH++ [(y.1,t)],s4:=s' }:RV).an={ U.an with aH:=(U.aH++ [(y.1,t)]).map Prod.fst }:=rfl;rw[e,hf,hr]
 ·have e3:decide ((k:Int)< V.aH.length)=false:=X3 Om;have e4:k=V.aH.length:=Om
  rw[e4,←hRl,YF]at hr;refine Rs (A6 t1 t2 t5 t10 oW.i4.aL e3) ?_;refine QC T s hr Sn (Sq t1) (Sq t2)
def NM(o:aC h V)(w:fk V.an)(hm:∀x∈V.aD,x.1.bw.length≤2^30)(hj:∀x∈V.aH,x.1.bz.length≤2^30)(s:wJ h r W U)(hr:U.an={ V.an with aD:=V.an.aD.take 0,aH:=[] })(hlen:ts.length=100)(t1:slot ts 1= .ptr h.length 0)(t2:slot ts 2= .ptr (h.length+1) 0)(t4:slot ts 4=V.s3)(t5:slot ts 5=V.s4):
  WC P bR (qo 7) [] ts W (FQ [(2,some (some 7))] (Jc h V)):=by
 have hL:V.aD.length≤32:=by have:=w.l3;simpa [RV.an]using this
 have hRl:V.an.aD.length=V.aD.length:=by simp[RV.an]
 rw[NC];unfold ow fn224;simp only[ai.j,ai.s,ai.r,ai.dr,ai.tl,ai.hd];refine Rs (A3 t1 t2 t4) ?_;refine WL.inv T.mix (fun m ts h'=>∃ (k:Nat) (U:RV),k≤V.aD.length∧m=V.aD.length - k∧wJ h r h' U∧U.an={ V.an with aD:=V.an.aD.take k,aH:=[] }∧ts.length=100∧slot ts 1= .ptr h.length 0∧slot ts 2= .ptr (h.length+1) 0∧slot ts 4=V.s3∧slot ts 5=V.s4∧slot ts 8= .i k) V.aD.length
  ⟨0,U,Om,rfl,s,hr,Sn,(Sq t1),(Sq t2),(Sq t4),(Sq t5),hP⟩ ?_
 clear t1 t2 t4 t5 hlen s hr;rintro _ ts W ⟨k,U,hk,rfl,s,hr,hlen,t1,t2,t4,t5,t8⟩;have oW:=o.ext s.ex;by_cases hlt:k < V.aD.length
 ·have e3:=eT hlt;have e5:=wrapN (n:=k) Om;have ix:=oW.i3.dI (kk:=.i64) hlt;obtain⟨y,hy⟩:∃y,y=V.aD[k]:=⟨_,rfl⟩;have SF:y∈V.aD:=by rw[hy];exact Yi _
  have ld:∀{k':ah},Ext W k'→aq (some 4) (cV V.s3 4 k) (fun b=>k'[b]?)=some (.agg (aV y),.au):=fun {k'} e=>by rw[hy];exact oW.i3.kR hlt e
  have oy:=oW.e3 y SF;have Xh:=oy.one;unfold aV at ld;obtain⟨n,hn⟩:∃n,n=W.length:=⟨_,rfl⟩;refine Rs (nv t1 t2 t4 t5 t8 oW.i3.aL e3 ix @ld @Xh) ?_;refine WR.pA (N:=n+1) ba (by rw[hn];simp) (oy.ext Xx) (by have:=hm y SF;simp only[Ya];omega) fun t g f=>?_
  have p1:=f.aX.one;rw[←hn];obtain⟨W3,Rg⟩:∃W3,W3=W++ [ak.b [AV.str y.1.name,AV.str y.1.gives,AV.str y.1.line,y.2]]++ [.b []]++g:=⟨_,rfl⟩;rw[←Rg]at f ⊢;have WI:Ext W W3:=by rw[Rg];exact Xx
  have l3:n+2≤W3.length:=by rw[Rg,hn];simp only[X2,X8,X9];omega
  have m3:W3[n]? =some (.b [AV.str y.1.name,AV.str y.1.gives,AV.str y.1.line,y.2]):=by rw[Rg,hn];exact(show Ext (W++ [ak.b [AV.str y.1.name,AV.str y.1.gives,AV.str y.1.line,y.2]]) _ from Xx).some ba
  have V9:aT 1 (.ptr n 3) t (fun z=>W3[z]?)=some (aA,.set n (.b [AV.str y.1.name,AV.str y.1.gives,AV.str y.1.line,t])):=(aN m3).trans (bW p1 (by show 3+1≤4;omega));refine Rs (A7 t1 t2 t4 t5 t8 @V9 @p1) ?_;obtain⟨W4,RO⟩:∃W4,W4=W3.set n (.b [AV.str y.1.name,AV.str y.1.gives,AV.str y.1.line,t]):=⟨_,rfl⟩;rw[←RO];have l4:W4.length=W3.length:=by rw[RO,YL]
  have k4:∀i,i≠n→W4[i]? =W3[i]? :=fun i hi=>by rw[RO,Yj (Zv hi)]
  have m4:W4[n]? =some (.b [AV.str y.1.name,AV.str y.1.gives,AV.str y.1.line,t]):=by rw[RO,Yl Om]
  have e4:Ext W W4:=by rw[RO];exact WI.iK Om
  have s4:wJ h r W4 U:=s.grow e4;have f4:Fr (n+1) W4 t 1 (y.1.bw.map ao):=f.aB fun i hi=>k4 i (by have:=(f.bM hi).1;omega)
  have lr:=@fH _ _ _ s4.bk.m;have ln4:=@fH _ _ _ m4;clear WI m3 V9 f RO Rg;refine Rs (A9 t1 t2 t4 t5 t8 @lr @ln4 @fN @p1) ?_;have S2:U.aD.length≤32:=by
   have h1:U.an.aD.length=U.aD.length:=by simp[RV.an]
   exact GO
  obtain⟨z,hz⟩:∃z:List AV,z=aV (y.1,t):=⟨_,rfl⟩;have SN: [AV.str y.1.name,AV.str y.1.gives,AV.str y.1.line,t]=z:=by rw[hz];rfl
  rw[SN];have Xo:aK (W4++ [ak.cells z true true]) (AV.slice W4.length 0 1 4) 4 [z]:=by
   have:=(Fr.push (N:=0) (es:=4) (h:=W4) (YB _) [z] (fun x hx=>by rw[Yt]at hx;rw[hx,hz];rfl)).aX
   simpa using this
  refine WR.fL (h0:=h) (cs:=U.aD.map aV) (ys:=[z]) ((s4.bk.o.i3).app _) Xo De Si (by simp only[Ya,X8,X9];omega) (s4.ex.trans Xx) ?_;intro g' Q7 hff hkp;have hrow:U.aD.map aV++ [z]= (U.aD++ [(y.1,t)]).map aV:=by rw[Yc,hz];rfl
  rw[hrow]at hff;rw[hrow];obtain⟨s',QW⟩:∃s',s' =AV.slice (W4++ [ak.cells z true true]).length 0 ((U.aD++ [(y.1,t)]).map aV).length 4:=⟨_,rfl⟩;rw[←QW]at hff;rw[←QW];have SP:sB s' =some (W4.length+1):=by rw[QW];simp[sB]
  have q1:s'.one=true:=by rw[QW];rfl
  obtain⟨W5,Tr⟩:∃W5,W5=h++g':=⟨_,rfl⟩;rw[←Tr]at Q7 hff hkp ⊢;have hk1:∀i,i < W4.length→sB U.s3≠some i→W5[i]? =W4[i]? :=fun i hi hne=>by
   exact Mu
  have hl5:W4.length≤W5.length:=by rw[Q7];simp only[X2];omega
  have htb:∀i,sB t=some i→W.length≤i∧i < W4.length:=fun i hi=>by have:=f4.bM hi;omega
  have bS:∀i,sB t=some i→sB U.s3≠some i:=fun i hi e=>by
   exact z85
  have f5:Fr h.length W5 t 1 (y.1.bw.map ao):=(f4.aB fun i hi=>hk1 i (htb i hi).2 (bS i hi)).low (by have:=s.bk.lt;omega);have WH:W.length≤W4.length:=e4.len;have s5:wJ h r (W5.set h.length (.b (U.row.set 4 s'))) { U with aD:=U.aD++ [(y.1,t)],s3:=s' }:=
   s.p3 hff f5 (fun i hi=>.inr (by rw[SP]at hi;cases hi;omega)) (fun i hi=>⟨(htb i hi).1,fun e=>by rw[SP]at e;cases e;have:=(htb _ hi).2;omega⟩) (fun i hi hne=>(hk1 i Om hne).trans (e4.get hi)) (by rw[Tr];exact⟨_,rfl⟩) Om
  have mB:W5[h.length]? =some (.b U.row):=(hk1 _ s4.bk.lt (fun z=>s4.bk.ne (by rw[←z];simp[RV.bl]))).trans s4.bk.m;have SA:aT 1 (.ptr h.length 4) s' (fun z=>W5[z]?)=some (aA,.set h.length (.b (U.row.set 4 s'))):=(aN mB).trans (bW q1 (by show 4+1≤7;omega));refine Rs (A8 t1 t2 t4 t5 t8 @SA q1 e5) ?_;refine⟨_,Om,k+1,_,Om,rfl,s5,?_,rfl⟩;have:V.an.aD.take (k+1)=V.an.aD.take k++ [y.1]:=by
   exact MJ
  rw[this];have hf: (U.aD++ [(y.1,t)]).map Prod.fst=V.an.aD.take k++ [y.1]:=by
   have h1:U.an.aD=V.an.aD.take k:=by rw[hr]
   rw[Yc,←h1];rfl
  have e: ({ U with aD:=U.aD++ [(y.1,t)],s3:=s' }:RV).an={ U.an with aD:=(U.aD++ [(y.1,t)]).map Prod.fst }:=rfl;rw[e,hf,hr]
 ·have e3:decide ((k:Int)< V.aD.length)=false:=X3 Om;have e4:k=V.aD.length:=Om
  rw[e4,←hRl,YF]at hr;refine Rs (A7 t1 t2 t4 t5 t8 oW.i3.aL e3) ?_;refine NL T o w hj s hr Sn (Sq t1) (Sq t2) (Sq t5)
def NN(o:aC h V)(w:fk V.an)(hs:∀x∈V.aj,x.1.aI.length≤2^30)(hm:∀x∈V.aD,x.1.bw.length≤2^30)(hj:∀x∈V.aH,x.1.bz.length≤2^30)(s:wJ h r W U)(hr:U.an={ V.an with aj:=V.an.aj.take 0,aD:=[],aH:=[] })(hlen:ts.length=100)(t1:slot ts 1= .ptr h.length 0)(t2:slot ts 2= .ptr (h.length+1) 0)(t3:slot ts 3=V.s2)(t4:slot ts 4=V.s3)(t5:slot ts 5=V.s4):
  WC P bR (qo 6) [] ts W (FQ [(2,some (some 7))] (Jc h V)):=by
 have hL:V.aj.length≤64:=by have:=w.l2;simpa [RV.an]using this
 have hRl:V.an.aj.length=V.aj.length:=by simp[RV.an]
 rw[ND];unfold ow fn224;simp only[ai.j,ai.s,ai.r,ai.dr,ai.tl,ai.hd];refine Rs (A3 t1 t2 t3) ?_;refine WL.inv T.mix (fun m ts h'=>∃ (k:Nat) (U:RV),k≤V.aj.length∧m=V.aj.length - k∧wJ h r h' U∧U.an={ V.an with aj:=V.an.aj.take k,aD:=[],aH:=[] }∧ts.length=100∧slot ts 1= .ptr h.length 0∧slot ts 2= .ptr (h.length+1) 0∧slot ts 3=V.s2∧slot ts 4=V.s3∧slot ts 5=V.s4∧slot ts 6= .i k) V.aj.length
  ⟨0,U,Om,rfl,s,hr,Sn,(Sq t1),(Sq t2),(Sq t3),(Sq t4),(Sq t5),hP⟩ ?_
 clear t1 t2 t3 t4 t5 hlen s hr;rintro _ ts W ⟨k,U,hk,rfl,s,hr,hlen,t1,t2,t3,t4,t5,t6⟩;have oW:=o.ext s.ex;by_cases hlt:k < V.aj.length
 ·have e3:=eT hlt;have e5:=wrapN (n:=k) Om;have ix:=oW.i2.dI (kk:=.i64) hlt;obtain⟨y,hy⟩:∃y,y=V.aj[k]:=⟨_,rfl⟩;have SF:y∈V.aj:=by rw[hy];exact Yi _
  have ld:∀{k':ah},Ext W k'→aq (some 3) (cV V.s2 3 k) (fun b=>k'[b]?)=some (.agg (bj y),.au):=fun {k'} e=>by rw[hy];exact oW.i2.kR hlt e
  have oy:=oW.e2 y SF;have Xh:=oy.one;unfold bj at ld;obtain⟨n,hn⟩:∃n,n=W.length:=⟨_,rfl⟩;refine Rs (nw t1 t2 t3 t4 t5 t6 oW.i2.aL e3 ix @ld @Xh) ?_;refine WR.pA (N:=n+1) ba (by rw[hn];simp) (oy.ext Xx) (by have:=hs y SF;simp only[Ya];omega) fun t g f=>?_
  have p1:=f.aX.one;rw[←hn];obtain⟨W3,Rg⟩:∃W3,W3=W++ [ak.b [AV.str y.1.name,AV.str y.1.line,y.2]]++ [.b []]++g:=⟨_,rfl⟩;rw[←Rg]at f ⊢;have WI:Ext W W3:=by rw[Rg];exact Xx
  have l3:n+2≤W3.length:=by rw[Rg,hn];simp only[X2,X8,X9];omega
  have m3:W3[n]? =some (.b [AV.str y.1.name,AV.str y.1.line,y.2]):=by rw[Rg,hn];exact(show Ext (W++ [ak.b [AV.str y.1.name,AV.str y.1.line,y.2]]) _ from Xx).some ba
  have V9:aT 1 (.ptr n 2) t (fun z=>W3[z]?)=some (aA,.set n (.b [AV.str y.1.name,AV.str y.1.line,t])):=(aN m3).trans (bW p1 (by show 2+1≤3;omega));refine Rs (A8 t1 t2 t3 t4 t5 t6 @V9 @p1) ?_;obtain⟨W4,RO⟩:∃W4,W4=W3.set n (.b [AV.str y.1.name,AV.str y.1.line,t]):=⟨_,rfl⟩;rw[←RO];have l4:W4.length=W3.length:=by rw[RO,YL]
  have k4:∀i,i≠n→W4[i]? =W3[i]? :=fun i hi=>by rw[RO,Yj (Zv hi)]
  have m4:W4[n]? =some (.b [AV.str y.1.name,AV.str y.1.line,t]):=by rw[RO,Yl Om]
  have e4:Ext W W4:=by rw[RO];exact WI.iK Om
  have s4:wJ h r W4 U:=s.grow e4;have f4:Fr (n+1) W4 t 1 (y.1.aI.map ao):=f.aB fun i hi=>k4 i (by have:=(f.bM hi).1;omega)
  have lr:=@fH _ _ _ s4.bk.m;have ln4:=@fH _ _ _ m4;clear WI m3 V9 f RO Rg;refine Rs (nv t1 t2 t3 t4 t5 t6 @lr @ln4 @fF @p1) ?_;have S2:U.aj.length≤64:=by
   have h1:U.an.aj.length=U.aj.length:=by simp[RV.an]
   exact GO
  obtain⟨z,hz⟩:∃z:List AV,z=bj (y.1,t):=⟨_,rfl⟩;have SN: [AV.str y.1.name,AV.str y.1.line,t]=z:=by rw[hz];rfl
  rw[SN];have Xo:aK (W4++ [ak.cells z true true]) (AV.slice W4.length 0 1 3) 3 [z]:=by
   exact J5
  refine WR.fL (h0:=h) (cs:=U.aj.map bj) (ys:=[z]) ((s4.bk.o.i2).app _) Xo De Si (by simp only[Ya,X8,X9];omega) (s4.ex.trans Xx) ?_;intro g' Q7 hff hkp;have hrow:U.aj.map bj++ [z]= (U.aj++ [(y.1,t)]).map bj:=by rw[Yc,hz];rfl
  rw[hrow]at hff;rw[hrow];obtain⟨s',QW⟩:∃s',s' =AV.slice (W4++ [ak.cells z true true]).length 0 ((U.aj++ [(y.1,t)]).map bj).length 3:=⟨_,rfl⟩;rw[←QW]at hff;rw[←QW];have SP:sB s' =some (W4.length+1):=by rw[QW];simp[sB]
  have q1:s'.one=true:=by rw[QW];rfl
  obtain⟨W5,Tr⟩:∃W5,W5=h++g':=⟨_,rfl⟩;rw[←Tr]at Q7 hff hkp ⊢;have hk1:∀i,i < W4.length→sB U.s2≠some i→W5[i]? =W4[i]? :=fun i hi hne=>by
   exact Mu
  have hl5:W4.length≤W5.length:=by rw[Q7];simp only[X2];omega
  have htb:∀i,sB t=some i→W.length≤i∧i < W4.length:=fun i hi=>by have:=f4.bM hi;omega
  have bS:∀i,sB t=some i→sB U.s2≠some i:=fun i hi e=>by
   exact z85
  have f5:Fr h.length W5 t 1 (y.1.aI.map ao):=(f4.aB fun i hi=>hk1 i (htb i hi).2 (bS i hi)).low (by have:=s.bk.lt;omega);have WH:W.length≤W4.length:=e4.len;have s5:wJ h r (W5.set h.length (.b (U.row.set 3 s'))) { U with aj:=U.aj++ [(y.1,t)],s2:=s' }:=
   s.p2 hff f5 (fun i hi=>.inr (by rw[SP]at hi;cases hi;omega)) (fun i hi=>⟨(htb i hi).1,fun e=>by rw[SP]at e;cases e;have:=(htb _ hi).2;omega⟩) (fun i hi hne=>(hk1 i Om hne).trans (e4.get hi)) (by rw[Tr];exact⟨_,rfl⟩) Om
  have mB:W5[h.length]? =some (.b U.row):=(hk1 _ s4.bk.lt (fun z=>s4.bk.ne (by rw[←z];simp[RV.bl]))).trans s4.bk.m;have SA:aT 1 (.ptr h.length 3) s' (fun z=>W5[z]?)=some (aA,.set h.length (.b (U.row.set 3 s'))):=(aN mB).trans (bW q1 (by show 3+1≤7;omega));refine Rs (A9 t1 t2 t3 t4 t5 t6 @SA q1 e5) ?_;refine⟨_,Om,k+1,_,Om,rfl,s5,?_,rfl⟩;have:V.an.aj.take (k+1)=V.an.aj.take k++ [y.1]:=by
   exact MJ
  rw[this];have hf: (U.aj++ [(y.1,t)]).map Prod.fst=V.an.aj.take k++ [y.1]:=by
   have h1:U.an.aj=V.an.aj.take k:=by rw[hr]
   rw[Yc,←h1];rfl
  have e: ({ U with aj:=U.aj++ [(y.1,t)],s2:=s' }:RV).an={ U.an with aj:=(U.aj++ [(y.1,t)]).map Prod.fst }:=rfl;rw[e,hf,hr]
 ·have e3:decide ((k:Int)< V.aj.length)=false:=X3 Om;have e4:k=V.aj.length:=Om
  rw[e4,←hRl,YF]at hr;refine Rs (A8 t1 t2 t3 t4 t5 t6 oW.i2.aL e3) ?_;refine NM T o w hm hj s hr Sn (Sq t1) (Sq t2) (Sq t4) (Sq t5)
def NO(o:aC h V)(w:fk V.an)(hs:∀x∈V.aj,x.1.aI.length≤2^30)(hm:∀x∈V.aD,x.1.bw.length≤2^30)(hj:∀x∈V.aH,x.1.bz.length≤2^30)
  {W0} (hW0:W0=h++ [.b V.row]++ [.b kH]) (hlen:ts.length=100) (t1:slot ts 1= .ptr h.length 0) (t2:slot ts 2= .ptr (h.length+1) 0):
  WC P bR (qo 1) [] ts W0 (FQ [(2,some (some 7))] (Jc h V)):=by
 have nb0:V.lines.length≤16:=w.l0;have nb5:V.aQ.length≤16:=w.l5;have nb1:V.aI.length≤16:=w.l1;have o0:=o.i0.one;have o1:=o.i1.one;have o2:=o.i2.one;have o3:=o.i3.one;have o4:=o.i4.one;have o5:=o.i5.one;have m0:W0[h.length]? =some (.b [AV.i V.tick,V.s0,V.s1,V.s2,V.s3,V.s4,V.s5]):=by rw[hW0];simp;rfl
 have z0:W0[h.length+1]? =some (.b kH):=by rw[hW0];simp
 have e0:Ext h W0:=by rw[hW0];exact Xx
 rw[NJ,NI,NH,NG,NF];unfold ow fn224;simp only[ai.j,ai.s,ai.r,ai.dr,ai.tl,ai.hd];obtain⟨n0,Vk⟩:∃n,n=W0.length:=⟨_,rfl⟩;have lr0:=@fH _ _ _ m0;refine Rs (A4 t1 t2 @lr0 @o0) ?_;refine WR.pA (N:=n0) (w:=32) ba (Nat.le_of_eq Vk) ((o.i0.ext e0).ext Xx) (by simp only[Ya];omega) fun a0 g0 f0=>?_
 have p0:=f0.aX.one;obtain⟨Y0,hY0⟩:∃Y,Y=W0++ [ak.b []]++g0:=⟨_,rfl⟩;rw[←hY0]at f0 ⊢;have eY0:Ext W0 Y0:=by rw[hY0];exact Xx
 have sb0:aT 1 (.ptr h.length 1) a0 (fun z=>Y0[z]?)=some (aA,.set h.length (.b [AV.i V.tick,a0,V.s1,V.s2,V.s3,V.s4,V.s5])):=(aN (eY0.some m0)).trans (bW p0 (by show 1+1≤7;omega));refine Rs (A4 t1 t2 @sb0 @p0) ?_;obtain⟨W1,TL⟩:∃W,W=Y0.set h.length (.b [AV.i V.tick,a0,V.s1,V.s2,V.s3,V.s4,V.s5]):=⟨_,rfl⟩;rw[←TL];have l1:W0.length≤W1.length:=by rw[TL,YL];exact eY0.len
 have k1:∀i,i < W0.length→i≠h.length→W1[i]? =W0[i]? :=fun i hi hne=>by rw[TL,Yj (Zv hne),eY0.get hi]
 have m1:W1[h.length]? =some (.b [AV.i V.tick,a0,V.s1,V.s2,V.s3,V.s4,V.s5]):=by rw[TL,Yl (by have:=eY0.len;have:=(X1.1 m0).1;omega)]
 have e1:Ext h W1:=by rw[TL];exact(e0.trans eY0).iK (Yg _)
 have z1:W1[h.length+1]? =some (.b kH):=(k1 _ (X1.1 z0).1 Om).trans z0;have c0:Fr n0 W1 a0 3 (V.lines.map cp):=f0.aB fun i hi=>by
  have:=(f0.bM hi).1;have:=(X1.1 z0).1;rw[TL,Yj Om]
 clear f0 sb0 lr0;obtain⟨n1,hn1⟩:∃n,n=W1.length:=⟨_,rfl⟩;have lr1:=@fH _ _ _ m1;refine Rs (A4 t1 t2 @lr1 @o1) ?_;refine WR.pA (N:=n1) (w:=24) ba (Nat.le_of_eq hn1) ((o.i1.ext e1).ext Xx) (by simp only[Ya];omega) fun a1 g1 f1=>?_
 have p1:=f1.aX.one;obtain⟨Y1,U3⟩:∃Y,Y=W1++ [ak.b []]++g1:=⟨_,rfl⟩;rw[←U3]at f1 ⊢;have eY1:Ext W1 Y1:=by rw[U3];exact Xx
 have sb1:aT 1 (.ptr h.length 2) a1 (fun z=>Y1[z]?)=some (aA,.set h.length (.b [AV.i V.tick,a0,a1,V.s2,V.s3,V.s4,V.s5])):=(aN (eY1.some m1)).trans (bW p1 (by show 2+1≤7;omega));refine Rs (A4 t1 t2 @sb1 @p1) ?_;obtain⟨W2,Rz⟩:∃W,W=Y1.set h.length (.b [AV.i V.tick,a0,a1,V.s2,V.s3,V.s4,V.s5]):=⟨_,rfl⟩;rw[←Rz];have l2:W1.length≤W2.length:=by rw[Rz,YL];exact eY1.len
 have k2:∀i,i < W1.length→i≠h.length→W2[i]? =W1[i]? :=fun i hi hne=>by rw[Rz,Yj (Zv hne),eY1.get hi]
 have m2:W2[h.length]? =some (.b [AV.i V.tick,a0,a1,V.s2,V.s3,V.s4,V.s5]):=by rw[Rz,Yl (by have:=eY1.len;have:=(X1.1 m1).1;omega)]
 have e2:Ext h W2:=by rw[Rz];exact(e1.trans eY1).iK (Yg _)
 have z2:W2[h.length+1]? =some (.b kH):=(k2 _ (X1.1 z1).1 Om).trans z1;have c1:Fr n1 W2 a1 2 (V.aI.map dQ):=f1.aB fun i hi=>by
  have:=(f1.bM hi).1;have:=(X1.1 z1).1;rw[Rz,Yj Om]
 clear f1 sb1 lr1;obtain⟨n2,hn2⟩:∃n,n=W2.length:=⟨_,rfl⟩;have lr2:=@fH _ _ _ m2;refine Rs (A4 t1 t2 @lr2 @o5) ?_;refine WR.pA (N:=n2) (w:=48) ba (Nat.le_of_eq hn2) ((o.i5.ext e2).ext Xx) (by simp only[Ya];omega) fun a5 g2 f5=>?_
 have p5:=f5.aX.one;obtain⟨Y2,Tq⟩:∃Y,Y=W2++ [ak.b []]++g2:=⟨_,rfl⟩;rw[←Tq]at f5 ⊢;have TP:Ext W2 Y2:=by rw[Tq];exact Xx
 have sb2:aT 1 (.ptr h.length 6) a5 (fun z=>Y2[z]?)=some (aA,.set h.length (.b [AV.i V.tick,a0,a1,V.s2,V.s3,V.s4,a5])):=(aN (TP.some m2)).trans (bW p5 (by show 6+1≤7;omega));refine Rs (A4 t1 t2 @sb2 @p5) ?_;obtain⟨W3,Rg⟩:∃W,W=Y2.set h.length (.b [AV.i V.tick,a0,a1,V.s2,V.s3,V.s4,a5]):=⟨_,rfl⟩;rw[←Rg];have l3:W2.length≤W3.length:=by rw[Rg,YL];exact TP.len
 have k3:∀i,i < W2.length→i≠h.length→W3[i]? =W2[i]? :=fun i hi hne=>by rw[Rg,Yj (Zv hne),TP.get hi]
 have m3:W3[h.length]? =some (.b [AV.i V.tick,a0,a1,V.s2,V.s3,V.s4,a5]):=by rw[Rg,Yl (by have:=TP.len;have:=(X1.1 m2).1;omega)]
 have e3:Ext h W3:=by rw[Rg];exact(e2.trans TP).iK (Yg _)
 have z3:W3[h.length+1]? =some (.b kH):=(k3 _ (X1.1 z2).1 Om).trans z2;have c5:Fr n2 W3 a5 4 (V.aQ.map c9):=f5.aB fun i hi=>by
  have:=(f5.bM hi).1;have:=(X1.1 z2).1;rw[Rg,Yj Om]
 clear f5 sb2 lr2;have lr3:=@fH _ _ _ m3;have Ub:=(X1.1 m3).1;have s3:aT 1 (.ptr h.length 3) .af (fun z=>W3[z]?)=some (aA,.set h.length (.b [AV.i V.tick,a0,a1,.af,V.s3,V.s4,a5])):=(aN m3).trans (bW rfl (by show 3+1≤7;omega));have m4: (W3.set h.length (.b [AV.i V.tick,a0,a1,.af,V.s3,V.s4,a5]))[h.length]? =some (.b [AV.i V.tick,a0,a1,.af,V.s3,V.s4,a5]):=Yl Ub;have s4:aT 1 (.ptr h.length 4) .af (fun z=>(W3.set h.length (.b [AV.i V.tick,a0,a1,.af,V.s3,V.s4,a5]))[z]?)=some (aA,.set h.length (.b [AV.i V.tick,a0,a1,.af,.af,V.s4,a5])):=(aN m4).trans (bW rfl (by show 4+1≤7;omega));have m5: ((W3.set h.length (.b [AV.i V.tick,a0,a1,.af,V.s3,V.s4,a5])).set h.length (.b [AV.i V.tick,a0,a1,.af,.af,V.s4,a5]))[h.length]? =some (.b [AV.i V.tick,a0,a1,.af,.af,V.s4,a5]):=Yl (by rw[YL];exact Ub)
 have s5:aT 1 (.ptr h.length 5) .af (fun z=>((W3.set h.length (.b [AV.i V.tick,a0,a1,.af,V.s3,V.s4,a5])).set h.length (.b [AV.i V.tick,a0,a1,.af,.af,V.s4,a5]))[z]?)=some (aA,.set h.length (.b [AV.i V.tick,a0,a1,.af,.af,.af,a5])):=(aN m5).trans (bW rfl (by show 5+1≤7;omega));obtain⟨W6,SI⟩:∃W,W=W3.set h.length (.b [AV.i V.tick,a0,a1,.af,.af,.af,a5]):=⟨_,rfl⟩;have k6:∀i,i≠h.length→W6[i]? =W3[i]? :=fun i hi=>by rw[SI,Yj (Zv hi)]
 have m6:W6[h.length]? =some (.b [AV.i V.tick,a0,a1,.af,.af,.af,a5]):=by rw[SI,Yl Ub]
 have l0:n0=h.length+2:=by rw[Vk,hW0];simp
 have r0:∀i,sB a0=some i→n0≤i∧i < W1.length:=fun i hi=>c0.bM hi
 have r1:∀i,sB a1=some i→n1≤i∧i < W2.length:=fun i hi=>c1.bM hi
 have r5:∀i,sB a5=some i→n2≤i∧i < W3.length:=fun i hi=>c5.bM hi
 have fa0:Fr h.length W6 a0 3 (V.lines.map cp):=(c0.aB fun i hi=>by
  have:=r0 i hi;rw[k6 i Om,k3 i Om Om,k2 i Om Om]).low Om
 have fa1:Fr h.length W6 a1 2 (V.aI.map dQ):=(c1.aB fun i hi=>by
  have:=r1 i hi;rw[k6 i Om,k3 i Om Om]).low Om
 have fa5:Fr h.length W6 a5 4 (V.aQ.map c9):=(c5.aB fun i hi=>by
  have:=r5 i hi;rw[k6 i Om]).low Om
 obtain⟨U,hU⟩:∃U:RV,U= ⟨V.tick,V.lines,V.aI,[],[],[],V.aQ,a0,a1,.af,.af,.af,a5⟩:=⟨_,rfl⟩;have hbl:U.bl= [sB a0,sB a1,none,none,none,sB a5]:=by rw[hU];rfl
 have hlo:∀i,some i∈U.bl→h.length+2≤i:=fun i hi=>by
  rw[hbl]at hi;simp only[YH,Y7,ZI,reduceCtorEq,false_or]at hi;rcases hi with hi| hi| hi
  ·have:=r0 i hi.symm;omega
  ·have:=r1 i hi.symm;omega
  ·have:=r5 i hi.symm;omega
 have RM:kY U.bl:=by
  rw[hbl];refine Y8.2 ⟨fun y hy b hb e=>?_,Y8.2 ⟨fun y hy b hb e=>?_,Y8.2 ⟨(fun y hy b hb e=>by cases hb),Y8.2 ⟨(fun y hy b hb e=>by cases hb),Y8.2 ⟨(fun y hy b hb e=>by cases hb),ZH _ _⟩⟩⟩⟩⟩
  ·have h1:=r0 b hb;subst e;simp only[YH,Y7,ZI,reduceCtorEq,false_or]at hy;rcases hy with hy| hy
   ·have:=r1 b hy.symm;omega
   ·have:=r5 b hy.symm;omega
  ·have h1:=r1 b hb;subst e;simp only[YH,Y7,ZI,reduceCtorEq,false_or]at hy;have:=r5 b hy.symm;omega
 have own:cG h.length W6 U:=by
  rw[hU]at RM ⊢;exact⟨fa0,fa1,.nil,.nil,.nil,fa5,(fun x hx=>by cases hx),(fun x hx=>by cases hx),(fun x hx=>by cases hx),RM⟩
 have s:wJ h (.b V.row) W6 U:=by
  refine⟨⟨own,Yg _,by rw[hU];exact m6,fun hi=>by have:=hlo _ hi;omega⟩,by rw[SI];exact e3.iK (Yg _),by rw[←hW0,SI,YL];omega,fun i hi=>?_,fun i hi=>⟨?_,?_,fun hm=>?_⟩⟩
  ·have:i≠h.length∧i < W0.length:=by rcases hi with hi| hi<;>omega
   rw[←hW0,k6 i this.1,k3 i Om this.1,k2 i Om this.1,k1 i Om this.1]
  ·simp only[X2,X8,X9];rcases hi with hi| hi<;>omega
  ·rcases hi with hi| hi<;>omega
  ·have:=hlo _ hm;rcases hi with hi| hi<;>omega
 clear c0 c1 c5 fa0 fa1 fa5 own RM;refine Rs (A9 t1 t2 @lr3 @o2 @o3 @o4 @s3 @s4 @s5) ?_;have bd: ((W3.set h.length (.b [AV.i V.tick,a0,a1,.af,V.s3,V.s4,a5])).set h.length (.b [AV.i V.tick,a0,a1,.af,.af,V.s4,a5])).set h.length (.b [AV.i V.tick,a0,a1,.af,.af,.af,a5])=W6:=by rw[SI,List.set_set,List.set_set]
 rw[bd];exact NN T o w hs hm hj s (by rw[hU];rfl) Sn (Sq t1) (Sq t2) Sw Sw Sw
def r224(o:aC h V)(w:fk V.an):ay P 224 [.agg V.row] h (fun v h'=>∃V':RV,V'.an=V.an∧v= .agg V'.row∧cG h.length h' V'):=by
 have i:=w.y3;have hs:∀x∈V.aj,x.1.aI.length≤2^30:=fun x hx=>by have:=(i.sh x hx).2;omega
 have hm:∀x∈V.aD,x.1.bw.length≤2^30:=fun x hx=>by have:=(w.md x.1 (Yx hx)).2.1;omega
 have hj:∀x∈V.aH,x.1.bz.length≤2^30:=fun x hx=>by have:=(w.jb x.1 (Yx hx)).2.2.1;omega
 refine .of T.mix (aaE T.c224 (YC some NK)) ?_;obtain⟨ts,QV⟩:∃ts,ts=aU 100 [.agg V.row]:=⟨_,rfl⟩;have hlen:ts.length=100:=by rw[QV];rfl
 have t0:slot ts 0= .agg V.row:=by rw[QV];rfl
 show WC P bR (.seq (ow 0) (qo 1)) [] (aU 100 [.agg V.row]) h (FQ [(2,some (some 7))] (Jc h V));rw[←QV];clear QV;have QU:=@aC.box _ _ o;unfold ow fn224;simp only[ai.j,ai.s,ai.r,ai.dr,ai.tl,ai.hd];refine Rs (A2 t0 @QU) ?_;refine NO T o w hs hm hj rfl Sn Sw (by simp only[aW,bd,bC,bD,reduceAdd,reduceMul,reduceLeDiff,reduceEqDiff,bE,hlen,Yo,Ys];simp)
end
end Go.Abs
namespace Go.Abs
def QP(X:ah)(V:RV)(i:Nat):Prop:=(i < X.length∧some i∉V.bl)∨i=X.length+1∨i=X.length+2
def cD(B X:ah)(x:EV)(V:RV)(W:ah)(U:RV):Prop:=
 eQ B (X++ [.b V.row]++ [.b x.row]++ [.b kH]) X.length (QP X V) W U
def rR(B X:ah)(V:RV)(c:Int)(R':eX):AV→ah→Prop:=fun v k=>
 Ext B k∧X.length≤k.length∧(∀i,i < X.length→some i∉V.bl→k[i]? =X[i]?)∧∃V':RV,v= .dL [.agg V'.row,.i c]∧cG B.length k V'∧(c=0→V'.an=R')∧∀i,some i∈V'.bl→some i∈V.bl∨X.length≤i
section
variable {B X W:ah} {x:EV} {V U:RV} (s:cD B X x V W U)
include s
def cD.lr{k n a}(e:Ext W k):aq n (.ptr X.length a) (fun z=>k[z]?)=dE n a (.b U.row):=az (e.some s.bk.m)
def cD.Lx:W[X.length+1]? =some (.b x.row):=by rw[eQ.kp s _ (.inr (.inl rfl))];simp
def cD.Lw:W[X.length+2]? =some (.b kH):=by rw[eQ.kp s _ (.inr (.inr rfl))];simp
def cD.le{k n a}(e:Ext W k):aq n (.ptr (X.length+1) a) (fun z=>k[z]?)=dE n a (.b x.row):=az (e.some s.Lx)
def cD.sb{k}(e:Ext W k):aT 7 (.ptr (X.length+2) 0) (.agg U.row) (fun z=>k[z]?)=some (aA,.set (X.length+2) (.b U.row)):=by
 have h1:=@aN 7 (X.length+2) 0 (.agg U.row) (fun z=>k[z]?) _ (e.some s.Lw);have st:=@aC.st _ _ s.bk.o.ok;unfold kH at h1;rw[st]at h1;exact h1
def cD.gm{k}(e:Ext W k):aq (some 7) (.ptr (X.length+2) 0) (fun z=>(k.set (X.length+2) (.b U.row))[z]?)=some (.agg U.row,.au):=by
 have hl:=(X1.1 (e.some s.Lw)).1;rw[az (Yl hl)];rfl
def cD.fa:=A4 (@cD.lr _ _ _ _ _ _ s) (@cD.le _ _ _ _ _ _ s) (@cD.sb _ _ _ _ _ _ s) (@cD.gm _ _ _ _ _ _ s)
def cD.fin{c R'}(hc:c=0→U.an=R'):rR B X V c R' (.dL [.agg U.row,.i c]) (W.set (X.length+2) (.b U.row)):=by
 have hN:B.length≤X.length:=s.bk.hN;have VJ:X.length+3≤W.length:=by have:=eQ.ln s;simpa using this
 refine⟨s.ex.iK Om,by rw[YL];omega,fun i hi hv=>?_,U,rfl,s.bk.o.au fun i hi=>?_,hc,fun i hi=>?_⟩
 ·rw[Yj Om,eQ.kp s i (.inl ⟨hi,hv⟩)];simp only[X4];exact X5 hi
 ·have:i≠X.length+2:=fun e=>(eQ.kl s _ (.inr (.inr rfl))).2.2 (e▸hi)
  rw[Yj (Zv this)]
 ·by_cases h1:some i∈V.bl
  ·exact .inl h1
  ·by_cases h2:i < X.length
   ·exact absurd hi (eQ.kl s i (.inl ⟨h2,h1⟩)).2.2
   ·exact .inr Om
end
def wg{h x d}(o:bg h x)(we:jG x.ev d){i:Nat}(hi:i < (bL d).length):aZ 1 x.sn (.i (i:Int))=some (cV x.sn 1 i,.au)∧∀{k},Ext h k→aq none (cV x.sn 1 i) (fun b=>k[b]?)=some (.str (aO x.ev i),.au):=by
 have hi':i < x.ev.names.length:=by rw[we.nl];exact hi
 refine⟨o.n.dI hi',fun {k} e=>?_⟩;have:aO x.ev i=x.ev.names[i]:=by rw[aO,YJ,X6 hi'];rfl
 rw[this];exact o.n.ki hi' rfl e
def bI{h x d}(o:bg h x)(we:jG x.ev d)(i:Nat)(z:Int)(hz: (i:Int)=z)(hi:i < (bL d).length):aZ 1 x.sn (.i z)=some (cV x.sn 1 i,.au)∧∀{k},Ext h k→aq none (cV x.sn 1 i) (fun b=>k[b]?)=some (.str (aO x.ev i),.au):=hz▸wg o we hi
def LI{h x d}(o:bg h x)(we:jG x.ev d){i:Nat}(hi:i < cB d):aZ 1 x.sv (.i (i:Int))=some (cV x.sv 1 i,.au)∧(∀{k},Ext h k→aq none (cV x.sv 1 i) (fun b=>k[b]?)=some (.i (bG x.ev i),.au))∧0≤bG x.ev i∧bG x.ev i≤999999999:=by
 have hi':i < x.ev.b9.length:=by rw[we.vl];exact hi
 have:bG x.ev i=x.ev.b9[i]:=by rw[bG,YJ,X6 hi'];rfl
 refine⟨o.v.dI hi',fun {k} e=>?_,we.vr _ (ql hi')⟩;rw[this];exact o.v.ki hi' rfl e
def cR{h x d}(o:bg h x)(we:jG x.ev d)(i:Nat)(z:Int)(hz: (i:Int)=z)(hi:i < cB d):aZ 1 x.sv (.i z)=some (cV x.sv 1 i,.au)∧(∀{k},Ext h k→aq none (cV x.sv 1 i) (fun b=>k[b]?)=some (.i (bG x.ev i),.au))∧0≤bG x.ev i∧bG x.ev i≤999999999:=hz▸LI o we hi
def WR.pC{P ro ks ts Q B Y s es w cs z d l}
  (hs:Fr B.length Y s es cs) (hz:z.length=es) (he:Ext B Y) (hes:0 < es) (dZ: (cs.length+1) * w≤2^46)
  (K:∀ (W5:ah) (s':AV),Ext B W5→Fr B.length W5 s' es (cs++ [z])→(∀i,sB s' =some i→Y.length < i)→s'.one=true→Y.length≤W5.length→(∀i,i < Y.length→sB s≠some i→W5[i]? =Y[i]?)→WP P ro l ks (put ts d s') W5 Q):
  WR P ro (pB es w s (.slice Y.length 0 1 es) (fun b=>(Y++ [ak.cells z true true])[b]?) (Y++ [ak.cells z true true]).length) false d l ks ts (Y++ [ak.cells z true true]) Q:=by
 have Xo:aK (Y++ [ak.cells z true true]) (AV.slice Y.length 0 1 es) es [z]:=by
  have:=(Fr.push (N:=0) (es:=es) (h:=Y) (YB _) [z] (fun x hx=>by rw[Yt]at hx;rw[hx,hz])).aX
  simpa using this
 refine WR.fL (h0:=B) (cs:=cs) (ys:=[z]) (hs.app _) Xo hes Si (by simpa using dZ) (he.trans (Ext.app _ (Ext.refl _))) ?_;intro g' Q7 hff hkp;refine K _ _ ⟨_,rfl⟩ hff (fun i hi=>by cases hi;simp) rfl (by rw[Q7];simp only[X2,Yv];omega) (fun i hi hne=>?_);exact Mu
def zN:ai:=(fn225).body.tl
def Nw:fn225= ⟨250,2,[(4,some (some 7)),(5,none)],.seq ((fn225).body.hd) zN⟩:=rfl
set_option maxRecDepth 10000
attribute [local irreducible] WP WC WE WB WR WF WL WG fT WM
section
variable {P:Program} (T:fy P) {B X W:ah} {ts:TS} {V:RV} {x:EV}
include T
def DW(w:fk V.an)(ox:bg B x)(we:jG x.ev .line)(nk:sG V.an x.ev .line)(s:cD B X x V W V)(hlen:ts.length=250)(t2:slot ts 2= .ptr X.length 0)(t3:slot ts 3= .ptr (X.length+1) 0)(t4:slot ts 4= .ptr (X.length+2) 0):
  WC P bR zN [] ts W (FQ [(4,some (some 7)),(5,none)] (rR B X V (bA V.an x.ev .line) (dq V.an x.ev .line))):=by
 have ow:=ox.ext s.ex;have oV:=s.bk.o.ok;have Q0:x.ev.kind=bu .line:=cg we.kd;obtain⟨lr,le,sb,gm⟩:=cD.fa s;obtain⟨i0,d0⟩:=bI ow we 0 0 rfl De;obtain⟨j0,f0,q0⟩:=cR ow we 0 0 rfl De;obtain⟨j1,f1,q1⟩:=cR ow we 1 1 rfl De;unfold zN fn225;simp only[ai.tl];refine Rs (Jg t2 t3 t4 @le @lr @a8 @aM @aY @ga @aG @Q0 @gy @j0 @f0 @j1 @f1 @Yk) ?_;refine WF.ce T.c20 (r20 T _ _ _) fun g1=>?_
 obtain⟨W2,Rz⟩:∃Z,Z=W++g1:=⟨_,rfl⟩;rw[←Rz];have Ri:cD B X x V W2 V:=by rw[Rz];exact eQ.grow s ⟨g1,rfl⟩
 have ow:=ox.ext Ri.ex;have oV:=Ri.bk.o.ok;obtain⟨lr,le,sb,gm⟩:=cD.fa Ri;by_cases h1:bh (bG x.ev 1) 1 64=0
 case neg=>
  have e1:decide (bh (bG x.ev 1) 1 64≠0)=true:=X7 h1;refine Rs (A8 t2 t3 t4 e1 @lr @aG @sb @gm) ?_;rw[bA,Yh h1];exact z91
 have e1:decide (bh (bG x.ev 1) 1 64≠0)=false:=X3 (fun z=>z h1);by_cases h2:16≤V.lines.length
 case pos=>
  have e2:decide ((16:Int)≤(V.lines.length:Int))=true:=X7 Om;refine Rs (nw t2 t3 t4 e1 @ga oV.i0.aL e2 @lr @aG @sb @gm) ?_;rw[bA,Yd (fun z=>z h1),Yh (show 16≤V.an.lines.length from h2)];exact z91
 have e2:decide ((16:Int)≤(V.lines.length:Int))=false:=X3 Om;obtain⟨i0,d0⟩:=bI ow we 0 0 rfl De;obtain⟨j1,f1,q1⟩:=cR ow we 1 1 rfl De;refine Rs (Db t2 t3 t4 e1 @le @lr @ga oV.i0.aL e2 @aM @aY @i0 @d0 @j1 @f1) ?_;have Sg:bA V.an x.ev .line=0:=by rw[bA,Yd (fun z=>z h1),Yd (show ¬16≤V.an.lines.length from h2)]
 obtain⟨y,hy⟩:∃y:gM,y= ⟨aO x.ev 0,bG x.ev 1,false⟩:=⟨_,rfl⟩;obtain⟨z,hz⟩:∃z:List AV,z=cp y:=⟨_,rfl⟩;have SN: [AV.str (aO x.ev 0),.i (bG x.ev 1),.bool false]=z:=by rw[hz,hy];rfl
 rw[SN];refine WR.pC (B:=B) (cs:=V.lines.map cp) (Ri.bk.o.i0) (by rw[hz];rfl) Ri.ex De (by have:=w.len.l0;rw[Ya];omega) ?_;intro W5 s' x5 hff hn5 q5 l5 hk5;have hrow:V.lines.map cp++ [z]= (V.lines++ [y]).map cp:=by rw[Yc,hz];rfl
 rw[hrow]at hff;have s5:cD B X x V (W5.set X.length (.b (V.row.set 1 s'))) { V with lines:=V.lines++ [y],s0:=s' }:=eQ.p0 Ri hff (fun i hi=>.inr (aax (hn5 i hi))) hk5 x5 l5;have mB:W5[X.length]? =some (.b V.row):=(hk5 _ Ri.bk.lt (fun z=>Ri.bk.ne (by rw[←z];simp[RV.bl]))).trans Ri.bk.m;have SA:aT 1 (.ptr X.length 1) s' (fun z=>W5[z]?)=some (aA,.set X.length (.b (V.row.set 1 s'))):=(aN mB).trans (bW q5 (by show 1+1≤7;omega));refine Rs (A5 t2 t3 t4 @SA q5) ?_;obtain⟨W6,SI⟩:∃Z,Z=W5.set X.length (.b (V.row.set 1 s')):=⟨_,rfl⟩;rw[←SI]at s5 ⊢;obtain⟨lr,le,sb,gm⟩:=cD.fa s5;refine Rs (A7 t2 t3 t4 @lr @aG @sb @gm) ?_
 rw[Sg];exact cD.fin s5 (fun _=>by rw[hy];rfl)
theorem DU(w:fk V.an)(ox:bg B x)(we:jG x.ev .tape)(nk:sG V.an x.ev .tape)(s:cD B X x V W V)(hlen:ts.length=250)(t2:slot ts 2= .ptr X.length 0)(t3:slot ts 3= .ptr (X.length+1) 0)(t4:slot ts 4= .ptr (X.length+2) 0):
  WC P bR zN [] ts W (FQ [(4,some (some 7)),(5,none)] (rR B X V (bA V.an x.ev .tape) (dq V.an x.ev .tape))):=by
 have ow:=ox.ext s.ex;have oV:=s.bk.o.ok;have Q0:x.ev.kind=bu .tape:=cg we.kd;obtain⟨lr,le,sb,gm⟩:=cD.fa s;obtain⟨i0,d0⟩:=bI ow we 0 0 rfl De;obtain⟨j0,f0,q0⟩:=cR ow we 0 0 rfl De;obtain⟨j1,f1,q1⟩:=cR ow we 1 1 rfl De;unfold zN fn225;simp only[ai.tl];by_cases h1:999999999 < bG x.ev 0+bG x.ev 1
 case pos=>
  have e1:decide ((999999999:Int)< bG x.ev 0+bG x.ev 1)=true:=X7 h1;have hw:IntKind.i64.wrap (bG x.ev 0+bG x.ev 1)=bG x.ev 0+bG x.ev 1:=bo Om Om;refine kE (MG t2 t3 t4 @le @lr @a8 @aM @aY @aG @Q0 @gy @gX @Yp @j0 @f0 @j1 @f1 @Yk @hw e1 @sb @gm) ?_;rw[bA,Yh h1];exact GL
 have e1:decide ((999999999:Int)< bG x.ev 0+bG x.ev 1)=false:=X3 h1;have hw:IntKind.i64.wrap (bG x.ev 0+bG x.ev 1)=bG x.ev 0+bG x.ev 1:=bo Om Om;by_cases h2:16≤V.aI.length
 case pos=>
  have e2:decide ((16:Int)≤(V.aI.length:Int))=true:=X7 Om
  repeat (first| simp (config:={ maxSteps:=1000000 }) only[aW,bd,bC,bD,reduceAdd,reduceMul,reduceLeDiff,reduceEqDiff,bE,hlen,Yo,Ys,t2,t3,t4,le,lr,a8,aM,aY,aG,la,Q0,gy,gX,reduceCtorEq,Yp,j0,f0,j1,f1,Yk,hw,e1,oV.i1.aL,e2,sb,gm]| simp (config:={ maxSteps:=1000000 }) (disch:=first| (simp only[X2,X8,X9]<;>omega)| rfl| omega| fail) only[fU,aW,bd,bC,bD,reduceAdd,reduceMul,reduceLeDiff,reduceEqDiff,bE,hlen,Yo,Ys,t2,t3,t4,le,lr,a8,aM,aY,aG,la,Q0,gy,gX,reduceCtorEq,Yp,j0,f0,j1,f1,Yk,hw,e1,oV.i1.aL,e2,sb,gm])
  rw[bA,Yd h1,Yh (show 16≤V.an.aI.length from h2)];exact GL
 have e2:decide ((16:Int)≤(V.aI.length:Int))=false:=X3 Om
 repeat (first| simp (config:={ maxSteps:=1000000 }) only[aW,bd,bC,bD,reduceAdd,reduceMul,reduceLeDiff,reduceEqDiff,bE,hlen,Yo,Ys,t2,t3,t4,le,lr,a8,aM,aY,aG,la,Q0,gy,gX,reduceCtorEq,Yp,j0,f0,j1,f1,Yk,hw,e1,oV.i1.aL,e2,i0,d0]| simp (config:={ maxSteps:=1000000 }) (disch:=first| (simp only[X2,X8,X9]<;>omega)| rfl| omega| fail) only[fU,aW,bd,bC,bD,reduceAdd,reduceMul,reduceLeDiff,reduceEqDiff,bE,hlen,Yo,Ys,t2,t3,t4,le,lr,a8,aM,aY,aG,la,Q0,gy,gX,reduceCtorEq,Yp,j0,f0,j1,f1,Yk,hw,e1,oV.i1.aL,e2,i0,d0])
 have Sg:bA V.an x.ev .tape=0:=by rw[bA,Yd h1,Yd (show ¬16≤V.an.aI.length from h2)]
 obtain⟨y,hy⟩:∃y:rT,y= ⟨aO x.ev 0,bG x.ev 0+bG x.ev 1⟩:=⟨_,rfl⟩;obtain⟨z,hz⟩:∃z:List AV,z=dQ y:=⟨_,rfl⟩;have SN: [AV.str (aO x.ev 0),.i (bG x.ev 0+bG x.ev 1)]=z:=by rw[hz,hy];rfl
 rw[SN];refine WR.pC (B:=B) (cs:=V.aI.map dQ) (s.bk.o.i1) (by rw[hz];rfl) s.ex De (by have:=w.len.l1;rw[Ya];omega) ?_;intro W5 s' x5 hff hn5 q5 l5 hk5;have hrow:V.aI.map dQ++ [z]= (V.aI++ [y]).map dQ:=by rw[Yc,hz];rfl
 rw[hrow]at hff;have s5:cD B X x V (W5.set X.length (.b (V.row.set 2 s'))) { V with aI:=V.aI++ [y],s1:=s' }:=eQ.p1 s hff (fun i hi=>.inr (aax (hn5 i hi))) hk5 x5 l5;have mB:W5[X.length]? =some (.b V.row):=(hk5 _ s.bk.lt (fun z=>s.bk.ne (by rw[←z];simp[RV.bl]))).trans s.bk.m;have SA:aT 1 (.ptr X.length 2) s' (fun z=>W5[z]?)=some (aA,.set X.length (.b (V.row.set 2 s'))):=(aN mB).trans (bW q5 (by show 2+1≤7;omega));refine Rs (A5 t2 t3 t4 @SA q5) ?_;obtain⟨W6,SI⟩:∃Z,Z=W5.set X.length (.b (V.row.set 2 s')):=⟨_,rfl⟩;rw[←SI]at s5 ⊢;obtain⟨lr,le,sb,gm⟩:=cD.fa s5;refine Rs (A7 t2 t3 t4 @lr @aG @sb @gm) ?_
 rw[Sg];exact cD.fin s5 (fun _=>by rw[hy];rfl)
def DV(w:fk V.an)(ox:bg B x)(we:jG x.ev .gg)(nk:sG V.an x.ev .gg)(s:cD B X x V W V)(hlen:ts.length=250)(t2:slot ts 2= .ptr X.length 0)(t3:slot ts 3= .ptr (X.length+1) 0)(t4:slot ts 4= .ptr (X.length+2) 0):
  WC P bR zN [] ts W (FQ [(4,some (some 7)),(5,none)] (rR B X V (bA V.an x.ev .gg) (dq V.an x.ev .gg))):=by
 have ow:=ox.ext s.ex;have oV:=s.bk.o.ok;have Q0:x.ev.kind=bu .gg:=cg we.kd;obtain⟨lr,le,sb,gm⟩:=cD.fa s;obtain⟨i0,d0⟩:=bI ow we 0 0 rfl De;obtain⟨i1,d1⟩:=bI ow we 1 1 rfl De;obtain⟨i2,d2⟩:=bI ow we 2 2 rfl De;obtain⟨j0,f0,q0⟩:=cR ow we 0 0 rfl De;unfold zN fn225;simp only[ai.tl];have k1:aO x.ev 1∈gE V.an:=nk.kn 1 0 rfl;have k2:aO x.ev 2∈jB V.an:=nk.kn 2 1 rfl;have hlt:bp (gE V.an) (aO x.ev 1)< V.lines.length:=by have:=cY k1;simpa [gE,RV.an]using this
 have ei:cU (fun y:gM=>decide (y.name=aO x.ev 1)) V.lines= (bp (gE V.an) (aO x.ev 1):Int):=e9 (f:=gM.name) k1;have sp:dJ V.an (aO x.ev 1)=V.lines[bp (gE V.an) (aO x.ev 1)]:=dh k1;refine kE (Mo @t2 @t3 @t4 @le @lr @a8 @aM @aY @aG @ga @Q0 @gy @gX @ry @Yp @j0 @f0 @i1 @d1 @Yk) ?_;refine WF.ce T.c28 (r28 T (oV.ext Xx) w.len _) fun g1=>?_
 rw[ei];obtain⟨W2,Rz⟩:∃Z,Z=W++g1:=⟨_,rfl⟩;rw[←Rz];have Ri:cD B X x V W2 V:=by rw[Rz];exact eQ.grow s ⟨g1,rfl⟩
 have ow:=ox.ext Ri.ex;have oV:=Ri.bk.o.ok;obtain⟨lr,le,sb,gm⟩:=cD.fa Ri;obtain⟨i0,d0⟩:=bI ow we 0 0 rfl De;obtain⟨i1,d1⟩:=bI ow we 1 1 rfl De;obtain⟨i2,d2⟩:=bI ow we 2 2 rfl De;obtain⟨j0,f0,q0⟩:=cR ow we 0 0 rfl De;have ix:aZ 3 V.s0 (.i (bp (gE V.an) (aO x.ev 1):Int))=some (cV V.s0 3 (bp (gE V.an) (aO x.ev 1)),.au):=oV.i0.dI hlt;have l2:∀{k:ah},Ext W2 k→aq none (jv V.s0 3 (bp (gE V.an) (aO x.ev 1)) 2) (fun b=>k[b]?)=some (.bool (dJ V.an (aO x.ev 1)).acc,.au):=fun {k} e=>by rw[sp];exact oV.i0.lG hlt rfl e
 cases h1: (dJ V.an (aO x.ev 1)).acc with
 | true=>
  rw[h1]at l2;refine Rs (A9 t2 t3 t4 ix @l2 @lr @aG @sb @gm) ?_;rw[bA,Yh h1];exact z91
 | false=>
 rw[h1]at l2;refine Rs (nw t2 t3 t4 ix @l2 @le @lr @aG @aM @i2 @d2) ?_;refine WF.ce T.c84 (r84 T (oV.ext Xx) w.len k2 _) fun g2=>?_
 obtain⟨W3,Rg⟩:∃Z,Z=W2++g2:=⟨_,rfl⟩;rw[←Rg];have Rn:cD B X x V W3 V:=by rw[Rg];exact eQ.grow Ri ⟨g2,rfl⟩
 have ow:=ox.ext Rn.ex;have oV:=Rn.bk.o.ok;obtain⟨lr,le,sb,gm⟩:=cD.fa Rn;obtain⟨i0,d0⟩:=bI ow we 0 0 rfl De;obtain⟨i1,d1⟩:=bI ow we 1 1 rfl De;obtain⟨i2,d2⟩:=bI ow we 2 2 rfl De;obtain⟨j0,f0,q0⟩:=cR ow we 0 0 rfl De;cases h2:jo V.an (bG x.ev 0) (aO x.ev 2)with
 | false=>
  refine Rs (A8 t2 t3 t4 @Yz @lr @aG @sb @gm) ?_;rw[bA,Yd (by rw[h1];decide),Yh (by rw[h2];rfl)];exact Df
 | true=>
 by_cases h3:64≤V.aj.length
 case pos=>
  have e3:decide ((64:Int)≤(V.aj.length:Int))=true:=X7 Om;refine Rs (nw t2 t3 t4 @Yw @fF oV.i2.aL e3 @lr @aG @sb @gm) ?_;rw[bA,Yd (by rw[h1];decide),Yd (by rw[h2];decide),Yh (show 64≤V.an.aj.length by simpa [RV.an]using h3)];exact Df
 have e3:decide ((64:Int)≤(V.aj.length:Int))=false:=X3 Om;have Sg:bA V.an x.ev .gg=0:=by rw[bA,Yd (by rw[h1];decide),Yd (by rw[h2];decide),Yd (show ¬64≤V.an.aj.length by simpa [RV.an]using h3)]
 obtain⟨t,ht⟩:∃t,t=AV.slice W3.length 0 1 1:=⟨_,rfl⟩;have ot:t.one=true:=by rw[ht];rfl
 refine Rs (FN t2 t3 t4 @Yw @le @lr @fF oV.i2.aL e3 @aM @i0 @d0 @i1 @d1 @i2 @d2) ?_;rw[←ht];refine Rs (A4 t2 t3 t4 @ot) ?_;obtain⟨y,hy⟩:∃y:jI,y= ⟨aO x.ev 0,aO x.ev 1,[aO x.ev 2]⟩:=⟨_,rfl⟩;obtain⟨z,hz⟩:∃z:List AV,z=bj (y,t):=⟨_,rfl⟩;have SN: [AV.str (aO x.ev 0),.str (aO x.ev 1),t]=z:=by rw[hz,hy];rfl
 rw[SN];obtain⟨Y,hY⟩:∃Z,Z=W3++ [ak.cells [.str (aO x.ev 2)] true true]:=⟨_,rfl⟩;rw[←hY];have RW:Fr W3.length Y t 1 (y.aI.map ao):=by
  rw[ht,hy,hY];exact(Fr.push (h:=W3) (N:=W3.length) (Yg _) [ao (aO x.ev 2)] (by simp[ao]))
 have sY:cD B X x V Y V:=by rw[hY];exact eQ.grow Rn ⟨_,rfl⟩
 have lY:W3.length < Y.length:=by rw[hY];simp
 have eY:Ext W3 Y:=by rw[hY];exact⟨_,rfl⟩
 refine WR.pC (B:=B) (cs:=V.aj.map bj) (sY.bk.o.i2) (by rw[hz];rfl) sY.ex De (by have:=w.len.l2;rw[Ya];omega) ?_;intro W5 s' x5 hff hn5 q5 l5 hk5;have hrow:V.aj.map bj++ [z]= (V.aj++ [(y,t)]).map bj:=by rw[Yc,hz];rfl
 rw[hrow]at hff;have bS:∀i,sB t=some i→sB V.s2≠some i:=fun i hi e=>by
  have h1:=(RW.bM hi).1;have h2:=(Rn.bk.o.dP (b:=i) (by rw[←e];simp[RV.bl])).2;omega
 have f5:Fr B.length W5 t 1 (y.aI.map ao):=(RW.aB fun i hi=>hk5 i (RW.bM hi).2 (bS i hi)).low Rn.ex.len;have s5:cD B X x V (W5.set X.length (.b (V.row.set 3 s'))) { V with aj:=V.aj++ [(y,t)],s2:=s' }:=eQ.p2 Rn hff f5 (fun i hi=>.inr (by have:=hn5 i hi;omega)) (fun i hi=>⟨(RW.bM hi).1,fun e=>by have:=hn5 i e;have:=(RW.bM hi).2;omega⟩) (fun i hi hne=>(hk5 i Om hne).trans (eY.get hi)) x5 Om;have mB:W5[X.length]? =some (.b V.row):=(hk5 _ sY.bk.lt (fun z=>sY.bk.ne (by rw[←z];simp[RV.bl]))).trans sY.bk.m;have SA:aT 1 (.ptr X.length 3) s' (fun z=>W5[z]?)=some (aA,.set X.length (.b (V.row.set 3 s'))):=(aN mB).trans (bW q5 (by show 3+1≤7;omega))
 refine Rs (A5 t2 t3 t4 @SA q5) ?_;obtain⟨W6,SI⟩:∃Z,Z=W5.set X.length (.b (V.row.set 3 s')):=⟨_,rfl⟩;rw[←SI]at s5 ⊢;obtain⟨lr,le,sb,gm⟩:=cD.fa s5;refine Rs (A7 t2 t3 t4 @lr @aG @sb @gm) ?_;rw[Sg];exact cD.fin s5 (fun _=>by simp only[RV.an,Yc,dq,YY,ZV,hy])
end
def gp:List AV:=[.int .i64 0,.str [],.af,.af,.str []]
def Ct(kd:By)(sn sv:AV):ak:=.cells [.int .i64 0,.str kd,sn,sv,.str []] true false
structure uJ(A:ah)(kd:By)(b8:Nat)(kb:ak)(sw:AV)(wr:Bool)(ws:List (By))(sn sv:AV)(ns:List (By))(vs:List Int)(B:ah):Prop where
 m7: (A++ [gF sw wr]++B)[A.length+1]? =some (Ct kd sn sv)
 m8: (A++ [gF sw wr]++B)[b8]? =some kb
 l8:A.length+1 < b8
 s:aK A sw 1 (ws.map ao)
 wl:∀x∈ws,x.length≤2^40
 n:Fr (A.length+1) (A++ [gF sw wr]++B) sn 1 (ns.map ao)
 v:Fr (A.length+1) (A++ [gF sw wr]++B) sv 1 (vs.map aJ)
 dn:∀i,sB sn=some i→A.length+1 < i∧i≠b8
 dv:∀i,sB sv=some i→A.length+1 < i∧i≠b8
 dd:∀i,sB sn=some i→sB sv≠some i
section
variable {A B:ah} {kd:By} {b8:Nat} {kb:ak} {sw:AV} {wr:Bool} {ws:List (By)} {sn sv:AV} {ns:List (By)} {vs:List Int}
def vG{x}: (A++ [x]).length=A.length+1:=Si
def uJ.tk(o:uJ A kd b8 kb sw wr ws sn sv ns vs B){sw' wr' ws'}(hs:aK A sw' 1 (ws'.map ao))(hw:∀x∈ws',x.length≤2^40):uJ A kd b8 kb sw' wr' ws' sn sv ns vs B:=
 ⟨by rw[qv (K':=gF sw wr) Om];exact o.m7,by rw[qv (K':=gF sw wr) (by have:=o.l8;omega)];exact o.m8,o.l8,hs,hw,o.n.swap' vG vG,o.v.swap' vG vG,o.dn,o.dv,o.dd⟩
theorem uJ.app(o:uJ A kd b8 kb sw wr ws sn sv ns vs B)(g:ah):uJ A kd b8 kb sw wr ws sn sv ns vs (B++g):=by
 have e:A++ [gF sw wr]++ (B++g)=A++ [gF sw wr]++B++g:=(X4 _ _ _).symm;exact⟨by rw[e];exact(Ext.app g (Ext.refl _)).some o.m7,by rw[e];exact(Ext.app g (Ext.refl _)).some o.m8,o.l8,o.s,o.wl,by rw[e];exact o.n.app g,by rw[e];exact o.v.app g,o.dn,o.dv,o.dd⟩
def nO{K X g}: (A++ [K]++g).set (A.length+1) X=A++ [K]++g.set 0 X:=by
 rw[YX _ _ Si];simp
def uJ.Nz(o:uJ A kd b8 kb sw wr ws sn sv ns vs B){Vd ns' g}(hF:Fr (A.length+1) (A++ [gF sw wr]++g) Vd 1 (ns'.map ao))(hlo:∀i,sB Vd=some i→(A++ [gF sw wr]++B).length < i)
  (hle: (A++ [gF sw wr]++B).length≤(A++ [gF sw wr]++g).length) (hk:∀i,i < (A++ [gF sw wr]++B).length→sB sn≠some i→(A++ [gF sw wr]++g)[i]? = (A++ [gF sw wr]++B)[i]?):
  uJ A kd b8 kb sw wr ws Vd sv ns' vs (g.set 0 (Ct kd Vd sv)):=by
 have l7:=(X1.1 o.m7).1;have l8:=(X1.1 o.m8).1;have h8:=o.l8;have ne:∀i,i≠A.length+1→((A++ [gF sw wr]++g).set (A.length+1) (Ct kd Vd sv))[i]? = (A++ [gF sw wr]++g)[i]? :=fun i hi=>Yj (fun e=>hi e.symm)
 refine⟨?_,?_,h8,o.s,o.wl,?_,?_,fun i hi=>?_,o.dv,fun i hi e=>?_⟩
 ·rw[←nO,Yl Om]
 ·rw[←nO,ne _ Om,hk _ l8 (fun e=>(o.dn _ e).2 rfl)];exact o.m8
 ·exact JE
 ·rw[←nO];exact o.v.aB fun j hj=>by rw[ne j (by have:=(o.dv j hj).1;omega),hk j (o.v.bM hj).2 (fun e=>o.dd j e hj)]
 ·have:=hlo i hi;exact⟨Om,Om⟩
 ·have h1:=hlo i hi;have h2:=(o.v.bM e).2;omega
def uJ.Ny(o:uJ A kd b8 kb sw wr ws sn sv ns vs B){Vb vs' g}(hF:Fr (A.length+1) (A++ [gF sw wr]++g) Vb 1 (vs'.map aJ))(hlo:∀i,sB Vb=some i→(A++ [gF sw wr]++B).length < i)
  (hle: (A++ [gF sw wr]++B).length≤(A++ [gF sw wr]++g).length) (hk:∀i,i < (A++ [gF sw wr]++B).length→sB sv≠some i→(A++ [gF sw wr]++g)[i]? = (A++ [gF sw wr]++B)[i]?):
  uJ A kd b8 kb sw wr ws sn Vb ns vs' (g.set 0 (Ct kd sn Vb)):=by
 have l7:=(X1.1 o.m7).1;have l8:=(X1.1 o.m8).1;have h8:=o.l8;have ne:∀i,i≠A.length+1→((A++ [gF sw wr]++g).set (A.length+1) (Ct kd sn Vb))[i]? = (A++ [gF sw wr]++g)[i]? :=fun i hi=>Yj (fun e=>hi e.symm)
 refine⟨?_,?_,h8,o.s,o.wl,?_,?_,o.dn,fun i hi=>?_,fun i hi e=>?_⟩
 ·rw[←nO,Yl Om]
 ·rw[←nO,ne _ Om,hk _ l8 (fun e=>(o.dv _ e).2 rfl)];exact o.m8
 ·rw[←nO];exact o.n.aB fun j hj=>by rw[ne j (by have:=(o.dn j hj).1;omega),hk j (o.n.bM hj).2 (fun e=>o.dd j hj e)]
 ·exact JE
 ·have:=hlo i hi;exact⟨Om,Om⟩
 ·have h1:=hlo i e;have h2:=(o.n.bM hi).2;omega
end
def qC{ws wr}:∀x∈(bO ws wr).2.1,x∈ws:=by
 intro x hx;cases ws with
 | nil=>simp[bO]at hx
 | cons w r=>
  by_cases hw:w= []
  ·rw[bO,Yh hw]at hx;simp at hx
  ·rw[bO,Yd hw]at hx;exact YI _ hx
def Mn(h:ah)(ws:List (By))(v:AV)(k:ah):Prop:=Ext h k∧∃x:EV,x.ev= (ep ws).1∧v= .dL [.agg x.row,.bool (ep ws).2]∧Fr h.length k x.sn 1 (x.ev.names.map ao)∧Fr h.length k x.sv 1 (x.ev.b9.map aJ)
def vg{h k}(e:Ext (h++ [ak.cells [.int .i64 0,.str [],.af,.af,.str []] true false]) k):k[h.length]? =some (.cells [.int .i64 0,.str [],.af,.af,.str []] true false):=e.some (by rw[Ye (Yg _)];simp)
def Ky{h k}(e:Ext (h++ [ak.cells [.int .i64 0,.str [],.af,.af,.str []] true false]) k):aT 5 (.ptr h.length 0) (.agg [.int .i64 0,.str [],.af,.af,.str []]) (fun z=>k[z]?)=some (aA,.set h.length (.cells [.int .i64 0,.str [],.af,.af,.str []] true false)):=by rw[aN (vg e)];rfl
def KA{h k}(e:Ext (h++ [ak.cells [.int .i64 0,.str [],.af,.af,.str []] true false]) k):aq (some 5) (.ptr h.length 0) (fun z=>k[z]?)=some (.agg [.int .i64 0,.str [],.af,.af,.str []],.au):=by rw[az (vg e)];rfl
def Kz{h k}(e:Ext (h++ [ak.cells [.int .i64 0,.str [],.af,.af,.str []] true false]) k):k.set h.length (.cells [.int .i64 0,.str [],.af,.af,.str []] true false)=k:=by
 have:=vg e;exact J3
def Kx{h k x}(ox:bg k x)(e:Ext (h++ [ak.cells [.int .i64 0,.str [],.af,.af,.str []] true false]) k):aT 5 (.ptr h.length 0) (.agg x.row) (fun z=>k[z]?)=some (aA,.set h.length (.cells x.row true false)):=by rw[aN (vg e)];exact ox.st
def Kw{h k:ah}{x:EV}(e:Ext (h++ [ak.cells [.int .i64 0,.str [],.af,.af,.str []] true false]) k):aq (some 5) (.ptr h.length 0) (fun z=>(k.set h.length (.cells x.row true false))[z]?)=some (.agg x.row,.au):=by
 rw[az (Yl (X1.1 (vg e)).1)];rfl
theorem sK:∀{n} {ws} {wr},(c8 n ws wr).1.length=n
 | 0,_,_=>rfl
 | n+1,ws,wr=>by rw[c8,X8,sK]
theorem vv:∀{n} {ws} {wr},(fu n ws wr).1.length=n
 | 0,_,_=>rfl
 | n+1,ws,wr=>by rw[fu,X8,vv]
def vk(ws:List (By)): (ep ws).1.names.length≤3∧(ep ws).1.b9.length≤3:=by
 unfold ep;cases gJ (bO ws false).1 with
 | none=>exact⟨YB _,YB _⟩
 | some d=>
  have h3: (bL d).length≤3∧cB d≤3:=by cases d<;>decide
  exact⟨by show(c8 _ _ _).1.length≤3;rw[sK];exact h3.1,by show(fu _ _ _).1.length≤3;rw[vv];exact h3.2⟩
def wF(k:Nat):ai:=(fn111).body.dr k
def BP(k:Nat):ai:=(wF k).hd
def Nv:fn111= ⟨73,1,[(2,some (some 5)),(3,none)],.seq (BP 0) (.seq (BP 1) (.seq (BP 2) (.seq (BP 3) (.seq (BP 4) (.seq (BP 5) (wF 6))))))⟩:=rfl
def Nu:wF 6= .seq (BP 6) (wF 7):=rfl
def Nt:wF 7= .seq (BP 7) (wF 8):=rfl
attribute [local irreducible] WQ
section
variable {P:Program} (T:fy P) {h A B:ah} {kd:By} {b8:Nat} {kb:ak} {sw:AV} {wr:Bool} {ws WX:List (By)} {sn sv:AV} {ns:List (By)} {vs:List Int} {ts:TS}
include T
theorem Hh(hA:A=h++ [.cells gp true false])(o:uJ A kd b8 kb sw wr ws sn sv ns vs B)(hlen:ts.length=73)(t2:slot ts 2= .ptr h.length 0)(t4:slot ts 4= .ptr A.length 0)(t7:slot ts 7= .ptr (A.length+1) 0)
  (hw:ep WX= (⟨0,kd,ns,vs,[]⟩,!wr && decide (ws.length=0))):WC P bR (wF 8) [] ts (A++ [gF sw wr]++B) (FQ [(2,some (some 5)),(3,none)] (Mn h WX)):=by
 have hAl:A.length=h.length+1:=by rw[hA];simp
 obtain⟨Y,hY⟩:∃Y,Y=A++ [gF sw wr]++B:=⟨_,rfl⟩;have Tq:Y=h++ ([ak.cells gp true false]++ [gF sw wr]++B):=by rw[hY,hA];simp
 have m2:Y[h.length]? =some (.cells gp true false):=by rw[Tq,Ye (Yg _)];simp
 have m4:Y[A.length]? =some (.cells [sw,.bool wr] true false):=by rw[hY];exact Iz
 have m7:Y[A.length+1]? =some (.cells [.int .i64 0,.str kd,sn,sv,.str []] true false):=by rw[hY];exact o.m7
 have ln:=o.n;have lv:=o.v;rw[←hY]at ln lv ⊢;have x:∃x:EV,x= ⟨⟨0,kd,ns,vs,[]⟩,sn,sv⟩:=⟨_,rfl⟩;obtain⟨x,hx⟩:=x;have hrow:x.row= [.int .i64 0,.str kd,sn,sv,.str []]:=by rw[hx];rfl
 have ox:Fr h.length (Y.set h.length (.cells x.row true false)) x.sn 1 (x.ev.names.map ao)∧Fr h.length (Y.set h.length (.cells x.row true false)) x.sv 1 (x.ev.b9.map aJ):=by
  rw[hx];exact⟨(ln.aB fun j hj=>Yj (by have:=(o.dn j hj).1;omega)).low Om,(lv.aB fun j hj=>Yj (by have:=(o.dv j hj).1;omega)).low Om⟩
 have oy:bg Y x:=by rw[hx];exact⟨ln.aX,lv.aX⟩
 have l4:∀{n:Option Nat} {a:Nat},aq n (.ptr A.length a) (fun z=>Y[z]?)=dE n a (.cells [sw,.bool wr] true false):=az m4;have l7:aq (some 5) (.ptr (A.length+1) 0) (fun z=>Y[z]?)=some (.agg x.row,.au):=by rw[az m7,hrow];rfl
 have s2:aT 5 (.ptr h.length 0) (.agg x.row) (fun z=>Y[z]?)=some (aA,.set h.length (.cells x.row true false)):=by rw[aN m2];exact oy.st
 have l2:aq (some 5) (.ptr h.length 0) (fun z=>(Y.set h.length (.cells x.row true false))[z]?)=some (.agg x.row,.au):=by rw[az (Yl (X1.1 m2).1)];rfl
 have hlw:=(o.s.aL (row:=ao));have fin:∀b,b= (!wr && decide (ws.length=0))→Mn h WX (.dL [.agg x.row,.bool b]) (Y.set h.length (.cells x.row true false)):=fun b hb=>by
  refine⟨⟨([ak.cells gp true false]++ [gF sw wr]++B).set 0 (.cells x.row true false),by rw[Tq,YX _ _ (Yg _),Zb]⟩,x,by rw[hw,hx],by rw[hw,hb],ox⟩
 unfold wF fn111;simp only[ai.j,ai.s,ai.r,ai.dr,ai.tl,ai.hd];cases wr with
 | true=>
  repeat (first| simp (config:={ maxSteps:=1000000 }) only[aW,bd,bC,bD,reduceAdd,reduceMul,reduceLeDiff,reduceEqDiff,bE,hlen,Yo,Ys,t2,t4,t7,l4,l7,s2,Yw,Yz,qB,oP,oR,oQ,qz,oM,uy,zk,uz,qA,mv,zl,uA,uB,qy,oO,uw,uv]| simp (config:={ maxSteps:=1000000 }) (disch:=first| (simp only[X2,X8,X9]<;>omega)| rfl| omega| fail) only[fU,aW,bd,bC,bD,reduceAdd,reduceMul,reduceLeDiff,reduceEqDiff,bE,hlen,Yo,Ys,t2,t4,t7,l4,l7,s2,Yw,Yz,qB,oP,oR,oQ,qz,oM,uy,zk,uz,qA,mv,zl,uA,uB,qy,oO,uw,uv])
  rw[C2];refine⟨?_,?_⟩
  ·exact z87
  ·repeat (first| simp (config:={ maxSteps:=1000000 }) only[aW,bd,bC,bD,reduceAdd,reduceMul,reduceLeDiff,reduceEqDiff,bE,hlen,Yo,Ys,t2,l2,oE,oG,oI,ZJ,Zj]| simp (config:={ maxSteps:=1000000 }) (disch:=first| (simp only[X2,X8,X9]<;>omega)| rfl| omega| fail) only[fU,aW,bd,bC,bD,reduceAdd,reduceMul,reduceLeDiff,reduceEqDiff,bE,hlen,Yo,Ys,t2,l2,oE,oG,oI,ZJ,Zj])
   exact fin _ rfl
 | false=>
  repeat (first| simp (config:={ maxSteps:=1000000 }) only[aW,bd,bC,bD,reduceAdd,reduceMul,reduceLeDiff,reduceEqDiff,bE,hlen,Yo,Ys,t2,t4,t7,l4,l7,s2,hlw,Yw,Yz,qB,oP,oR,oQ,qz,oM,uy,zk,uz,qA,mv,zl,uA,uB,qy,oO,uw,uv]| simp (config:={ maxSteps:=1000000 }) (disch:=first| (simp only[X2,X8,X9]<;>omega)| rfl| omega| fail) only[fU,aW,bd,bC,bD,reduceAdd,reduceMul,reduceLeDiff,reduceEqDiff,bE,hlen,Yo,Ys,t2,t4,t7,l4,l7,s2,hlw,Yw,Yz,qB,oP,oR,oQ,qz,oM,uy,zk,uz,qA,mv,zl,uA,uB,qy,oO,uw,uv])
  rw[C2];refine⟨?_,?_⟩
  ·exact z87
  ·repeat (first| simp (config:={ maxSteps:=1000000 }) only[aW,bd,bC,bD,reduceAdd,reduceMul,reduceLeDiff,reduceEqDiff,bE,hlen,Yo,Ys,t2,l2,oE,oG,oI,ZJ,Zj]| simp (config:={ maxSteps:=1000000 }) (disch:=first| (simp only[X2,X8,X9]<;>omega)| rfl| omega| fail) only[fU,aW,bd,bC,bD,reduceAdd,reduceMul,reduceLeDiff,reduceEqDiff,bE,hlen,Yo,Ys,t2,l2,oE,oG,oI,ZJ,Zj])
   refine fin _ ?_;cases ws<;>simp
   try omega
def Nr(Z:qj P){vN rs c2 c3 a4}(hA:A=h++ [.cells gp true false])(hkb:kb= .cells [rs,.int .i64 (vN:Nat),c2,c3,a4] true false)(hvN:vN≤100)(o:uJ A kd b8 kb sw wr ws sn sv ns [] B)(hlen:ts.length=73)(t2:slot ts 2= .ptr h.length 0)(t4:slot ts 4= .ptr A.length 0)(t6:slot ts 6= .func (.func 208) [.ptr A.length 0] [])(t7:slot ts 7= .ptr (A.length+1) 0)(t8:slot ts 8= .ptr b8 0)
  (hw:ep WX= (⟨0,kd,ns,(fu vN ws wr).1,[]⟩,!(fu vN ws wr).2.2 && decide ((fu vN ws wr).2.1.length=0))):WC P bR (wF 7) [] ts (A++ [gF sw wr]++B) (FQ [(2,some (some 5)),(3,none)] (Mn h WX)):=by
 have m8:=o.m8;rw[hkb]at m8;have l8:∀{n:Option Nat} {a:Nat},aq n (.ptr b8 a) (fun z=>(A++ [gF sw wr]++B)[z]?)=dE n a (.cells [rs,.int .i64 (vN:Nat),c2,c3,a4] true false):=az m8;obtain⟨RR,RT⟩:∃RR,RR=wF 8:=⟨_,rfl⟩;rw[Nt,←RT];unfold BP wF fn111;simp only[ai.j,ai.s,ai.r,ai.dr,ai.tl,ai.hd];refine Rs (A6 t2 t4 t6 t7 t8 @l8) ?_;refine WL.inv T.mix (fun n ts' h'=>∃ (k:Nat) (sw' Vb:AV) (wr':Bool) (ws':List (By)) (vs':List Int) (B':ah),k≤vN∧n=vN - k∧h' =A++ [gF sw' wr']++B'∧uJ A kd b8 kb sw' wr' ws' sn Vb ns vs' B'∧vs'.length=k∧fu vN ws wr= (vs'++ (fu (vN - k) ws' wr').1,(fu (vN - k) ws' wr').2)∧
   ts'.length=73∧slot ts' 2= .ptr h.length 0∧slot ts' 4= .ptr A.length 0∧slot ts' 6= .func (.func 208) [.ptr A.length 0] []∧slot ts' 7= .ptr (A.length+1) 0∧slot ts' 47= .int .i64 vN∧slot ts' 48= .int .i64 k) vN
  ⟨0,sw,sv,wr,ws,[],B,Om,rfl,rfl,o,rfl,rfl,(Sq t2),(Sq t2),(Sq t4),(Sq t6),(Sq t7),(Sq t2),hP⟩ ?_
 clear hlen t2 t4 t6 t7 t8 l8 m8 o;rintro _ ts' _ ⟨k,sw',Vb,wr',ws',vs',B',hk,rfl,rfl,o,RL,SE,hlen,u2,u4,u6,u7,u47,u48⟩;by_cases hlt:k < vN
 ·have e3:decide ((k:Int)< vN)=true:=X7 Om;refine Rs (A7 @u2 @u4 @u6 @u7 @u47 @u48 e3) ?_;refine WF.gen T.c208 (Ol T Z o.s o.wl) ?_;rintro _ _ ⟨S4,g,rfl,rfl,Rt⟩;obtain⟨R6,Uy⟩:∃R6,R6= ((bO ws' wr').2.2|| !iF (bO ws' wr').1):=⟨_,rfl⟩;obtain⟨y,hy⟩:∃y,y=kS (bO ws' wr').1:=⟨_,rfl⟩;rw[←Uy,←hy];have o2:=(o.tk (wr':=R6) Rt (fun x hx=>o.wl x (qC x hx))).app g;have bS:fu vN ws wr= ((vs'++ [y])++ (fu (vN - (k+1)) (bO ws' wr').2.1 R6).1,(fu (vN - (k+1)) (bO ws' wr').2.1 R6).2):=by
   rw[SE,show vN - k= (vN - (k+1))+1 by omega,fu,hy,Uy];simp
  have l7:∀{kk:ah} {n:Option Nat} {a:Nat},Ext (A++ [gF S4 R6]++ (B'++g)) kk→aq n (.ptr (A.length+1) a) (fun z=>kk[z]?)=dE n a (.cells [.int .i64 0,.str kd,sn,Vb,.str []] true false):=fun e=>az (e.some o2.m7)
  refine Rs (A7 @u2 @u4 @u6 @u7 @u47 @u48 @l7) ?_;refine WR.pC (B:=A++ [gF S4 R6]) (cs:=vs'.map aJ) (z:=aJ y) (by rw[vG];exact o2.v) rfl ⟨_,rfl⟩ De (by simp;omega) ?_;rintro _ s' ⟨g2,rfl⟩ hF hlo hone hle hkp;rw[vG]at hF;have er:vs'.map aJ++ [aJ y]= (vs'++ [y]).map aJ:=by rw[Yc];rfl
  rw[er]at hF;have q7:=(X1.1 o2.m7).1;have m7': (A++ [gF S4 R6]++g2)[A.length+1]? =some (.cells [.int .i64 0,.str kd,sn,Vb,.str []] true false):=by
   rw[hkp _ q7 (fun e=>by have:=(o2.dv _ e).1;omega)];exact o2.m7
  have s7:aT 1 (.ptr (A.length+1) 3) s' (fun z=>(A++ [gF S4 R6]++g2)[z]?)=some (aA,.set (A.length+1) (.cells [.int .i64 0,.str kd,sn,s',.str []] true false)):=by
   rw[aN m7'];exact bW hone Si
  have o3:=o2.Ny hF hlo hle hkp;refine Rs (A8 @u2 @u4 @u6 @u7 @u47 @u48 @s7 (wrapN (show k+1 < 2^63 by omega))) ?_;exact⟨vN - (k+1),Om,k+1,S4,s',R6,_,vs'++ [y],_,Om,rfl,nO,o3,by simp[RL],bS,rfl⟩
 ·have e3:decide ((k:Int)< vN)=false:=X3 Om;have ek:k=vN:=Om
  subst ek;rw[Zb,fu,Yu]at SE;rw[SE]at hw;refine Rs (A7 @u2 @u4 @u6 @u7 @u47 @u48 e3) ?_;rw[RT];exact Hh T hA o (Sq @u2) (Sq @u2) (Sq @u4) (Sq @u7) hw
def Ns(Z:qj P){nN vN rs c2 c3 a4}(hA:A=h++ [.cells gp true false])(hkb:kb= .cells [rs,.int .i64 (vN:Nat),c2,c3,a4] true false)(hnN:nN≤100)(hrs:∀G,iO .sl G rs=some nN)(hvN:vN≤100)(o:uJ A kd b8 kb sw wr ws sn sv [] [] B)(hlen:ts.length=73)(t2:slot ts 2= .ptr h.length 0)(t4:slot ts 4= .ptr A.length 0)
  (t5:slot ts 5= .func (.func 207) [.ptr A.length 0] []) (t6:slot ts 6= .func (.func 208) [.ptr A.length 0] []) (t7:slot ts 7= .ptr (A.length+1) 0) (t8:slot ts 8= .ptr b8 0)
  (hw:ep WX= (⟨0,kd,(c8 nN ws wr).1,(fu vN (c8 nN ws wr).2.1 (c8 nN ws wr).2.2).1,[]⟩,!(fu vN (c8 nN ws wr).2.1 (c8 nN ws wr).2.2).2.2 && decide ((fu vN (c8 nN ws wr).2.1 (c8 nN ws wr).2.2).2.1.length=0))):WC P bR (wF 6) [] ts (A++ [gF sw wr]++B) (FQ [(2,some (some 5)),(3,none)] (Mn h WX)):=by
 have m8:=o.m8;rw[hkb]at m8;have l8:∀{n:Option Nat} {a:Nat},aq n (.ptr b8 a) (fun z=>(A++ [gF sw wr]++B)[z]?)=dE n a (.cells [rs,.int .i64 (vN:Nat),c2,c3,a4] true false):=az m8;obtain⟨RR,RT⟩:∃RR,RR=wF 7:=⟨_,rfl⟩;rw[Nu,←RT];unfold BP wF fn111;simp only[ai.j,ai.s,ai.r,ai.dr,ai.tl,ai.hd];refine Rs (A8 t2 t4 t5 t6 t7 t8 @l8 @hrs) ?_;refine WL.inv T.mix (fun n ts' h'=>∃ (k:Nat) (sw' Vd:AV) (wr':Bool) (ws' ns':List (By)) (B':ah),k≤nN∧n=nN - k∧h' =A++ [gF sw' wr']++B'∧uJ A kd b8 kb sw' wr' ws' Vd sv ns' [] B'∧ns'.length=k∧c8 nN ws wr= (ns'++ (c8 (nN - k) ws' wr').1,(c8 (nN - k) ws' wr').2)∧
   ts'.length=73∧slot ts' 2= .ptr h.length 0∧slot ts' 4= .ptr A.length 0∧slot ts' 5= .func (.func 207) [.ptr A.length 0] []∧slot ts' 6= .func (.func 208) [.ptr A.length 0] []∧slot ts' 7= .ptr (A.length+1) 0∧slot ts' 8= .ptr b8 0∧slot ts' 34= .int .i64 nN∧slot ts' 35= .int .i64 k) nN
  ⟨0,sw,sn,wr,ws,[],B,Om,rfl,rfl,o,rfl,rfl,(Sq t2),(Sq t2),(Sq t4),(Sq t5),(Sq t6),(Sq t7),(Sq t8),(Sq t2),hP⟩ ?_
 clear hlen t2 t4 t5 t6 t7 t8 l8 m8 o;rintro _ ts' _ ⟨k,sw',Vd,wr',ws',ns',B',hk,rfl,rfl,o,RL,SE,hlen,u2,u4,u5,u6,u7,u8,u34,u35⟩;by_cases hlt:k < nN
 ·have e3:decide ((k:Int)< nN)=true:=X7 Om;refine Rs (A9 @u2 @u4 @u5 @u6 @u7 @u8 @u34 @u35 e3) ?_;refine WF.gen T.c207 (HW T o.s) ?_;rintro _ _ ⟨S4,rfl,rfl,Rt⟩;obtain⟨R6,Uy⟩:∃R6,R6= (bO ws' wr').2.2:=⟨_,rfl⟩;obtain⟨y,hy⟩:∃y,y= (bO ws' wr').1:=⟨_,rfl⟩;rw[←Uy,←hy];have o2:=o.tk (wr':=R6) Rt (fun x hx=>o.wl x (qC x hx));have bS:c8 nN ws wr= ((ns'++ [y])++ (c8 (nN - (k+1)) (bO ws' wr').2.1 R6).1,(c8 (nN - (k+1)) (bO ws' wr').2.1 R6).2):=by
   rw[SE,show nN - k= (nN - (k+1))+1 by omega,c8,hy,Uy];simp
  have l7:∀{kk:ah} {n:Option Nat} {a:Nat},Ext (A++ [gF S4 R6]++B') kk→aq n (.ptr (A.length+1) a) (fun z=>kk[z]?)=dE n a (.cells [.int .i64 0,.str kd,Vd,sv,.str []] true false):=fun e=>az (e.some o2.m7)
  refine Rs (A9 @u2 @u4 @u5 @u6 @u7 @u8 @u34 @u35 @l7) ?_;refine WR.pC (B:=A++ [gF S4 R6]) (cs:=ns'.map ao) (z:=ao y) (by rw[vG];exact o2.n) rfl ⟨_,rfl⟩ De (by simp;omega) ?_;rintro _ s' ⟨g2,rfl⟩ hF hlo hone hle hkp;rw[vG]at hF;have er:ns'.map ao++ [ao y]= (ns'++ [y]).map ao:=by rw[Yc];rfl
  rw[er]at hF;have q7:=(X1.1 o2.m7).1;have m7': (A++ [gF S4 R6]++g2)[A.length+1]? =some (.cells [.int .i64 0,.str kd,Vd,sv,.str []] true false):=by
   rw[hkp _ q7 (fun e=>by have:=(o2.dn _ e).1;omega)];exact o2.m7
  have s7:aT 1 (.ptr (A.length+1) 2) s' (fun z=>(A++ [gF S4 R6]++g2)[z]?)=some (aA,.set (A.length+1) (.cells [.int .i64 0,.str kd,s',sv,.str []] true false)):=by
   rw[aN m7'];exact bW hone Si
  have o3:=o2.Nz hF hlo hle hkp;refine Rs (nv @u2 @u4 @u5 @u6 @u7 @u8 @u34 @u35 @s7 (wrapN (show k+1 < 2^63 by omega))) ?_;exact⟨nN - (k+1),Om,k+1,S4,s',R6,_,ns'++ [y],_,Om,rfl,nO,o3,by simp[RL],bS,rfl⟩
 ·have e3:decide ((k:Int)< nN)=false:=X3 Om;have ek:k=nN:=Om
  subst ek;rw[Zb,c8,Yu]at SE;rw[SE]at hw;refine Rs (A9 @u2 @u4 @u5 @u6 @u7 @u8 @u34 @u35 e3) ?_;rw[RT];exact Nr T Z hA hkb hvN o (Sq @u2) (Sq @u2) (Sq @u4) (Sq @u6) (Sq @u7) (Sq @u8) hw
def r111(Z:qj P){s ws}(hs:aK h s 1 (ws.map ao))(hwl:∀x∈ws,x.length≤2^40):ay P 111 [s] h (fun v k=>∃x:EV,x.ev= (ep ws).1∧v= .dL [.agg x.row,.bool (ep ws).2]∧Fr h.length k x.sn 1 (x.ev.names.map ao)∧Fr h.length k x.sv 1 (x.ev.b9.map aJ)):=by
 refine .of T.mix (aaE T.c111 (YC some Nv)) ?_;obtain⟨ts,QV⟩:∃ts,ts=aU 73 [s]:=⟨_,rfl⟩;have hlen:ts.length=73:=by rw[QV];rfl
 have t0:slot ts 0=s:=by rw[QV];rfl
 obtain⟨RR,RT⟩:∃RR,RR=wF 6:=⟨_,rfl⟩;show WC P bR _ [] (aU 73 [s]) h (FQ _ (Mn h ws));rw[←QV,←RT];clear QV;have hso:=hs.one;unfold BP wF fn111;simp only[ai.j,ai.s,ai.r,ai.dr,ai.tl,ai.hd];refine Rs (A2 t0 @hso) ?_;obtain⟨A,hA⟩:∃A,A=h++ [ak.cells gp true false]:=⟨_,rfl⟩;have hAl:A.length=h.length+1:=by rw[hA];simp
 have gw:=HW T (A:=A) (B:=[]) (wr:=false) (hs.ext (k:=A) ⟨_,hA⟩);rw[Yu,hA]at gw;refine WF.gen T.c207 gw ?_;rintro _ _ ⟨S4,rfl,rfl,Rt⟩;rw[Yu];rw[←hA]at Rt;have hwl2:∀x∈(bO ws false).2.1,x.length≤2^40:=fun x hx=>hwl x (qC x hx)
 have Se:ep ws=match gJ (bO ws false).1 with
  | none=>(lD,false)
  | some d=>(⟨0,bu d,(c8 (bL d).length (bO ws false).2.1 (bO ws false).2.2).1,(fu (cB d) (c8 (bL d).length (bO ws false).2.1 (bO ws false).2.2).2.1 (c8 (bL d).length (bO ws false).2.1 (bO ws false).2.2).2.2).1,[]⟩,!(fu (cB d) (c8 (bL d).length (bO ws false).2.1 (bO ws false).2.2).2.1 (c8 (bL d).length (bO ws false).2.1 (bO ws false).2.2).2.2).2.2 && decide ((fu (cB d) (c8 (bL d).length (bO ws false).2.1 (bO ws false).2.2).2.1 (c8 (bL d).length (bO ws false).2.1 (bO ws false).2.2).2.2).2.1.length=0)):=by
  unfold ep;cases gJ (bO ws false).1<;>rfl
 generalize (bO ws false).1=kd at *;generalize (bO ws false).2.1=ws2 at *;generalize (bO ws false).2.2=R6 at *;refine Rs t0 ?_;refine WF.res T.c90 (r90 T) ?_;rintro _ g2 ⟨vf,rfl,hk⟩;have lk:∀{z:AV},gW .s z true (.map (h++ [ak.cells gp true false]++ [gF S4 R6]++ [Ct kd .af .af]).length) (.str kd) (fun b=>(h++ [ak.cells gp true false]++ [gF S4 R6]++ [Ct kd .af .af]++g2)[b]?)=lF z true ((gJ kd).map vf):=hk.look;unfold Ct at lk;cases hd:gJ kd with
 | none=>
  rw[hd]at lk Se;have Rw:∀{z:AV},_=some (AV.dL [z,.bool false],iA.au):=@lk;have z2:∀{k:ah},Ext (h++ [ak.cells gp true false]) k→k[h.length]? =some (.cells gp true false):=fun e=>e.some (by rw[Ye (Yg _)];simp)
  have s2:∀{k:ah},Ext (h++ [ak.cells gp true false]) k→aT 5 (.ptr h.length 0) (.agg [.int .i64 0,.str [],.af,.af,.str []]) (fun z=>k[z]?)=some (aA,.set h.length (.cells gp true false)):=fun e=>by rw[aN (z2 e)];rfl
  have l2:∀{k:ah},Ext (h++ [ak.cells gp true false]) k→aq (some 5) (.ptr h.length 0) (fun z=>k[z]?)=some (.agg gp,.au):=fun e=>by rw[az (z2 e)];rfl
  have sq:∀{k:ah},Ext (h++ [ak.cells gp true false]) k→k.set h.length (.cells gp true false)=k:=fun {k} e=>by
   have:=z2 e;exact J3
  refine Rs (A8 t0 @bT @Rw @iw @Yz @s2 @sq @l2) ?_;exact⟨Xx,⟨lD,.af,.af⟩,by rw[Se],by rw[Se];rfl,.nil,.nil⟩
 | some d=>
  rw[hd]at lk Se;have Rw:∀{z:AV},_=some (AV.dL [vf d,.bool true],iA.au):=@lk;obtain⟨rs,a,hv,hr,ha,hab⟩:=(hk.k d).ex;rw[hv]at Rw;have hlr:=hr.aL;have c1:=lX d;have c2:=lI d;have c3:=hr.one;have h3: (bL d).length≤3∧cB d≤3:=by cases d<;>decide
  refine Rs (A8 t0 @bT @Rw @Yw @c1 @c2 @c3 @ha) ?_;rw[RT];obtain⟨kb,hkb⟩:∃kb,kb=ak.cells [rs,.int .i64 (cB d:Nat),jS d,pn d,a] true false:=⟨_,rfl⟩;obtain⟨b8,hb8⟩:∃b8,b8= (h++ [ak.cells gp true false]++ [gF S4 R6]++ [ak.cells [.int .i64 0,.str kd,.af,.af,.str []] true false]++g2).length:=⟨_,rfl⟩;rw[←hkb,←hb8];have eh:h++ [ak.cells gp true false]++ [gF S4 R6]++ [ak.cells [.int .i64 0,.str kd,.af,.af,.str []] true false]++g2++ [kb]=A++ [gF S4 R6]++ ([Ct kd .af .af]++g2++ [kb]):=by rw[hA];unfold Ct;simp
  rw[eh];have o:uJ A kd b8 kb S4 R6 ws2 .af .af [] [] ([Ct kd .af .af]++g2++ [kb]):=by
   refine⟨?_,?_,?_,Rt,hwl2,.nil,.nil,fun i hi=>(by cases hi),fun i hi=>(by cases hi),fun i hi=>(by cases hi)⟩
   ·rw[Ye Si];simp
   ·rw[←eh,hb8,Ye (Yg _),Zb];rfl
   ·rw[hb8,hAl];simp only[X2,Yv];omega
  refine Ns T Z (nN:=(bL d).length) (vN:=cB d) hA hkb Om hlr Om o (Sq t0) (Sq t0) ?_ ?_ ?_ ?_ (Sq t0) ?_
  all_goals first| (rw[Se,cg hd];done)| skip
  ·refine Zs t0 ?_;rw[hA];rfl
  ·refine Zs t0 ?_;rw[hA];rfl
  ·refine Zs t0 ?_;rw[hA];rfl
  ·refine Zs t0 ?_;rw[hA];simp
end
def sO{c s n}(hs:s.length≤n):∀x∈bK c s,x.length≤n:=fun x hx=>YQ (sQ x hx) hs
theorem rG{c}:∀{s},(fe c s).1.length≤s.length∧(fe c s).2.1.length≤s.length
 | []=>⟨Yg _,Yg _⟩
 | x::r=>by
  have ih:=rG (c:=c) (s:=r);rw[fe];split
  ·simp
  ·simp only[X8];omega
def FP{h G:ah}{X Y:ak}{j:Nat}(hj:j≠h.length): (h++ ([X]++G))[j]? = (h++ ([Y]++G))[j]? :=by
 rw[←X4,←X4];exact qv hj
section
variable {P:Program} (T:fy P) {h:ah}
include T
def r99(X:C1 P)(Z:qj P)(w:Pw h)(s:By)(hsl:s.length≤2^38)(n:Int):ay P 99 [.str s,.i n] h (fun v k=>∃x:EV,x.ev= (fK s n).1∧v= .dL [.agg x.row,.i (fK s n).2]∧Fr h.length k x.sn 1 (x.ev.names.map ao)∧Fr h.length k x.sv 1 (x.ev.b9.map aJ)):=by
 refine .eD 83 T.mix T.c99 ?_;intro ts hlen t0 t1;unfold fn99;have w1:IntKind.i64.wrap ((s.length:Int) - 7)= (s.length:Int) - 7:=bo Om Om;have w2:IntKind.i64.wrap ((s.length:Int) - 7 - 1)= (s.length:Int) - 8:=by rw[bo Om Om];omega
 have s2:=@Ky h;have l2:=@KA h;have sq:=@Kz h;have bad:∀{c:Int} {k:ah},fK s n= (lD,c)→Ext h k→(Ext h k∧∃x:EV,x.ev= (fK s n).1∧AV.dL [.agg [.i 0,.str [],.af,.af,.str []],.i c]= .dL [.agg x.row,.i (fK s n).2]∧Fr h.length k x.sn 1 (x.ev.names.map ao)∧Fr h.length k x.sv 1 (x.ev.b9.map aJ)):=
  fun he e=>⟨e,⟨lD,.af,.af⟩,by rw[he],by rw[he];rfl,.nil,.nil⟩
 by_cases h8:s.length < 8
 ·have d1:decide ((s.length:Int) - 8 < 0)=true:=X7 Om;refine Rs (A8 t0 t1 @w1 @w2 @d1 @s2 @l2 @sq) ?_;exact(bad (by rw[fK,Yh h8]) Xx).2
 have d1:decide ((s.length:Int) - 8 < 0)=false:=X3 Om;have ea: (s.length:Int) - 8= ((s.length - 8:Nat):Int):=Om
 rw[ea]at w2 d1;have hlt:s.length - 8 < s.length:=Om
 have w3:IntKind.i64.wrap (((s.length - 8:Nat):Int)+1)= ((s.length - 7:Nat):Int):=by rw[bo Om Om];omega
 have gd:s.getD (s.length - 8) 0=s[s.length - 8]:=by rw[YJ,X6 hlt];rfl
 by_cases hh:s[s.length - 8]=35
 case neg=>
  have d2:decide ((s[s.length - 8].toNat:Int)≠35)=true:=X7 fun e=>hh (UInt8.toNat_inj.1 (by simpa using (by omega:s[s.length - 8].toNat=35)))
  repeat (first| simp (config:={ maxSteps:=1000000 }) only[aW,bd,bC,bD,reduceAdd,reduceMul,reduceLeDiff,reduceEqDiff,bE,hlen,Yo,Ys,t0,t1,w1,w2,d1,jC hlt,d2,s2,l2,sq]| simp (config:={ maxSteps:=1000000 }) (disch:=first| (simp only[X2,X8,X9]<;>omega)| rfl| omega| fail) only[fU,aW,bd,bC,bD,reduceAdd,reduceMul,reduceLeDiff,reduceEqDiff,bE,hlen,Yo,Ys,t0,t1,w1,w2,d1,jC hlt,d2,s2,l2,sq])
  exact(bad (by rw[fK,Yd h8,Yh (.inl (by rw[gd];exact hh))]) Xx).2
 have d2:decide ((s[s.length - 8].toNat:Int)≠35)=false:=X3 (by rw[hh];decide)
 repeat (first| simp (config:={ maxSteps:=1000000 }) only[aW,bd,bC,bD,reduceAdd,reduceMul,reduceLeDiff,reduceEqDiff,bE,hlen,Yo,Ys,t0,t1,w1,w2,d1,jC hlt,d2,w3,j8 (show s.length - 7≤s.length by omega)]| simp (config:={ maxSteps:=1000000 }) (disch:=first| (simp only[X2,X8,X9]<;>omega)| rfl| omega| fail) only[fU,aW,bd,bC,bD,reduceAdd,reduceMul,reduceLeDiff,reduceEqDiff,bE,hlen,Yo,Ys,t0,t1,w1,w2,d1,jC hlt,d2,w3,j8 (show s.length - 7≤s.length by omega)])
 refine WF.ce T.c189 (r189 T _ (by rw[aak];omega)) fun g1=>?_
 cases hd:rF (s.drop (s.length - 7))with
 | false=>
  refine Rs (A7 t0 t1 @hd @Yz @s2 @l2 @sq) ?_;exact(bad (by rw[fK,Yd h8,Yh (.inr (by rw[hd];simp))]) Xx).2
 | true=>
 repeat (first| simp (config:={ maxSteps:=1000000 }) only[aW,bd,bC,bD,reduceAdd,reduceMul,reduceLeDiff,reduceEqDiff,bE,hlen,Yo,Ys,t0,t1,hd,Yw,qQ (show s.length - 8≤s.length by omega)]| simp (config:={ maxSteps:=1000000 }) (disch:=first| (simp only[X2,X8,X9]<;>omega)| rfl| omega| fail) only[fU,aW,bd,bC,bD,reduceAdd,reduceMul,reduceLeDiff,reduceEqDiff,bE,hlen,Yo,Ys,t0,t1,hd,Yw,qQ (show s.length - 8≤s.length by omega)])
 have T9:∀{α:Type} {a b:α},(if s.getD (s.length - 8) 0≠35∨¬rF (s.drop (s.length - 7))=true then a else b)=b:=fun {_ _ _}=>Yd (by rw[gd,hd];simp[hh])
 refine WF.ce T.c187 (r187 T Z _ (by rw[Y5];omega) (w.ext Xx)) fun g2=>?_
 by_cases hc:nC (s.take (s.length - 8))=s.drop (s.length - 7)
 case neg=>
  have d3:decide (nC (s.take (s.length - 8))≠s.drop (s.length - 7))=true:=X7 hc
  repeat (first| simp (config:={ maxSteps:=1000000 }) only[aW,bd,bC,bD,reduceAdd,reduceMul,reduceLeDiff,reduceEqDiff,bE,hlen,Yo,Ys,t0,t1,w3,j8 (show s.length - 7≤s.length by omega),d3,s2,l2,sq]| simp (config:={ maxSteps:=1000000 }) (disch:=first| (simp only[X2,X8,X9]<;>omega)| rfl| omega| fail) only[fU,aW,bd,bC,bD,reduceAdd,reduceMul,reduceLeDiff,reduceEqDiff,bE,hlen,Yo,Ys,t0,t1,w3,j8 (show s.length - 7≤s.length by omega),d3,s2,l2,sq])
  exact(bad (by rw[fK,Yd h8,T9,Yh hc]) Xx).2
 have d3:decide (nC (s.take (s.length - 8))≠s.drop (s.length - 7))=false:=X3 (fun z=>z hc);have hes:fK s n=if !iF (fe 32 (s.take (s.length - 8))).1|| !(ep (bK 32 (fe 32 (s.take (s.length - 8))).2.1)).2|| decide (gL { (ep (bK 32 (fe 32 (s.take (s.length - 8))).2.1)).1 with num:=kS (fe 32 (s.take (s.length - 8))).1 }≠0)then(lD,25)else({ (ep (bK 32 (fe 32 (s.take (s.length - 8))).2.1)).1 with num:=kS (fe 32 (s.take (s.length - 8))).1 },bV (decide (kS (fe 32 (s.take (s.length - 8))).1≠n)) 11):=(Yd h8).trans (T9.trans (Yd (fun z=>z hc)))
 have htl: (s.take (s.length - 8)).length≤2^38:=by rw[Y5];omega
 have hcl:=rG (c:=32) (s:=s.take (s.length - 8))
 repeat (first| simp (config:={ maxSteps:=1000000 }) only[aW,bd,bC,bD,reduceAdd,reduceMul,reduceLeDiff,reduceEqDiff,bE,hlen,Yo,Ys,t0,t1,w3,j8 (show s.length - 7≤s.length by omega),d3,qQ (show s.length - 8≤s.length by omega)]| simp (config:={ maxSteps:=1000000 }) (disch:=first| (simp only[X2,X8,X9]<;>omega)| rfl| omega| fail) only[fU,aW,bd,bC,bD,reduceAdd,reduceMul,reduceLeDiff,reduceEqDiff,bE,hlen,Yo,Ys,t0,t1,w3,j8 (show s.length - 7≤s.length by omega),d3,qQ (show s.length - 8≤s.length by omega)])
 refine WF.ce T.c98 (r98 T X _ 32 Om) fun g3=>?_
 generalize hq1: (fe 32 (s.take (s.length - 8))).1=a1 at hes hcl ⊢;generalize hq2: (fe 32 (s.take (s.length - 8))).2.1=a2 at hes hcl ⊢;refine Rs (A2 t0 t1) ?_;refine WF.ce T.c190 (r190 T Z a1 Om) fun g4=>?_
 refine Rs (A2 t0 t1) ?_;refine WF.res T.c64 (r64 T X a2 32 Om) ?_;intro v g5 hv;refine Rs (A2 t0 t1) ?_;have Sd:=vk (bK 32 a2);refine WF.res T.c111 (r111 T Z hv (sO Om)) ?_;rintro _ g6 ⟨x,hx,rfl,fn,fv⟩;have ox:bg _ x:=⟨fn.aX,fv.aX⟩;rw[←hx]at hes Sd;generalize (ep (bK 32 a2)).2=fm at hes ⊢;obtain⟨x',Q2⟩:∃x':EV,x' = ⟨{ x.ev with num:=kS a1 },x.sn,x.sv⟩:=⟨_,rfl⟩;have RH:x'.sn=x.sn:=by rw[Q2]
 have hsv:x'.sv=x.sv:=by rw[Q2]
 have UH:x'.ev.names=x.ev.names:=by rw[Q2]
 have RL:x'.ev.b9=x.ev.b9:=by rw[Q2]
 have hrow:x'.row=x.row.set 0 (.i (kS a1)):=by rw[Q2];rfl
 have hev: ({ x.ev with num:=kS a1 }:ed)=x'.ev:=by rw[Q2]
 rw[hev]at hes;have R8:fK s n=if !iF a1|| !fm|| decide (gL x'.ev≠0)then(lD,25)else(x'.ev,bV (decide (kS a1≠n)) 11):=hes
 rw[←RH,←UH]at fn;rw[←hsv,←RL]at fv;have Wa:bg _ x':=⟨fn.aX,fv.aX⟩;have st:∀{b':Nat} {a0 a1 a2 a3 a4:AV},kV 5 0 (.agg x.row) b' (.b [a0,a1,a2,a3,a4])=some (aA,.set b' (.b x.row)):=fun {_ _ _ _ _ _}=>ox.st
 have kM:∀{b':Nat},kV 1 0 (.i (kS a1)) b' (.b x.row)=some (aA,.set b' (.b x'.row)):=fun {b'}=>by
  rw[hrow];exact bW rfl (by show 0+1≤5;omega)
 cases hdg:iF a1 with
 | false=>
  rw[hdg]at R8;refine Rs (A9 t0 t1 @st @kM @cj @Yz @s2 @l2 @sq) ?_;exact z196
 | true=>
 cases fm with
 | false=>
  rw[hdg]at R8;refine Rs (nv t0 t1 @st @kM @cj @Yz @Yw @s2 @l2 @sq) ?_;exact z196
 | true=>
 rw[hdg]at R8;refine Rs (A7 t0 t1 @st @kM @cj @Yz @Yw) ?_;refine WF.ce T.c67 (r67 T (Wa.ext Xx) ⟨by rw[UH];omega,by rw[RL];omega⟩) fun g7=>?_
 by_cases Sg:gL x'.ev=0
 case neg=>
  have d4:decide (gL x'.ev≠0)=true:=X7 Sg;rw[d4]at R8;refine Rs (A6 t0 t1 @d4 @s2 @l2 @sq) ?_;exact z196
 have d4:decide (gL x'.ev≠0)=false:=X3 (fun z=>z Sg);rw[d4]at R8;have key:∀{k:ah} {W:ah},bg W x'→Ext (h++ [ak.b [.i 0,.str [],.af,.af,.str []]]) W→Ext W k→aT 5 (.ptr h.length 0) (.agg x'.row) (fun z=>k[z]?)=some (aA,.set h.length (.b x'.row)):=fun o e1 e2=>Kx (o.ext e2) (e1.trans e2)
 have sx:=fun {k:ah}=>@key k _ Wa Xx
 have ly:=@Kw h;refine Rs (A4 t0 t1 @d4 @cj) ?_;refine WF.ce T.c85 (r85 T _ _) fun g8=>?_
 have fn3:=((fn.app [ak.b x'.row]).app g7).app g8;have fv3:=((fv.app [ak.b x'.row]).app g7).app g8;refine Rs (A4 t0 t1 @sx @ly) ?_;refine⟨Xx,x',by rw[R8];rfl,by rw[R8];rfl,(fn3.aB fun j hj=>?_).low ?_,(fv3.aB fun j hj=>?_).low ?_⟩
 ·simp only[X4];refine FP fun e=>?_
  have:=(fn3.bM hj).1;simp only[X2,Yv]at this;omega
 ·exact z201
 ·simp only[X4];refine FP fun e=>?_
  have:=(fv3.bM hj).1;simp only[X2,Yv]at this;omega
 ·exact z201
end
end Go.Abs
