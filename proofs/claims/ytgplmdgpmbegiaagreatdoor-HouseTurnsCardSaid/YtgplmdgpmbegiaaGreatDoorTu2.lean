/- A part of the proof that HouseTurns holds. No condition. -/
import Derived.Shelf.Strings.Builder1
import Derived.Shelf.Strings.Builder2
import Derived.Shelf.Strings.OnBuilder
import Derived.Test.YtgplmdgpmbegiaaGreatDoorProg
import Derived.Shelf.Strings.Repeat
import Derived.Tactics
import Derived.OrdersIn
import Derived.RangeFuncLeaves
import Derived.RangeFuncIn
import Derived.RangeFuncOwn
import Derived.Laws.Sem
import Derived.Laws.World
import Derived.Laws.Cells
import Derived.Laws.Entries
import Derived.Below
import Derived.MapKept
import Derived.Laws.Tables
import Derived.Laws.StructEq
import Derived.Test.YtgplmdgpmbegiaaGreatDoorTu0
set_option linter.all false
namespace Go.Proofs
open Go.Shelf
def Tryz.qy:Go.Shelf.Ren:=⟨λ| 156=>114| 165=>210| 166=>211| 169=>212| 240=>257| 241=>258| 276=>282| 277=>283|n=>n,λ| 31=>28| 9=>9| 3=>3| 4=>4| 0=>0| 20=>20| 72=>271| 76=>275| 70=>269| 37=>119| 75=>274| 127=>308| 164=>332| 5=>5| 80=>97|n=>n,λn=>n⟩
def Tryz.zw:Go.Proofs.Lays.n156 Tryz.prog Tryz.qy:={
 mixed:=by kernel_rfl
 f156:=Tryz.func114.trans (congrArg some (by kernel_rfl))
 f165:=Tryz.func210.trans (congrArg some (by kernel_rfl))
 f166:=Tryz.func211.trans (congrArg some (by kernel_rfl))
 f169:=Tryz.func212.trans (congrArg some (by kernel_rfl))
 f240:=Tryz.func257.trans (congrArg some (by kernel_rfl))
 f241:=Tryz.func258.trans (congrArg some (by kernel_rfl))
 f276:=Tryz.func282.trans (congrArg some (by kernel_rfl))
 f277:=Tryz.func283.trans (congrArg some (by kernel_rfl))
 t0:=Tryz.underlying0
 a0:=Tryz.isAgg0
 z0:=Tryz.sizeOf0
 v0:=Tryz.zeroValue0
 t3:=Tryz.underlying3
 a3:=Tryz.isAgg3
 z3:=Tryz.sizeOf3
 v3:=Tryz.zeroValue3
 t4:=Tryz.underlying4
 a4:=Tryz.isAgg4
 z4:=Tryz.sizeOf4
 v4:=Tryz.zeroValue4
 t9:=Tryz.underlying9
 a9:=Tryz.isAgg9
 z9:=Tryz.sizeOf9
 v9:=Tryz.zeroValue9
 t20:=Tryz.underlying20
 a20:=Tryz.isAgg20
 z20:=Tryz.sizeOf20
 v20:=Tryz.zeroValue20
 t31:=Tryz.underlying28
 a31:=Tryz.isAgg28
 z31:=Tryz.sizeOf28
 v31:=Tryz.zeroValue28
 t37:=Tryz.underlying119
 a37:=Tryz.isAgg119
 z37:=Tryz.sizeOf119
 v37:=Tryz.zeroValue119
 t70:=Tryz.underlying269
 a70:=Tryz.isAgg269
 z70:=Tryz.sizeOf269
 v70:=Tryz.zeroValue269
 t72:=Tryz.underlying271
 a72:=Tryz.isAgg271
 z72:=Tryz.sizeOf271
 v72:=Tryz.zeroValue271
 t75:=Tryz.underlying274
 a75:=Tryz.isAgg274
 z75:=Tryz.sizeOf274
 v75:=Tryz.zeroValue274
 t76:=Tryz.underlying275
 a76:=Tryz.isAgg275
 z76:=Tryz.sizeOf275
 v76:=Tryz.zeroValue275
 t127:=Tryz.underlying308
 a127:=Tryz.isAgg308
 z127:=Tryz.sizeOf308
 v127:=Tryz.zeroValue308
 t164:=Tryz.underlying332
 a164:=Tryz.isAgg332
 z164:=Tryz.sizeOf332
 v164:=Tryz.zeroValue332}
def Tryz.j9:Builder.Extra Tryz.prog Tryz.qy:={
 sizeBuilder:=by kernel_rfl
 liesBuilder:=by kernel_rfl
 t5:=Tryz.underlying5
 a5:=Tryz.isAgg5
 z5:=Tryz.sizeOf5
 v5:=Tryz.zeroValue5
 infoByte:=by kernel_rfl
 cellsByte:=by kernel_rfl
 sizeByte:=by kernel_rfl
 neB5:=by decide}
open Go.RowKit in
theorem Tryz.strings_Join_none(a:Option Addr)(c:Nat)(sep:ByteArray)(w:World):
  Calls Tryz.prog 114 #[.slice a 0 c,.string sep] w λe w'=>e=.returned (.string ⟨#[]⟩)/\w' =w:=Any.strings_Join_none Tryz.zw Tryz.j9 a c sep w
open Go.RowKit in
theorem Tryz.strings_Join(bk o c:Nat)(xs:List ByteArray)(sep:ByteArray)(w:World)(hcells:∀(j:Nat) x,xs[j]? =some x->w.cell? ⟨bk,o+j,none⟩=some (.string x))(hbk:bk<w.heap.size)(hN:xs.length<=140737488355328)(hcap:xs.length<=c)(hlen:(Lib.join (xs.map (·.data.toList)) sep.data.toList).length<=140737488355328):
  Calls Tryz.prog 114 #[.slice (some ⟨bk,o,none⟩) xs.length c,.string sep] w λe w'=>e=.returned (.string ⟨(Lib.join (xs.map (·.data.toList)) sep.data.toList).toArray⟩)/\Below w.heap.size w w':=Any.strings_Join Tryz.zw Tryz.j9 bk o c xs sep w hcells hbk hN hcap hlen
end Go.Proofs
namespace Go.Proofs
open Go.Shelf
def Tryz.qz:Go.Shelf.Ren:=⟨λ| 105=>252| 212=>267| 99=>270| 165=>210| 166=>211| 170=>271| 169=>212| 263=>285| 264=>286| 206=>287| 240=>257| 241=>258| 276=>282| 277=>283|n=>n,λ| 9=>9| 3=>3| 4=>4| 20=>20| 0=>0| 46=>319| 109=>320| 5=>5| 72=>271| 76=>275| 51=>335| 146=>336| 53=>327| 148=>338| 70=>269| 37=>119| 75=>274| 127=>308| 164=>332| 80=>97|n=>n,λn=>n⟩
def Tryz.E1:Go.Proofs.Lays.n105 Tryz.prog Tryz.qz:={
 mixed:=by kernel_rfl
 f99:=Tryz.func270.trans (congrArg some (by kernel_rfl))
 f105:=Tryz.func252.trans (congrArg some (by kernel_rfl))
 f165:=Tryz.func210.trans (congrArg some (by kernel_rfl))
 f166:=Tryz.func211.trans (congrArg some (by kernel_rfl))
 f169:=Tryz.func212.trans (congrArg some (by kernel_rfl))
 f170:=Tryz.func271.trans (congrArg some (by kernel_rfl))
 f206:=Tryz.func287.trans (congrArg some (by kernel_rfl))
 f212:=Tryz.func267.trans (congrArg some (by kernel_rfl))
 f240:=Tryz.func257.trans (congrArg some (by kernel_rfl))
 f241:=Tryz.func258.trans (congrArg some (by kernel_rfl))
 f263:=Tryz.func285.trans (congrArg some (by kernel_rfl))
 f264:=Tryz.func286.trans (congrArg some (by kernel_rfl))
 f276:=Tryz.func282.trans (congrArg some (by kernel_rfl))
 f277:=Tryz.func283.trans (congrArg some (by kernel_rfl))
 t0:=Tryz.underlying0
 a0:=Tryz.isAgg0
 z0:=Tryz.sizeOf0
 v0:=Tryz.zeroValue0
 t3:=Tryz.underlying3
 a3:=Tryz.isAgg3
 z3:=Tryz.sizeOf3
 v3:=Tryz.zeroValue3
 t4:=Tryz.underlying4
 a4:=Tryz.isAgg4
 z4:=Tryz.sizeOf4
 v4:=Tryz.zeroValue4
 t5:=Tryz.underlying5
 a5:=Tryz.isAgg5
 z5:=Tryz.sizeOf5
 v5:=Tryz.zeroValue5
 t9:=Tryz.underlying9
 a9:=Tryz.isAgg9
 z9:=Tryz.sizeOf9
 v9:=Tryz.zeroValue9
 t20:=Tryz.underlying20
 a20:=Tryz.isAgg20
 z20:=Tryz.sizeOf20
 v20:=Tryz.zeroValue20
 t37:=Tryz.underlying119
 a37:=Tryz.isAgg119
 z37:=Tryz.sizeOf119
 v37:=Tryz.zeroValue119
 t46:=Tryz.underlying319
 a46:=Tryz.isAgg319
 z46:=Tryz.sizeOf319
 v46:=Tryz.zeroValue319
 t51:=Tryz.underlying335
 a51:=Tryz.isAgg335
 z51:=Tryz.sizeOf335
 v51:=Tryz.zeroValue335
 t53:=Tryz.underlying327
 a53:=Tryz.isAgg327
 z53:=Tryz.sizeOf327
 v53:=Tryz.zeroValue327
 t70:=Tryz.underlying269
 a70:=Tryz.isAgg269
 z70:=Tryz.sizeOf269
 v70:=Tryz.zeroValue269
 t72:=Tryz.underlying271
 a72:=Tryz.isAgg271
 z72:=Tryz.sizeOf271
 v72:=Tryz.zeroValue271
 t75:=Tryz.underlying274
 a75:=Tryz.isAgg274
 z75:=Tryz.sizeOf274
 v75:=Tryz.zeroValue274
 t76:=Tryz.underlying275
 a76:=Tryz.isAgg275
 z76:=Tryz.sizeOf275
 v76:=Tryz.zeroValue275
 t109:=Tryz.underlying320
 a109:=Tryz.isAgg320
 z109:=Tryz.sizeOf320
 v109:=Tryz.zeroValue320
 t127:=Tryz.underlying308
 a127:=Tryz.isAgg308
 z127:=Tryz.sizeOf308
 v127:=Tryz.zeroValue308
 t146:=Tryz.underlying336
 a146:=Tryz.isAgg336
 z146:=Tryz.sizeOf336
 v146:=Tryz.zeroValue336
 t148:=Tryz.underlying338
 a148:=Tryz.isAgg338
 z148:=Tryz.sizeOf338
 v148:=Tryz.zeroValue338
 t164:=Tryz.underlying332
 a164:=Tryz.isAgg332
 z164:=Tryz.sizeOf332
 v164:=Tryz.zeroValue332}
def Tryz.pJ:Builder.Extra Tryz.prog Tryz.qz:={
 sizeBuilder:=by kernel_rfl
 liesBuilder:=by kernel_rfl
 t5:=Tryz.underlying5
 a5:=Tryz.isAgg5
 z5:=Tryz.sizeOf5
 v5:=Tryz.zeroValue5
 infoByte:=by kernel_rfl
 cellsByte:=by kernel_rfl
 sizeByte:=by kernel_rfl
 neB5:=by decide}
end Go.Proofs
namespace Go.Abs
inductive AV where
 |bool (b:Bool)
 |int (k:IntKind) (n:Int)
 |xS (k:FloatKind) (b:Nat)
 |xE (k:FloatKind) (re im:Nat)
 |str (s:By)
 |ptr (b o:Nat)
 |nilPtr
 |slice (b o n e:Nat)
 |af
 |map (r:Nat)
 |dz
 |func (f:Fn) (a c:List AV)
 |nilFunc
 |agg (l:List AV)
 |dW (l:List AV)
 |vk (u:TypeId) (v:AV)
 |kS
 deriving Inhabited
def az:AV:=.dW []
def AV.cells:AV->List AV
 |.agg l=>l
 |v=>[v]
def AV.one:AV->Bool
 |.agg _=>false
 |.dW _=>false
 |.kS=>false
 |_=>true
inductive c7 where
 |t (i:Nat)
 |c (v:AV)
 |g (i:Nat)
 |f (i:Nat)
 deriving Inhabited
inductive CK where
 |b
 |i
 |s
 deriving DecidableEq,Inhabited
inductive Q5 where
 |one (k:CK)
 |agg (ks:List CK)
 |ES
 |ET
 |qO
 |Mc
 deriving Inhabited
inductive Aa where
 |ME (k:IntKind)
 |OM
 |NO
 |same
 |PU (k:FloatKind)
 |P9 (k:IntKind)
 |Qa (k:FloatKind)
 |vk (u:TypeId)
 deriving Inhabited
inductive LK where
 |sl
 |st
 |mp
 deriving DecidableEq,Inhabited
inductive pI where
 |bV (x:c7)
 |pick (c a b:c7)
 |box (x:c7)
 |mq (n:Nat) (x:c7)
 |build (z:List AV) (ps:List (Nat×Nat×c7))
 |bo (es:Nat) (n:Nat) (z:List AV) (ps:List (Nat×c7))
 |load (n:Option Nat) (a:c7)
 |store (n:Nat) (a x:c7)
 |bS (x:c7)
 |bin (op:BinOp) (x y:c7)
 |eqv (neg:Bool) (t:Q5) (x y:c7)
 |un (op:UnOp) (x:c7)
 |conv (k:Aa) (x:c7)
 |uH (f:Fn) (a c:List c7)
 |oP
 |wo (es w:Nat) (z:List AV) (l c:c7)
 |sl (es:Nat) (x:c7) (lo hi:Option c7)
 |JW (x:c7) (lo hi:Option c7)
 |NK (n es:Nat) (x:c7) (lo hi:Option c7)
 |aP (off:Nat) (x:c7)
 |bp (es:Nat) (x i:c7)
 |te (len es:Nat) (x i:c7)
 |part (n:Option Nat) (off:Nat) (x:c7)
 |JY (len es:Nat) (n:Option Nat) (x i:c7)
 |D2 (x i:c7)
 |look (kk:CK) (z:AV) (ok:Bool) (m k:c7)
 |gh (kk:CK) (m k x:c7)
 |Cr (x:c7)
 |rR (x:c7)
 |ext (x:c7) (i:Nat)
 |call (f:c7) (args:List c7)
 |len (lk:LK) (x:c7)
 |AF (n:Nat)
 |app (es w:Nat) (x y:c7)
 |zK (es:Nat) (x y:c7)
 |mx (x:c7) (l:List c7)
 |mn (x:c7) (l:List c7)
 |bad
 deriving Inhabited
structure bL where
 dst:Option Nat
 k:pI
 gd:Option (Nat×Bool)
 q:Bool
 deriving Inhabited
def vj(d:Option Nat)(k:pI)(n:Nat):Prop:=
 match k,d with
 |.mq _ _,some d=>d<n
 |_,_=>True
inductive ai where
 |skip
 |ops (l:List bL)
 |s9 (l:List bL)
 |mP (l:List bL)
 |seq (a b:ai)
 |cond (c:c7) (a b:ai)
 |block (id:Nat) (a:ai)
 |loop (a:ai)
 |exit (id:Nat)
 |ret
 |gg (g:c7) (ps:List Nat) (asg body:ai)
 |bad
 deriving Inhabited
inductive Ex where
 |normal
 |exit (id:Nat)
 |ret
 deriving DecidableEq,Inhabited
def Ex.Dp:Ex->Exit
 |.normal=>.normal
 |.exit id=>.exit id
 |.ret=>.ret
def Ex.jump:Ex->Option Code
 |.normal=>none
 |.exit id=>some (.exit id)
 |.ret=>some .ret
inductive ak where
 |cells (c:List AV) (mu tl:Bool)
 |dead
 |bA (es:List (AV×AV))
 |iter (s:By) (pos:Nat)
 |loop (st:LoopState) (ex:Ex) (ts:List AV) (ps:List Nat) (asg body:ai)
 deriving Inhabited
abbrev ah:=List ak
abbrev TS:=List AV
structure tq where
 cb:Nat
 d:Nat
 sz:Nat
 own:Bool
abbrev cj:=Nat->Option tq
def cj.le(m m':cj):Prop:=∀b e,m b=some e->m' b=some e
def cj.le_trans{a b c:cj}(h:a.le b)(k:b.le c):a.le c:=λx e hx=>k x e (h x e hx)
def EW(k:FloatKind)(b:Nat):Bool:=(k.format.order b b).isNone
def FR(k:FloatKind)(b b':Nat):Prop:=b' =b\/(EW k b=true/\EW k b' =true)
def Bm(m:cj):Fn->Fn->Prop
 |.yield l,g=>∃e,m l=some e/\g=.yield e.cb
 |f,g=>g=f
mutual
def VR(m:cj):AV->Value->Prop
 |.bool b,v=>v=.bool b
 |.int k n,v=>v=.int k n
 |.xS k b,v=>∃b',v=.float k b'/\FR k b b'
 |.xE k x y,v=>∃x' y',v=.complex k x' y'/\FR k x x'/\FR k y y'
 |.str s,v=>v=.string ⟨⟨s⟩⟩
 |.ptr b o,v=>∃e,m b=some e/\v=.pointer (some ⟨e.cb,o+e.d,none⟩)
 |.nilPtr,v=>v=.pointer none
 |.slice b o n es,v=>∃e ca cap,m b=some e/\v=.slice (some ca) n cap/\n<=cap/\(0<cap->ca=⟨e.cb,o+e.d,none⟩)/\o+e.d+cap*es<=e.sz
 |.af,v=>v=.slice none 0 0
 |.map r,v=>∃e,m r=some e/\v=.map (some e.cb)
 |.dz,v=>v=.map none
 |.func f a c,v=>∃f' a' c',v=.func f' ⟨a'⟩ ⟨c'⟩/\Bm m f f'/\cL m a a'/\cL m c c'
 |.nilFunc,v=>v=.nilFunc
 |.agg l,v=>∃l',v=.agg ⟨l'⟩/\cL m l l'
 |.dW l,v=>∃l',v=.tuple ⟨l'⟩/\cL m l l'
 |.vk u a,v=>∃v',v=.iface u v'/\VR m a v'
 |.kS,v=>v=.nilIface
def cL(m:cj):List AV->List Value->Prop
 |[],vs=>vs=[]
 |x::xs,vs=>∃y ys,vs=y::ys/\VR m x y/\cL m xs ys
end
def Bm.mono{m m'}(h:m.le m'):∀{f g},Bm m f g->Bm m' f g:=by
 intro f g hf;cases f<;>simp only[Bm]at hf ⊢<;>try exact hf
 obtain⟨e,he,hg⟩:=hf;exact⟨e,h _ _ he,hg⟩
mutual
theorem VR.mono{m m'}(h:m.le m'):∀(a:AV) (v:Value),VR m a v->VR m' a v
 |.bool _,v,hv=>hv
 |.int _ _,v,hv=>hv
 |.xS _ _,v,hv=>hv
 |.xE _ _ _,v,hv=>hv
 |.str _,v,hv=>hv
 |.ptr b o,v,hv=>by
  obtain⟨e,he,hv⟩:=(show ∃e,m b=some e/\v=.pointer (some ⟨e.cb,o+e.d,none⟩)from hv);exact⟨e,h _ _ he,hv⟩
 |.nilPtr,v,hv=>hv
 |.slice b o n es,v,hv=>by
  obtain⟨e,ca,cap,he,hr⟩:=(show ∃e ca cap,m b=some e/\v=.slice (some ca) n cap/\n<=cap/\(0<cap->ca=⟨e.cb,o+e.d,none⟩)/\o+e.d+cap*es<=e.sz from hv);exact⟨e,ca,cap,h _ _ he,hr⟩
 |.af,v,hv=>hv
 |.map r,v,hv=>by
  obtain⟨e,he,hv⟩:=(show ∃e,m r=some e/\v=.map (some e.cb)from hv);exact⟨e,h _ _ he,hv⟩
 |.dz,v,hv=>hv
 |.func f a c,v,hv=>by
  obtain⟨f',a',c',hv,hf,ha,hc⟩:=(show ∃f' a' c',v=.func f' ⟨a'⟩ ⟨c'⟩/\Bm m f f'/\cL m a a'/\cL m c c' from hv);exact⟨f',a',c',hv,hf.mono h,cL.mono h a a' ha,cL.mono h c c' hc⟩
 |.nilFunc,v,hv=>hv
 |.agg l,v,hv=>by
  obtain⟨l',hv,hl⟩:=(show ∃l',v=.agg ⟨l'⟩/\cL m l l' from hv);exact⟨l',hv,cL.mono h l l' hl⟩
 |.dW l,v,hv=>by
  obtain⟨l',hv,hl⟩:=(show ∃l',v=.tuple ⟨l'⟩/\cL m l l' from hv);exact⟨l',hv,cL.mono h l l' hl⟩
 |.vk u a,v,hv=>by
  obtain⟨v',hv,ha⟩:=(show ∃v',v=.iface u v'/\VR m a v' from hv);exact⟨v',hv,VR.mono h a v' ha⟩
 |.kS,v,hv=>hv
theorem cL.mono{m m'}(h:m.le m'):∀(l:List AV) (vs:List Value),cL m l vs->cL m' l vs
 |[],_,hv=>hv
 |x::xs,vs,hv=>by
  obtain⟨y,ys,hv,hx,VQ⟩:=(show ∃y ys,vs=y::ys/\VR m x y/\cL m xs ys from hv);exact⟨y,ys,hv,VR.mono h x y hx,cL.mono h xs ys VQ⟩
end
def bG{m vs}:cL m [] vs↔vs=[]:=Iff.rfl
def aV{m x xs vs}:cL m (x::xs) vs↔∃y ys,vs=y::ys/\VR m x y/\cL m xs ys:=Iff.rfl
theorem cL.length{m}:∀{l}{vs},cL m l vs->vs.length=l.length
 |[],_,h=>by rw[bG]at h;simp[h]
 |x::xs,vs,h=>by
  obtain⟨y,ys,rfl,_,VQ⟩:=aV.1 h;simp[cL.length VQ]
theorem cL.get{m:cj}:∀{l:List AV}{vs:List Value},cL m l vs->∀{i:Nat}{x:AV},l[i]? =some x->∃y,vs[i]? =some y/\VR m x y
 |[],_,_,i,x,h=>by simp at h
 |z::zs,vs,h,i,x,hx=>by
  obtain⟨y,ys,rfl,hy,hys⟩:=aV.1 h;cases i with
  |zero=>simp at hx;subst hx;exact⟨y,Si,hy⟩
  |succ i=>simp at hx;simpa using cL.get hys hx
theorem cL.iL{m}:∀{l}{vs},vs.length=l.length->(∀(i:Nat) (x:AV),l[i]? =some x->∃y,vs[i]? =some y/\VR m x y)->cL m l vs
 |[],vs,hl,_=>by rw[bG];exact aa9.1 (by simpa using hl)
 |x::xs,[],hl,_=>by simp at hl
 |x::xs,v::vs,hl,h=>by
  refine aV.2 ⟨v,vs,rfl,?_,cL.iL (by simpa using hl) λi z hz=>?_⟩
  ·obtain⟨y,hy,hr⟩:=h 0 x Si;simp at hy;subst hy;exact hr
  ·obtain⟨y,hy,hr⟩:=h (i+1) z (by simpa using hz);exact⟨y,by simpa using hy,hr⟩
theorem cL.append{m}:∀{a b}{va vb},cL m a va->cL m b vb->cL m (a++b) (va++vb)
 |[],b,va,vb,ha,hb=>by rw[bG]at ha;subst ha;simpa using hb
 |x::xs,b,va,vb,ha,hb=>by
  obtain⟨y,ys,rfl,hy,hys⟩:=aV.1 ha;exact aV.2 ⟨y,ys++vb,Si,hy,cL.append hys hb⟩
theorem cL.set{m:cj}{l:List AV}{vs:List Value}(h:cL m l vs)(i:Nat){x:AV}{v:Value}(hx:VR m x v):cL m (l.set i x) (vs.set i v):=by
 refine cL.iL (by simp[h.length]) λj z hz=>?_
 rw[List.getElem?_set]at hz ⊢;by_cases hij:i=j
 ·simp only[hij,aan]at hz ⊢;split at hz
  ·simp only[aaB]at hz;subst hz;rename_i hlt;exact⟨v,by simp[h.length,hlt],hx⟩
  ·simp at hz
 ·simp only[hij,aal]at hz ⊢;exact h.get hz
theorem cL.take{m}:∀{l}{vs}(n:Nat),cL m l vs->cL m (l.take n) (vs.take n)
 |[],vs,n,h=>by rw[bG]at h;subst h;simp[bG]
 |x::xs,vs,0,h=>by simp[bG]
 |x::xs,vs,n+1,h=>by
  obtain⟨y,ys,rfl,hy,hys⟩:=aV.1 h;exact aV.2 ⟨y,ys.take n,Si,hy,cL.take n hys⟩
theorem cL.drop{m}:∀{l}{vs}(n:Nat),cL m l vs->cL m (l.drop n) (vs.drop n)
 |[],vs,n,h=>by rw[bG]at h;subst h;simp[bG]
 |x::xs,vs,0,h=>by simpa using h
 |x::xs,vs,n+1,h=>by
  obtain⟨y,ys,rfl,hy,hys⟩:=aV.1 h
  simpa using cL.drop n hys
theorem VR.one{m x v}(h:VR m x v)(hx:x.one=true):v.cells=#[v]:=by
 exact RF
def VR.uB{m x v}(h:VR m x v)(hx:x.one=true):v.oneCell' =true:=by
 exact RF
theorem VR.cells{m x v}(h:VR m x v):cL m x.cells v.cells.toList:=by
 by_cases hx:x.one=true
 ·have hc:x.cells=[x]:=by cases x<;>first|rfl|cases hx
  rw[h.one hx,hc];exact aV.2 ⟨v,[],rfl,h,bG.2 rfl⟩
 ·cases x with
  |agg l=>rw[VR]at h;obtain⟨l',rfl,hl⟩:=h;exact hl
  |dW l=>exact aV.2 ⟨v,[],by rw[VR]at h;obtain⟨l',rfl,hl⟩:=h;rfl,h,bG.2 rfl⟩
  |kS=>exact aV.2 ⟨v,[],by rw[VR]at h;subst h;rfl,h,bG.2 rfl⟩
  |_=>exact absurd rfl hx
def val(ts:TS):c7->AV
 |.t i=>ts.getD i az
 |.c v=>v
 |.g i=>.ptr i 0
 |.f i=>.func (.func i) [] []
def put(ts:TS)(d:Option Nat)(v:AV):TS:=
 match d with
 |some d=>ts.set d v
 |none=>ts
def wanted(g:Option (Nat×Bool))(ts:TS):Prop:=
 match g with
 |none=>True
 |some (t,b)=>ts[t]? =some (.bool b)
def eZ(h:ah)(b:Nat):Bool:=
 match h[b]? with
 |some (.cells _ _ tl)=>tl
 |_=>false
def mR:Nat->Value->Option AV
 | 0,_=>none
 |n+1,v=>
  match v with
  |.bool b=>some (.bool b)
  |.int k i=>some (.int k i)
  |.float k b=>some (.xS k b)
  |.complex k x y=>some (.xE k x y)
  |.string s=>some (.str s.data.toList)
  |.pointer none=>some .nilPtr
  |.slice none 0 0=>some .af
  |.map none=>some .dz
  |.nilFunc=>some .nilFunc
  |.agg cs=>(cs.toList.mapM (mR n)).map .agg
  |.tuple cs=>(cs.toList.mapM (mR n)).map .dW
  |_=>none
def cU:Operand->Option c7
 |.tmp t=>some (.t t)
 |.const v=>(mR 4 v).map .c
 |.global g=>some (.g g)
 |.func f=>some (.f f)
def EN:Operand->Option c7
 |.global _=>none
 |x=>cU x
def zo(l:Array Operand):Option (List c7):=l.toList.mapM cU
def vY:Option Operand->Option (Option c7)
 |none=>some none
 |some x=>(cU x).map some
def kf:TypeDesc->Bool
 |.struct _=>true
 |.array _ _=>true
 |_=>false
def Bs(P:Program)(t:TypeId):Option (Option Nat):=
 match P.underlying t with
 |some d=>if kf d then(P.info? t).map λi=>some i.size else some none
 |none=>none
def eC(P:Program)(t:TypeId):Option Nat:=(P.info? t).map (·.size)
def jU(P:Program)(t:TypeId):Option AV:=(P.info? t).bind λi=>i.zero.bind (mR 4)
def w8(P:Program)(F:TypeId->Option (List CK)):List Field->Nat->Option (List CK)
 |[],_=>some []
 |f::fs,off=>
  match F f.type,P.info? f.type with
  |some ks,some i=>
   if f.name≠ "_"/\f.offset=off/\i.size=ks.length/\0<ks.length then
    match w8 P F fs (off+ks.length)with
    |some r=>some (ks++r)
    |none=>none
   else none
  |_,_=>none
def flat(P:Program):Nat->TypeId->Option (List CK)
 | 0,_=>none
 |d+1,t=>
  match P.underlying t with
  |some .bool=>some [.b]
  |some (.int _)=>some [.i]
  |some .string=>some [.s]
  |some (.struct fs)=>if P.stoodInHeld t=false then w8 P (flat P d) fs.toList 0 else none
  |some (.array len e)=>
   match flat P d e,P.info? e with
   |some ks,some i=>if i.size=ks.length/\0<ks.length then some (List.replicate len ks).flatten else none
   |_,_=>none
  |_=>none
def I3(P:Program)(neg:Bool)(t:TypeId)(x y:c7):Option pI:=
 match P.underlying t with
 |some (.int _)=>some (.bin (if neg then .neq else .eql) x y)
 |some .string=>some (.bin (if neg then .neq else .eql) x y)
 |some (.float _)=>some (.bin (if neg then .neq else .eql) x y)
 |some .bool=>some (.eqv neg (.one .b) x y)
 |some (.struct _)=>if P.eqGuardType P.depth t=false then(flat P 20 t).map λks=>.eqv neg (.agg ks) x y else none
 |some (.array _ _)=>if P.eqGuardType P.depth t=false then(flat P 20 t).map λks=>.eqv neg (.agg ks) x y else none
 |some (.slice _)=>some (.eqv neg .ES x y)
 |some (.pointer _)=>some (.eqv neg .ET x y)
 |some (.func _ _ _)=>some (.eqv neg .qO x y)
 |some (.map _ _)=>some (.eqv neg .Mc x y)
 |_=>none
def Fa(P:Program)(e:TypeId):Bool:=
 match P.underlying e with
 |some (.int .u8)=>true
 |_=>false
def Dm(P:Program)(s d:TypeId):Option Aa:=
 match P.underlying s,P.underlying d with
 |some (.int _),some (.int k)=>some (.ME k)
 |some (.int _),some (.float k)=>some (.PU k)
 |some (.float _),some (.int k)=>some (.P9 k)
 |some (.float _),some (.float k)=>some (.Qa k)
 |some .string,some .string=>some .same
 |some .string,some (.slice e)=>if Fa P e=true then some .OM else none
 |some (.slice e),some .string=>if Fa P e=true then some .NO else none
 |_,_=>none
def fieldAt(P:Program)(t:TypeId)(i:Nat):Option Field:=
 match P.underlying t with
 |some (.struct fs)=>fs[i]?
 |_=>none
def jW(P:Program)(t:TypeId)(i:Nat):Option (Nat×Nat):=
 match P.underlying t with
 |some (.struct fs)=>
  match fs.toList.mapM (λf=>(P.info? f.type).map λi=>(f.offset,i.size))with
  |some places=>places[i]?
  |none=>none
 |some (.array _ e)=>(P.info? e).map λie=>(i*ie.size,ie.size)
 |_=>none
def oI(P:Program)(t:TypeId):Bool:=
 match P.underlying t with
 |some (.struct fs)=>(fs.toList.mapM (λf=>(P.info? f.type).map λi=>(f.offset,i.size))).isSome
 |some (.array _ e)=>(P.info? e).isSome
 |_=>false
def mK(P:Program)(t:TypeId):List (Nat×Operand)->Option (List (Nat×Nat×c7))
 |[]=>some []
 |(i,x)::r=>
  match jW P t i,cU x,mK P t r with
  |some (off,n),some y,some r=>some ((off,n,y)::r)
  |_,_,_=>none
def eG(P:Program)(t:TypeId):Option (TypeId×TypeInfo):=
 match P.underlying t with
 |some (.slice e)=>(P.info? e).map λi=>(e,i)
 |_=>none
def pa(P:Program)(b:Builtin)(ts:Array TypeId)(args:List c7):Option pI:=
 match b,args with
 |.len,[x]=>
  match (ts[0]?).bind P.underlying with
  |some (.slice _)=>some (.len .sl x)
  |some .string=>some (.len .st x)
  |some (.map _ _)=>some (.len .mp x)
  |some (.array n _)=>some (.AF n)
  |_=>none
 |.append,[x,y]=>
  match (ts[0]?).bind (eG P),(ts[1]?).bind P.underlying with
  |some (_,i),some (.slice _)=>if 0<i.size/\0<i.bytes/\i.bytes<=2^20 then(i.zero.bind (mR 4)).bind λz=>if z.cells.length=i.size then some (.app i.size i.bytes x y)else none else none
  |some (_,i),some .string=>if 0<i.size/\0<i.bytes/\i.bytes<=2^20 then(i.zero.bind (mR 4)).bind λz=>if z.cells.length=i.size then some (.app i.size i.bytes x y)else none else none
  |_,_=>none
 |.copy,[x,y]=>
  match (ts[0]?).bind (eG P)with
  |some (_,i)=>if 0<i.size then some (.zK i.size x y)else none
  |_=>none
 |.max,x::l=>some (.mx x l)
 |.min,x::l=>some (.mn x l)
 |_,_=>none
def yA(P:Program)(t:TypeId):Option CK:=
 match P.underlying t with
 |some (.int _)=>some .i
 |some .string=>some .s
 |some .bool=>some .b
 |_=>none
def CO:Fn->Bool
 |.yield _=>false
 |_=>true
def eO(P:Program)(o:Oper):Option pI:=
 match o.op with
 |.move x=>(cU x).map .bV
 |.assign x=>(cU x).map .bV
 |.pick c a b=>
  match cU c,cU a,cU b with
  |some c,some a,some b=>some (.pick c a b)
  |_,_,_=>none
 |.alloc e=>
  match jU P e with
  |some z=>if z.cells.all AV.one then some (.box (.c z))else none
  |none=>none
 |.box _ x=>(cU x).map .box
 |.build t ps=>
  match jU P t,mK P t ps.toList with
  |some z,some l=>if oI P t=true then some (.build z.cells l)else none
  |_,_=>none
 |.buildSlice t n ps=>
  match eG P t with
  |some (e,i)=>
   match jU P e,ps.toList.mapM λp=>(cU p.2).map λy=>(p.1*i.size,y)with
   |some z,some l=>if 0<i.size/\z.cells.length=i.size/\z.cells.all AV.one/\n*i.size<=2^24 then some (.bo i.size n z.cells l)else none
   |_,_=>none
  |none=>none
 |.load t a=>
  match Bs P t,cU a with
  |some n,some a=>some (.load n a)
  |_,_=>none
 |.store t a x=>
  match eC P t,cU a,cU x with
  |some n,some a,some x=>some (.store n a x)
  |_,_,_=>none
 |.nilCheck x=>(cU x).map .bS
 |.binOp op t x y _=>
  match cU x,cU y with
  |some x,some y=>
   match op with
   |.eql=>I3 P false t x y
   |.neq=>I3 P true t x y
   |_=>some (.bin op x y)
  |_,_=>none
 |.unOp op _ x=>(cU x).map (.un op)
 |.convert s d x=>
  match Dm P s d,cU x with
  |some k,some x=>some (.conv k x)
  |_,_=>none
 |.makeInterface t x=>
  match P.underlying t,cU x with
  |some (.interface _),_=>none
  |some _,some x=>some (.conv (.vk t) x)
  |_,_=>none
 |.makeFunc fn a c=>
  if CO fn=true then
   match zo a,zo c with
   |some a,some c=>some (.uH fn a c)
   |_,_=>none
  else none
 |.makeMap _ none=>some .oP
 |.makeSlice t l c=>
  match eG P t,cU l,cU c with
  |some (e,i),some l,some c=>
   match jU P e with
   |some z=>if 0<i.size/\z.cells.length=i.size/\z.cells.all AV.one then some (.wo i.size i.bytes z.cells l c)else none
   |none=>none
  |_,_,_=>none
 |.slice t x lo hi none=>
  match cU x,vY lo,vY hi with
  |some x,some lo,some hi=>
   match P.underlying t with
   |some .string=>some (.JW x lo hi)
   |some (.slice e)=>(eC P e).map λn=>.sl n x lo hi
   |some (.array k e)=>(eC P e).map λn=>.NK k n x lo hi
   |_=>none
  |_,_,_=>none
 |.fieldAddr t x i=>
  match fieldAt P t i,cU x with
  |some f,some x=>
   match eC P f.type with
   |some n=>if 0<n then some (.aP f.offset x)else none
   |none=>none
  |_,_=>none
 |.indexAddr t x i=>
  match cU x,cU i with
  |some x,some i=>
   match P.underlying t with
   |some (.slice e)=>(eC P e).map λn=>.bp n x i
   |some (.array k e)=>(eC P e).map λn=>.te k n x i
   |_=>none
  |_,_=>none
 |.field t x i=>
  match fieldAt P t i,cU x with
  |some f,some x=>(Bs P f.type).map λn=>.part n f.offset x
  |_,_=>none
 |.index t x i=>
  match cU x,cU i with
  |some x,some i=>
   match P.underlying t with
   |some .string=>some (.D2 x i)
   |some (.array k e)=>
    match eC P e,Bs P e with
    |some n,some q=>some (.JY k n q x i)
    |_,_=>none
   |_=>none
  |_,_=>none
 |.lookup t m k ok=>
  match P.underlying t,cU m,cU k with
  |some (.map kt e),some m,some k=>
   match yA P kt,jU P e with
   |some kk,some z=>some (.look kk z ok m k)
   |_,_=>none
  |_,_,_=>none
 |.mapUpdate t m k x=>
  match P.underlying t,cU m,cU k,cU x with
  |some (.map kt _),some m,some k,some x=>(yA P kt).map λkk=>.gh kk m k x
  |_,_,_,_=>none
 |.insert t m k x=>
  match P.underlying t,cU m,cU k,cU x with
  |some (.map kt _),some m,some k,some x=>(yA P kt).map λkk=>.gh kk m k x
  |_,_,_,_=>none
 |.range t x=>
  match P.underlying t with
  |some .string=>(cU x).map .Cr
  |_=>none
 |.next x true=>(cU x).map .rR
 |.extract x i=>(cU x).map λx=>.ext x i
 |.call c=>
  match zo c.args with
  |some l=>
   match c.callee with
   |.value f=>(cU f).map λf=>.call f l
   |.invoke r name=>(cU r).map λr=>.call (.c (.func (.method name) [] [])) (r::l)
   |.builtin b=>pa P b c.argTypes l
  |none=>none
 |_=>none
def uK(ops:Array Oper)(g:Option (Nat×Bool)):Option (Option (Nat×Bool)):=
 match g with
 |none=>some none
 |some (j,b)=>((ops[j]?).bind (·.dst)).map λd=>some (d,b)
def NM(P:Program):Operand->Bool
 |.global g=>decide (g<P.globals.size)
 |_=>true
def bX(P:Program)(ops:Array Oper)(q:Bool)(o:Oper):Option bL:=
 match uK ops o.guard with
 |some g=>some {dst:=o.dst,k:=if o.op.operands.toList.all (NM P)then(eO P o).getD .bad else .bad,gd:=g,q:=q}
 |none=>none
def ahead(M:Array Nat)(i j:Nat):Bool:=(M.getD j 0).testBit i
def kY(M:Array Nat)(ops:Array Oper):Bool:=
 (List.range ops.size).all λj=>
  match ops[j]? with
  |none=>true
  |some o=>
   (o.after.toList.all λe=>!Region.binds .any e||decide (e.on<j)) &&
   ((List.range ops.size).all λi=>!ahead M i j||o.after.toList.any λe=>Region.binds .any e&&(e.on==i||ahead M i e.on))
def mC(M:Array Nat)(ops:Array Oper):Bool:=
 (List.range ops.size).all λj=>
  (List.range j).all λi=>
   match ops[i]?,ops[j]? with
   |some x,some y=>
    (match x.dst with
     |some d=>y.dst !=some d&&(!(y.looksAt ops).contains d||ahead M i j)
     |none=>true) &&
    (match y.dst with
     |some d=>!(x.looksAt ops).contains d||ahead M i j
     |none=>true)
   |_,_=>true
def iw(M:Array Nat)(n j:Nat):Bool:=
 (List.range n).all λi=>i==j||(if i<j then ahead M i j else ahead M j i)
def fj{α β:Type}(f:Nat->α->Option β):List α->Nat->Option (List β)
 |[],_=>some []
 |x::xs,i=>
  match f i x,fj f xs (i+1)with
  |some y,some ys=>some (y::ys)
  |_,_=>none
def yI:AV->Bool
 |.bool _=>true
 |.int _ _=>true
 |.xS _ _=>true
 |.xE _ _ _=>true
 |.str _=>true
 |.nilPtr=>true
 |.af=>true
 |.dz=>true
 |.nilFunc=>true
 |_=>false
def mA(o:bL):Option (Nat×Nat×c7):=
 match o.dst,o.k,o.gd,o.q with
 |none,.store n (.t t) x,none,true=>some (n,t,x)
 |_,_,_,_=>none
def uc(o:bL):Option (Nat×AV):=
 match o.dst,o.k,o.gd,o.q with
 |some t,.box (.c z),none,true=>some (t,z)
 |_,_,_,_=>none
def fT(ops:Array Oper)(j t:Nat):Bool:=
 match ops[j]? with
 |some o=>(o.looksAt ops).contains t
 |none=>false
def pT(ops:Array Oper)(l:List bL)(k s:Nat):Bool:=
 match (l[k]?).bind uc,(l[s]?).bind mA with
 |some (t,z),some (n,t',x)=>
  t==t'&&z.cells.length==n&&z.cells.all yI&&(match x with|.t u=>u !=t&&fT ops s u|_=>true)&&fT ops s t&&(List.range ops.size).all λj=>j==s || !fT ops j t
 |_,_=>false
def PS(ops:Array Oper)(l:List bL)(s:Nat):Option Nat:=(List.range s).find? λk=>pT ops l k s
def OK(ops:Array Oper)(l:List bL)(k:Nat):Option Nat:=(List.range l.length).find? λs=>decide (k<s)&&pT ops l k s
def tV(ops:Array Oper)(l:List bL)(j:Nat)(o:bL):bL:=
 match mA o with
 |some (n,t,x)=>
  match PS ops l j with
  |some _=>{dst:=some t,k:=.mq n x,gd:=none,q:=true}
  |none=>o
 |none=>
  match uc o with
  |some _=>
   match OK ops l j with
   |some _=>{dst:=none,k:=.bV (.c (.bool false)),gd:=none,q:=true}
   |none=>o
  |none=>o
def qC(ops:Array Oper)(l:List bL):Nat->List bL->List bL
 |_,[]=>[]
 |j,o::r=>tV ops l j o::qC ops l (j+1) r
def cQ(P:Program)(ops:Array Oper)(draw:Bool):Option (List bL):=
 if draw then
  let M:=Region.before ops
  if kY M ops&&mC M ops then
   (fj (λi o=>bX P ops (!iw M ops.size i) o) ops.toList 0).map λl=>qC ops l 0 l
  else none
 else fj (λ_ o=>bX P ops false o) ops.toList 0
def fO:pI->Bool
 |.bV _=>true
 |.pick _ _ _=>true
 |.bin _ _ _=>true
 |.eqv _ _ _ _=>true
 |.un _ _=>true
 |.conv (.ME _) _=>true
 |.aP _ _=>true
 |.te _ _ _ _=>true
 |.bp _ _ _=>true
 |.part _ _ _=>true
 |.JY _ _ _ _ _=>true
 |.D2 _ _=>true
 |.ext _ _=>true
 |.bS _=>true
 |.mx _ _=>true
 |.mn _ _=>true
 |.build _ _=>true
 |.JW _ _ _=>true
 |.sl _ _ _ _=>true
 |.AF _=>true
 |.uH _ _ _=>true
 |.len .sl _=>true
 |.len .st _=>true
 |_=>false
def cG:pI->Bool
 |.load _ _=>true
 |k=>fO k
def DG:pI->Bool
 |.box _=>true
 |.bo _ _ _ _=>true
 |.oP=>true
 |_=>false
def Fe:pI->Bool
 |.call _ _=>true
 |_=>false
def lh(o:bL):Bool:=DG o.k||(o.q&&Fe o.k)
def Fc(o:Oper):Bool:=
 match o.op with
 |.call c=>
  match c.callee with
  |.builtin _=>false
  |_=>true
 |_=>false
def Fb(o:Oper):Bool:=
 o.guard.isNone&&match o.op with
 |.load _ _=>true
 |_=>false
def td(c:Nat)(o:Oper):Bool:=(decide (1<=c)&&Fc o)||(decide (2<=c)&&Fb o)
def nf(o:bL):Bool:=
 o.q&&match o.k with
 |.load _ _=>true
 |_=>false
def oQ(M:Array Nat)(l:List bL):Bool:=
 (List.range l.length).all λj=>
  (List.range j).all λi=>
   match l[i]?,l[j]? with
   |some x,some y=>fO x.k||fO y.k||nf x||nf y||(cG x.k&&(cG y.k||lh y))||(lh x&&cG y.k)||ahead M i j
   |_,_=>true
def zk(o:bL):Bool:=
 o.q&&match o.k with
  |.store _ _ _=>true
  |_=>false
def ML(o:bL):Bool:=
 o.q&&match o.k with
  |.store _ _ _=>true
  |.app _ _ _ _=>true
  |.zK _ _ _=>true
  |.gh _ _ _ _=>true
  |_=>false
def C0(o:bL):Bool:=fO o.k||match o.k with
 |.store _ _ _=>true
 |_=>false
def MC(o:bL):Bool:=match o.k with
 |.store _ _ _=>true
 |_=>false
def kV(l:List bL):Bool:=l.all C0&&decide ((l.filter MC).length<=2)
def dS:List bL->Nat
 |[]=>0
 |o::r=>if kV (o::r)=true then 0 else dS r+1
def nK(M:Array Nat)(l:List bL):Bool:=
 (List.range l.length).all λi=>
  match l[i]? with
  |some x=>!nf x||(List.range l.length).all λj=>
    match l[j]? with
    |some y=>cG y.k||decide (j<dS l)||ahead M i j
    |none=>true
  |none=>true
def rV(M:Array Nat)(l:List bL)(f:Nat):Bool:=
 (List.range l.length).all λj=>
  (List.range j).all λi=>
   match l[i]?,l[j]? with
   |some x,some y=>fO x.k||fO y.k||nf x||nf y||decide (j=f)||ahead M i j
   |_,_=>true
def w7(ops:Array Oper)(l:List bL)(f:Nat):Bool:=
 match l[f]? with
 |some {dst:=some d,k:=.bo _ _ z ps,gd:=none,q:=_}=>z.all yI&&ps.all (λp=>match p.2 with|.t u=>fT ops f u|_=>false)&&(List.range l.length).all λj=>
   match l[j]? with
   |some o=>!cG o.k||((fO o.k||nf o) && !fT ops j d)
   |none=>true
 |_=>false
def G8(M:Array Nat)(ops:Array Oper)(l:List bL):Option Nat:=(List.range l.length).find? λf=>w7 ops l f&&rV M l f
def Nf(l:List bL):Bool:=l.any λo=>o.q&&match o.k with
 |.app _ _ (.t d) _=>l.any λp=>p.dst==some d&&match p.k with
  |.app _ _ _ _=>true
  |_=>false
 |_=>false
def nP(P:Program)(ops:Array Oper)(draw:Bool):Option ai:=
 match cQ P ops draw with
 |none=>none
 |some l=>
  if l.any ML=true/\draw=true then
   match fj (λ_ o=>bX P ops (td 0 o) o) ops.toList 0,fj (λ_ o=>bX P ops (td 1 o) o) ops.toList 0,fj (λ_ o=>bX P ops (td 2 o) o) ops.toList 0 with
   |some l',some l2,some l3=>if(oQ (Region.before ops) l' && !l'.any nf)=true then some (.ops l')else if(oQ (Region.before ops) l2 && !l2.any nf)=true then some (.ops l2)else if(l.any zk&&(G8 (Region.before ops) ops l3).isSome&&nK (Region.before ops) l3)=true then some (.mP l3)else if l.any zk=true then(if(decide (2<(l.filter MC).length)&&oQ (Region.before ops) l3&&nK (Region.before ops) l3)=true then some (.mP l3)else some (.s9 l'))else if(oQ (Region.before ops) l3&&nK (Region.before ops) l3)=true then some (.mP l3)else if(Nf l&&(G8 (Region.before ops) ops l3).isSome&&nK (Region.before ops) l3)=true then some (.mP l3)else some (.ops l)
   |_,_,_=>none
  else some (.ops l)
def compile(P:Program):Code->Option ai
 |.skip=>some .skip
 |.region _ ops draw=>nP P ops draw
 |.seq a b=>
  match compile P a,compile P b with
  |some x,some y=>some (.seq x y)
  |_,_=>none
 |.cond c a b=>
  match EN c,compile P a,compile P b with
  |some c,some x,some y=>some (.cond c x y)
  |_,_,_=>none
 |.block id a=>(compile P a).map (.block id)
 |.loop a=>(compile P a).map .loop
 |.exit id=>some (.exit id)
 |.ret=>some .ret
 |.label _=>some .skip
 |.scope a=>compile P a
 |.rangeFunc g ps asg body=>
  match EN g,compile P asg,compile P body with
  |some g,some x,some y=>some (.gg g ps.toList x y)
  |_,_,_=>none
 |.goto _=>some .bad
 |.refuse _=>some .bad
structure au where
 nt:Nat
 np:Nat
 rs:List (Nat×Option (Option Nat))
 body:ai
def uw(P:Program):ResultVar->Option (Nat×Option (Option Nat))
 |.tmp t=>some (t,none)
 |.cell a t=>(Bs P t).map λn=>(a,some n)
def bT(P:Program)(f:FuncId):Option au:=
 match P.funcs[f]? with
 |none=>none
 |some fn=>
  match fn.body with
  |none=>none
  |some c=>
   match compile P c,fn.results.toList.mapM (uw P)with
   |some b,some rs=>if fn.name == "runtime.NumGoroutine" then none else some {nt:=fn.ntmps,np:=fn.params.size,rs:=rs,body:=b}
   |_,_=>none
def Fh(P:Program)(g:Nat):Nat:=
 match P.globals[g]? with
 |some G=>
  match P.info? G.type with
  |some i=>i.size
  |none=>0
 |none=>0
def BR(P:Program)(m:cj)(w:World)(e:tq):ak->Prop
 |.cells c mu tl=>∃cc el fz,w.heap[e.cb]? =some (.cells cc el fz)/\(e.d+c.length<=cc.size/\e.d+c.length<=e.sz/\cc.size=e.sz)/\
   (∀(i:Nat) (x:AV),c[i]? =some x->x.one=true/\∃v,cc[e.d+i]? =some v/\VR m x v)/\
   (e.own=true->cc.size=e.sz/\∀i,i<cc.size->¬(fz.1<=i/\i<fz.2))/\((mu=true\/tl=true)->e.own=true/\(tl=false->e.sz=e.d+c.length))
 |.dead=>True
 |.bA es=>e.own=true/\∃UZ clock,w.heap[e.cb]? =some (.map UZ clock)/\UZ.size=es.length/\
   ∀(i:Nat) (p:AV×AV),es[i]? =some p->∃q,UZ[i]? =some q/\VR m p.1 q.key/\VR m p.2 q.val
 |.iter s pos=>e.own=true/\e.d=0/\w.heap[e.cb]? =some (.stringIter ⟨⟨s⟩⟩ pos)
 |.loop st ex ts ps asg body=>e.own=true/\∃fn tmps TL Tf df,w.heap[e.cb]? =some (.loop {state:=st,pending:=ex.jump,fn:=fn,tmps:=tmps,params:=⟨ps⟩,assign:=TL,body:=Tf,defers:=df})/\
   cL m ts tmps.toList/\compile P TL=some asg/\compile P Tf=some body
def ak.live:ak->Bool
 |.dead=>false
 |_=>true
def qo(e1 e2:tq):ak->ak->Prop
 |.cells c1 mu1 tl1,.cells c2 mu2 tl2=>mu1=false/\mu2=false/\(tl1=true->tl2=false/\e2.d+c2.length<=e1.d+c1.length)
 |.dead,_=>True
 |_,.dead=>True
 |_,_=>False
structure HR(P:Program)(m:cj)(h:ah)(w:World):Prop where
 cO:∀b e,m b=some e->b<h.length
 ep:∀b e k,m b=some e->h[b]? =some k->BR P m w e k
 sep:∀b1 b2 e1 e2 k1 k2,b1≠b2->m b1=some e1->m b2=some e2->h[b1]? =some k1->h[b2]? =some k2->e1.cb=e2.cb->qo e1 e2 k1 k2
 gD:∀g,g<P.globals.size->∃e,m g=some e/\e.cb=g/\e.d=0/\e.own=false/\e.sz=Fh P g
 lt:∀b e,m b=some e->e.cb<w.heap.size
structure Grow(m:cj)(h:ah)(w:World)(m':cj)(h':ah)(w':World):Prop where
 ext:∀b,b<h.length->m' b=m b
 len:h.length<=h'.length
 new:∀b e,h.length<=b->m' b=some e->e.own=true/\(w.heap.size<=e.cb\/∃b0 e0,m b0=some e0/\e0.cb=e.cb/\e0.own=true/\eZ h b0=true/\eZ h' b0=false)
 tl:∀b,b<h.length->eZ h' b=true->eZ h b=true
 size:w.heap.size<=w'.heap.size
 os:w'.os=w.os
 out:w'.output=w.output
 tape:w'.tape=w.tape
 frame:∀i,i<w.heap.size->(∀b e,m b=some e->e.own=true->e.cb≠i)->w'.heap[i]? =w.heap[i]?
def Grow.refl(m:cj)(h:ah)(w:World)(hd:∀b e,m b=some e->b<h.length):Grow m h w m h w where
 ext:=λ_ _=>rfl
 len:=aah _
 new:=λb e hb he=>absurd (hd b e he) Om
 tl:=λ_ _ h=>h
 size:=aah _
 os:=rfl
 out:=rfl
 tape:=rfl
 frame:=λ_ _ _=>rfl
theorem Grow.le{m m' h h' w w'}(g:Grow m h w m' h' w')(hd:∀b e,m b=some e->b<h.length):m.le m':=
 λb e he=>by rw[g.ext b (hd b e he)];exact he
theorem Grow.trans{m m1 m2 h h1 h2 w w1 w2}(a:Grow m h w m1 h1 w1)(b:Grow m1 h1 w1 m2 h2 w2)
  (hd:∀b e,m b=some e->b<h.length):Grow m h w m2 h2 w2 where
 ext:=λi hi=>(b.ext i (aaY hi a.len)).trans (a.ext i hi)
 len:=aaT a.len b.len
 new:=by
  intro i e hi he;by_cases h1i:h1.length<=i
  ·obtain⟨ho,hc⟩:=b.new i e h1i he;refine⟨ho,?_⟩;rcases hc with hc|⟨b0,e0,T6,hcb,ho0,U4,XX⟩
   ·exact .inl (aaT a.size hc)
   ·by_cases hb:h.length<=b0
    ·obtain⟨_,hc0⟩:=a.new b0 e0 hb T6;rcases hc0 with hc0|⟨b00,e00,hb00,ZR,ho00,ht00,YB⟩
     ·exact .inl (hcb▸hc0)
     ·refine .inr ⟨b00,e00,hb00,ZR.trans hcb,ho00,ht00,?_⟩;cases hx:eZ h2 b00 with
      |false=>rfl
      |true=>
       have hlt:=hd _ _ hb00;rw[b.tl b00 (aaY hlt a.len) hx]at YB;cases YB
    ·have hlt:b0<h.length:=Om
     rw[a.ext b0 hlt]at T6;exact .inr ⟨b0,e0,T6,hcb,ho0,a.tl b0 hlt U4,XX⟩
  ·have hi1:i<h1.length:=Om
   rw[b.ext i hi1]at he;obtain⟨ho,hc⟩:=a.new i e hi he;refine⟨ho,?_⟩;rcases hc with hc|⟨b0,e0,T6,hcb,ho0,U4,XX⟩
   ·exact .inl hc
   ·refine .inr ⟨b0,e0,T6,hcb,ho0,U4,?_⟩;cases hx:eZ h2 b0 with
    |false=>rfl
    |true=>
     have hlt:=hd _ _ T6;rw[b.tl b0 (aaY hlt a.len) hx]at XX;cases XX
 tl:=λi hi ht=>a.tl i hi (b.tl i (aaY hi a.len) ht)
 size:=aaT a.size b.size
 os:=b.os.trans a.os
 out:=b.out.trans a.out
 tape:=b.tape.trans a.tape
 frame:=by
  intro i hi hno;refine(b.frame i (aaY hi a.size) ?_).trans (a.frame i hi hno);intro j e he ho hcb;by_cases hj:h.length<=j
  ·obtain⟨_,hc⟩:=a.new j e hj he;rcases hc with hc|⟨b0,e0,T6,ZR,ho0,_,_⟩
   ·omega
   ·exact hno b0 e0 T6 ho0 (ZR.trans hcb)
  ·rw[a.ext j Om]at he;exact hno j e he ho hcb
theorem BR.heap{P m w w' e k}(h:BR P m w e k)(hw:w'.heap[e.cb]? =w.heap[e.cb]?):BR P m w' e k:=by
 cases k<;>simp only[BR,hw]at h ⊢<;>exact h
theorem BR.mono{P m m' w e k}(hm:m.le m')(h:BR P m w e k):BR P m' w e k:=by
 cases k with
 |cells c mu tl=>
  obtain⟨cc,el,fz,h1,h2,h3,h4⟩:=h;exact⟨cc,el,fz,h1,h2,λi x hx=>by obtain⟨ho,v,hv,hr⟩:=h3 i x hx;exact⟨ho,v,hv,VR.mono hm _ _ hr⟩,h4⟩
 |dead=>trivial
 |bA es=>
  obtain⟨ho,UZ,clock,h1,h2,h3⟩:=h;exact⟨ho,UZ,clock,h1,h2,λi p hp=>by obtain⟨q,hq,ha,hb⟩:=h3 i p hp;exact⟨q,hq,VR.mono hm _ _ ha,VR.mono hm _ _ hb⟩⟩
 |iter s pos=>exact h
 |loop st ex ts ps asg body=>
  obtain⟨ho,fn,tmps,TL,Tf,df,h1,h2,h3,h4⟩:=h;exact⟨ho,fn,tmps,TL,Tf,df,h1,cL.mono hm _ _ h2,h3,h4⟩
theorem HR.drew{P m h w}(hr:HR P m h w):HR P m h w.drew where
 cO:=hr.cO
 ep:=λb e k hb hk=>(hr.ep b e k hb hk).heap rfl
 sep:=hr.sep
 gD:=hr.gD
 lt:=hr.lt
theorem Grow.drew{m h w m' h' w'}(g:Grow m h w m' h' w'):Grow m h w m' h' w'.drew:=
 ⟨g.ext,g.len,g.new,g.tl,g.size,g.os,g.out,g.tape,g.frame⟩
def Grow.Di{m h w m' h' w'}(g:Grow m h w.drew m' h' w'):Grow m h w m' h' w':=
 ⟨g.ext,g.len,g.new,g.tl,g.size,g.os,g.out,g.tape,g.frame⟩
def BR.lt{P m w e k}(h:BR P m w e k)(hl:k.live=true):e.cb<w.heap.size:=by
 cases k with
 |cells c mu tl=>obtain⟨cc,el,fz,h1,_⟩:=h;exact(aap.1 h1).1
 |dead=>cases hl
 |bA es=>obtain⟨_,UZ,clock,h1,_⟩:=h;exact(aap.1 h1).1
 |iter s pos=>exact(aap.1 h.2.2).1
 |loop st ex ts ps asg body=>obtain⟨_,fn,tmps,TL,Tf,df,h1,_⟩:=h;exact(aap.1 h1).1
def cj.add(m:cj)(b:Nat)(e:tq):cj:=λx=>if x=b then some e else m x
def cj.sN{m:cj}{b:Nat}(e:tq)(h:m b=none):m.le (m.add b e):=by
 intro x y hx;unfold cj.add;by_cases hb:x=b
 ·subst hb;rw[h]at hx;cases hx
 ·rw[aab hb];exact hx
def fV{h k b}(hb:b<h.length):eZ (h++[k]) b=eZ h b:=by
 unfold eZ;rw[Z7 hb]
def kL{P:Program}{m:cj}{h:ah}{w:World}(hr:HR P m h w)(o:Obj)(k:ak)(e:tq)(he:e.cb=w.heap.size)(ho:e.own=true)
  (hk:∀m':cj,m.le m'->BR P m' (w.alloc o) e k):
  HR P (m.add h.length e) (h++[k]) (w.alloc o)/\Grow m h w (m.add h.length e) (h++[k]) (w.alloc o):=by
 have TR:m h.length=none:=by
  exact ND
 have hle:=cj.sN e TR;have hold:∀b x,m b=some x->(m.add h.length e) b=some x:=hle;have hheap:∀i,i<w.heap.size->(w.alloc o).heap[i]? =w.heap[i]? :=λi hi=>Go.RowKit.Below.heap_alloc w o i hi
 have Xa:∀b x k',m b=some x->h[b]? =some k'->k'.live=true->x.cb<w.heap.size:=λb x k' hb hk' hl=>(hr.ep b x k' hb hk').lt hl
 refine⟨⟨?_,?_,?_,?_,?_⟩,⟨?_,Si,?_,?_,Si,rfl,rfl,rfl,λi hi _=>hheap i hi⟩⟩
 ·intro b x hb;unfold cj.add at hb;by_cases hbl:b=h.length
  ·subst hbl;simp
  ·rw[aab hbl]at hb;have:=hr.cO _ _ hb;simp;omega
 ·intro b x k' hb hk';unfold cj.add at hb;by_cases hbl:b=h.length
  ·subst hbl;rw[aai rfl]at hb;cases hb;simp at hk';subst hk';exact hk _ hle
  ·rw[aab hbl]at hb;have hlt:=hr.cO _ _ hb;rw[Z7 hlt]at hk';have h0:=hr.ep b x k' hb hk';by_cases hl:k'.live=true
   ·exact(h0.mono hle).heap (hheap _ (h0.lt hl))
   ·cases k'<;>first|trivial|exact absurd rfl hl
 ·intro b1 b2 e1 e2 k1 k2 hne h1 h2 hk1 SK hcb;unfold cj.add at h1 h2;by_cases Tm:b1=h.length
  ·subst Tm;rw[aai rfl]at h1;cases h1;have Tx:b2≠h.length:=λx=>hne x.symm
   rw[aab Tx]at h2;have hlt:=hr.cO _ _ h2;rw[Z7 hlt]at SK;by_cases hl:k2.live=true
   ·have:=Xa _ _ _ h2 SK hl;omega
   ·cases k2<;>first|(cases k1<;>trivial)|exact absurd rfl hl
  ·rw[aab Tm]at h1;have hlt1:=hr.cO _ _ h1;rw[Z7 hlt1]at hk1;by_cases Tx:b2=h.length
   ·subst Tx;rw[aai rfl]at h2;cases h2;by_cases hl:k1.live=true
    ·have:=Xa _ _ _ h1 hk1 hl;omega
    ·cases k1<;>first|trivial|exact absurd rfl hl
   ·rw[aab Tx]at h2;have TU:=hr.cO _ _ h2;rw[Z7 TU]at SK;exact hr.sep b1 b2 e1 e2 k1 k2 hne h1 h2 hk1 SK hcb
 ·intro g hg;obtain⟨x,hx,h1⟩:=hr.gD g hg;exact⟨x,hold _ _ hx,h1⟩
 ·intro b x hb;unfold cj.add at hb;simp only[World.size_alloc];by_cases hbl:b=h.length
  ·rw[aai hbl]at hb;cases hb;omega
  ·rw[aab hbl]at hb;have:=hr.lt _ _ hb;omega
 ·intro b hb;unfold cj.add;rw[aab Om]
 ·intro b x hb hx;unfold cj.add at hx;by_cases hbl:b=h.length
  ·rw[aai hbl]at hx;cases hx;exact⟨ho,.inl Om⟩
  ·rw[aab hbl]at hx;exact absurd (hr.cO _ _ hx) Om
 ·intro b hb ht
  rwa [fV hb]at ht
def vi{P:Program}{m:cj}{w:World}{c:List AV}{vs:List Value}(hc:cL m c vs)(h1:c.all AV.one=true)(el:TypeId)(mu tl:Bool)(m':cj)(hm:m.le m'):
  BR P m' (w.alloc (.cells ⟨vs⟩ el)) ⟨w.heap.size,0,vs.length,true⟩ (.cells c mu tl):=by
 refine⟨⟨vs⟩,el,(0,0),World.alloc_heap_new w _,⟨by simp[hc.length],by simp[hc.length]⟩,?_,?_,λ_=>⟨rfl,λ_=>by simp[hc.length]⟩⟩
 ·intro i x hx;obtain⟨v,hv,hr⟩:=hc.get hx;exact⟨aaE.1 h1 x (aaW hx),v,by simpa using hv,VR.mono hm _ _ hr⟩
 ·intro _;exact⟨Si,λi _=>by simp⟩
def mw{P m h w}(hr:HR P m h w){c vs}(hc:cL m c vs)(h1:c.all AV.one=true)(el:TypeId)(mu tl:Bool):
  ∃m',m' h.length=some ⟨w.heap.size,0,vs.length,true⟩/\HR P m' (h++[.cells c mu tl]) (w.alloc (.cells ⟨vs⟩ el))/\Grow m h w m' (h++[.cells c mu tl]) (w.alloc (.cells ⟨vs⟩ el)):=
 ⟨_,by simp[cj.add],kL hr (.cells ⟨vs⟩ el) (.cells c mu tl) ⟨w.heap.size,0,vs.length,true⟩ rfl rfl (λm' hm=>vi hc h1 el mu tl m' hm)⟩
def iA(b o n:Nat):(⟨b,o,none⟩:Addr).add n=⟨b,o+n,none⟩:=by
 unfold Addr.add;by_cases h:n=0
 ·simp[h]
 ·simp[h]
def cell_of{P m h w}(hr:HR P m h w){b e c mu tl}(he:m b=some e)(hb:h[b]? =some (.cells c mu tl))
  {i}{x}(hx:c[i]? =some x):x.one=true/\∃v,w.cell? ⟨e.cb,i+e.d,none⟩=some v/\VR m x v:=by
 obtain⟨cc,el,fz,h1,_,h3,_⟩:=hr.ep b e _ he hb;obtain⟨ho,v,hv,SL⟩:=h3 i x hx;exact⟨ho,v,by simp only[World.cell?,h1];rw[acn];simpa using hv,SL⟩
def nI{P m h w}(hr:HR P m h w){b e c mu tl}(he:m b=some e)(hb:h[b]? =some (.cells c mu tl))
  (o n:Nat) (hn:o+n<=c.length):∃vs,(loadCells ⟨e.cb,o+e.d,none⟩ n).run P w=.ok ⟨vs⟩ w/\cL m ((c.drop o).take n) vs/\((c.drop o).take n).all AV.one=true:=by
 have SR:∀j,j<n->∃x,c[o+j]? =some x:=λj hj=>⟨c[o+j],Z6 Om⟩
 have TE:∀j,j<n->∃v,w.cell? ⟨e.cb,o+e.d+j,none⟩=some v/\∃x,c[o+j]? =some x/\VR m x v:=by
  intro j hj;obtain⟨x,hx⟩:=SR j hj;obtain⟨_,v,hv,SL⟩:=cell_of hr he hb hx;exact⟨v,by rw[show o+e.d+j=o+j+e.d from by omega];exact hv,x,hx,SL⟩
 obtain⟨f,hf⟩:∃f:Nat->Value,∀j,j<n->w.cell? ⟨e.cb,o+e.d+j,none⟩=some (f j):=
  ⟨λj=>(w.cell? ⟨e.cb,o+e.d+j,none⟩).getD default,λj hj=>by obtain⟨v,hv,_⟩:=TE j hj;simp[hv]⟩
 have TI:cL m ((c.drop o).take n) ((List.range n).map f):=by
  refine cL.iL (by simp;omega) λi x hx=>?_
  have hi:i<n:=by
   have:=(Z2.1 hx).1;simp at this;omega
  rw[ab4 hi,ack]at hx;obtain⟨v,hv,y,hy,SL⟩:=TE i hi;rw[hx]at hy;cases hy;refine⟨f i,by simp[hi],?_⟩;have:=hf i hi;rw[hv]at this;cases this;exact SL
 refine⟨(List.range n).map f,?_,TI,?_⟩
 ·have:=run_loadCells_list (P:=P) (w:=w) ⟨e.cb,o+e.d,none⟩ ((List.range n).map f) (λj v hj=>by
   have hi:j<n:=by
    have:=(Z2.1 hj).1
    simpa using this
   rw[iA];simp[hi]at hj;rw[<-hj];exact hf j hi)
  simpa using this
 ·rw[aaE];intro x hx;have SO:x∈c:=List.mem_of_mem_drop (aa4 hx);obtain⟨i,hi,rfl⟩:=aca SO;exact(cell_of hr he hb (Z6 hi)).1
def gf(c:List AV)(o:Nat):List AV->List AV
 |[]=>c
 |x::xs=>gf (c.set o x) (o+1) xs
def bK(h:ah)(b b':Nat)(k:ak)(hb:b<h.length):(h.set b k)[b']? =if b' =b then some k else h[b']? :=by
 rw[List.getElem?_set];by_cases e:b=b'
 ·subst e;simp[hb]
 ·have e':¬b' =b:=λx=>e x.symm
  rw[aab e,aab e']
def o8{w:World}{cb i:Nat}{cc:Array Value}{el:TypeId}{fz:Nat×Nat}(h1:w.heap[cb]? =some (.cells cc el fz))(h:¬(fz.1<=i/\i<fz.2)):w.frozen? ⟨cb,i,none⟩=false:=by
 obtain⟨lo,hi⟩:=fz;simp only[World.frozen?,h1];simp only[Bool.and_eq_false_iff,abl];simp only at h;omega
def heap_setCell_same{w:World}{cb i:Nat}{cc:Array Value}{el:TypeId}{fz:Nat×Nat}(h1:w.heap[cb]? =some (.cells cc el fz))(v:Value):
  (w.setCell ⟨cb,i,none⟩ v).heap[cb]? =some (.cells (cc.setIfInBounds i v) el fz):=by
 obtain⟨hlt,hk⟩:=aap.1 h1;simp only[World.setCell];rw[aaV (by rw[Array.size_modify];exact hlt),Array.getElem_modify_self,hk];simp
def Ak{P:Program}{m:cj}{h:ah}{w:World}(hr:HR P m h w){b:Nat}{e:tq}{c:List AV}{tl:Bool}(he:m b=some e)(hb:h[b]? =some (.cells c true tl))
  {i:Nat}(hi:i<c.length) {x:AV}{v:Value}(hx:x.one=true) (hv:VR m x v):
  (store ⟨e.cb,i+e.d,none⟩ v).run P w=.ok () (w.setCell ⟨e.cb,i+e.d,none⟩ v)/\
  HR P m (h.set b (.cells (c.set i x) true tl)) (w.setCell ⟨e.cb,i+e.d,none⟩ v)/\Grow m h w m (h.set b (.cells (c.set i x) true tl)) (w.setCell ⟨e.cb,i+e.d,none⟩ v):=by
 obtain⟨cc,el,fz,h1,⟨h2,h2'⟩,h3,h4,h5⟩:=hr.ep b e _ he hb;have hown:e.own=true:=(h5 (.inl rfl)).1;obtain⟨eQ,hfz⟩:=h4 hown;have hbl:b<h.length:=hr.cO _ _ he;have TE:∃u,w.cell? ⟨e.cb,i+e.d,none⟩=some u:=⟨cc[i+e.d]'Om,by simp only[World.cell?,h1];exact aaV Om⟩;obtain⟨u,hu⟩:=TE;have hfr:w.frozen? ⟨e.cb,i+e.d,none⟩=false:=o8 h1 (hfz _ Om);have hother:∀k,k≠e.cb->(w.setCell ⟨e.cb,i+e.d,none⟩ v).heap[k]? =w.heap[k]? :=λk hk=>Go.RowKit.Below.heap_setCell w _ v k hk
 have WJ:=heap_setCell_same (i:=i+e.d) h1 v;refine⟨?_,⟨?_,?_,?_,hr.gD,λb' e' hb'=>by simpa using hr.lt b' e' hb'⟩,⟨λ_ _=>rfl,Si,?_,?_,Si,rfl,rfl,rfl,?_⟩⟩
 ·rw[run_store P w _ v .plain (hv.uB hx),hu];simp[hfr]
 ·intro b' e' hb';simpa using hr.cO b' e' hb'
 ·intro b' e' k TP hk;rw[bK h b b' _ hbl]at hk;by_cases hbb:b' =b
  ·subst hbb;rw[aai rfl]at hk;cases hk;rw[he]at TP;cases TP;refine⟨_,el,fz,WJ,⟨by simpa using h2,by simpa using h2'⟩,?_,λho=>⟨by simpa using eQ,λj hj=>hfz j (by simpa using hj)⟩,λz=>⟨hown,λy=>by rw[aaL];exact(h5 (.inl rfl)).2 y⟩⟩;intro j y hy;rw[List.getElem?_set]at hy;by_cases hij:i=j
   ·subst hij;rw[aai rfl,aai hi]at hy;cases hy;refine⟨hx,v,?_,hv⟩;rw[show e.d+i=i+e.d from by omega];rw[abm Om]
   ·rw[aab hij]at hy;obtain⟨ho,u',WH,hr'⟩:=h3 j y hy;refine⟨ho,u',?_,hr'⟩;rw[abL Om];exact WH
  ·rw[aab hbb]at hk;have h0:=hr.ep b' e' k TP hk;by_cases hl:k.live=true
   ·refine h0.heap (hother _ ?_);intro hcb;have:=hr.sep b b' e e' _ k (λx=>hbb x.symm) he TP hb hk hcb.symm;cases k<;>first|(cases hl;done)|exact absurd this.1 Si|exact this
   ·cases k<;>first|trivial|exact absurd rfl hl
 ·intro b1 b2 e1 e2 k1 k2 hne Ug SU hk1 SK hcb;rw[bK h b _ _ hbl]at hk1 SK;by_cases Tm:b1=b
  ·subst Tm;rw[aai rfl]at hk1;cases hk1;rw[aab (λx=>hne x.symm)]at SK;have:=hr.sep b1 b2 e1 e2 _ k2 hne Ug SU hb SK hcb;cases k2<;>first|trivial|exact absurd this.1 Si|exact this.elim
  ·rw[aab Tm]at hk1;by_cases Tx:b2=b
   ·subst Tx;rw[aai rfl]at SK;cases SK;have:=hr.sep b1 b2 e1 e2 k1 _ hne Ug SU hk1 hb hcb;cases k1<;>first|trivial|exact absurd this.2.1 Si|exact this.elim
   ·exact z70
 ·intro b' e' hb' TP;exact absurd (hr.cO _ _ TP) Om
 ·intro b' hb' ht;unfold eZ at ht ⊢;rw[bK h b b' _ hbl]at ht;by_cases hbb:b' =b
  ·subst hbb;rw[aai rfl]at ht;rw[hb];exact ht
  ·exact D5
 ·intro k hk hno;exact hother k (λhcb=>hno b e he hown hcb.symm)
theorem pQ{P m}:∀(xs:List AV) (vs:List Value) {h}{w}(_:HR P m h w) {b}{e}{c}{tl}(_:m b=some e) (_:h[b]? =some (.cells c true tl))
  (a j:Nat) (_:a+j+xs.length<=c.length) (_:xs.all AV.one=true) (_:cL m xs vs),
  ∃w',(storeCells ⟨e.cb,a+e.d,none⟩ vs j).run P w=.ok () w'/\HR P m (h.set b (.cells (gf c (a+j) xs) true tl)) w'/\Grow m h w m (h.set b (.cells (gf c (a+j) xs) true tl)) w'
 |[],vs,h,w,hr,b,e,c,tl,he,hb,a,j,hlen,h1,hv=>by
  rw[bG]at hv;subst hv;have hbl:b<h.length:=hr.cO _ _ he;have aT:h.set b (.cells (gf c (a+j) []) true tl)=h:=by
   simp only[gf]
   apply acr
   intro i;rw[bK h b i _ hbl];by_cases hi:i=b
   ·subst hi;simp[hb]
   ·simp[hi]
  exact⟨w,rfl,by rw[aT];exact hr,by rw[aT];exact Grow.refl m h w hr.cO⟩
 |x::xs,vs,h,w,hr,b,e,c,tl,he,hb,a,j,hlen,h1,hv=>by
  obtain⟨v,vs',rfl,hxv,TI⟩:=aV.1 hv;simp only[abD,aaD]at h1;simp only[Z5]at hlen;obtain⟨SM,hr1,hg1⟩:=Ak hr he hb (i:=a+j) Om h1.1 hxv;have hbl:b<h.length:=hr.cO _ _ he;have Tm:(h.set b (.cells (c.set (a+j) x) true tl))[b]? =some (.cells (c.set (a+j) x) true tl):=by rw[bK h b b _ hbl,aai rfl]
  obtain⟨w',hrun',hr',Tc⟩:=pQ xs vs' hr1 he Tm a (j+1) (by simp;omega) h1.2 TI;have aT:(h.set b (.cells (c.set (a+j) x) true tl)).set b (.cells (gf (c.set (a+j) x) (a+(j+1)) xs) true tl)=h.set b (.cells (gf c (a+j) (x::xs)) true tl):=by
   rw[List.set_set];rfl
  rw[aT]at hr' Tc;refine⟨w',?_,hr',Grow.trans hg1 Tc hr.cO⟩;simp only[storeCells,aat];rw[iA,show a+e.d+j=a+j+e.d from by omega,SM];exact hrun'
def gj(op:BinOp)(k:IntKind)(a b:Int):Option AV:=
 match op with
 |.add=>some (.int k (k.wrap (a+b)))
 |.sub=>some (.int k (k.wrap (a-b)))
 |.mul=>some (.int k (k.wrap (a*b)))
 |.quo=>if b=0 then none else some (.int k (k.wrap (a.tdiv b)))
 |.rem=>if b=0 then none else some (.int k (a.tmod b))
 |.and=>some (.int k (k.wrap (BitVec.ofInt k.bits a &&& BitVec.ofInt k.bits b).toNat))
 |.or=>some (.int k (k.wrap (BitVec.ofInt k.bits a |||BitVec.ofInt k.bits b).toNat))
 |.xor=>some (.int k (k.wrap (BitVec.ofInt k.bits a^^^BitVec.ofInt k.bits b).toNat))
 |.andNot=>some (.int k (k.wrap (BitVec.ofInt k.bits a &&& ~~~ (BitVec.ofInt k.bits b)).toNat))
 |.eql=>some (.bool (a==b))
 |.neq=>some (.bool (a !=b))
 |.lss=>some (.bool (decide (a<b)))
 |.leq=>some (.bool (decide (a<=b)))
 |.gtr=>some (.bool (decide (a > b)))
 |.geq=>some (.bool (decide (a>=b)))
 |_=>none
def rr(op:BinOp)(x y:By):Option AV:=
 match op with
 |.add=>if x.length+y.length<2^62 then some (.str (x++y))else none
 |.eql=>some (.bool (x==y))
 |.neq=>some (.bool !(x==y))
 |.lss=>some (.bool (Op.bytesLess x y))
 |.leq=>some (.bool (Op.bytesLess x y||x==y))
 |.gtr=>some (.bool !(Op.bytesLess x y||x==y))
 |.geq=>some (.bool !(Op.bytesLess x y))
 |_=>none
def yc(op:BinOp)(k:IntKind)(a b:Int):Option AV:=
 if b<0 then none
 else match op with
  |.shl=>some (.int k (k.wrap (a*2^(min b.toNat k.bits))))
  |.shr=>some (.int k (a.fdiv (2^(min b.toNat k.bits))))
  |_=>none
def fo:BinOp->Bool
 |.shl=>true
 |.shr=>true
 |_=>false
def eV(op:BinOp):AV->AV->Option AV
 |.int k a,.int k' b=>if fo op then yc op k a b else if k=k' then gj op k a b else none
 |.str a,.str b=>rr op a b
 |_,_=>none
def xW(op:UnOp):AV->Option AV
 |.int k n=>
  match op with
  |.neg=>some (.int k (k.wrap (0-n)))
  |.xor=>gj .xor k (if k.signed then -1 else k.max) n
  |_=>none
 |.bool b=>
  match op with
  |.not=>some (.bool !b)
  |_=>none
 |_=>none
def cX:CK->AV->AV->Option Bool
 |.b,.bool a,.bool b=>some (a==b)
 |.i,.int k a,.int k' b=>if k=k' then some (a==b)else none
 |.s,.str a,.str b=>some (a==b)
 |_,_,_=>none
def dm:List CK->List AV->List AV->Option Bool
 |[],[],[]=>some true
 |k::ks,x::xs,y::ys=>
  match cX k x y with
  |some true=>dm ks xs ys
  |some false=>some false
  |none=>none
 |_,_,_=>none
def zG(ks:List CK):AV->AV->Option Bool
 |.agg xs,.agg ys=>if xs.length=ks.length/\ys.length=ks.length then dm ks xs ys else none
 |_,_=>none
def Qb:AV->AV->Option Bool
 |.af,.af=>some true
 |.af,.slice _ _ _ _=>some false
 |.slice _ _ _ _,.af=>some false
 |_,_=>none
def Qc:AV->AV->Option Bool
 |.nilPtr,.nilPtr=>some true
 |.nilPtr,.ptr _ _=>some false
 |.ptr _ _,.nilPtr=>some false
 |_,_=>none
def Qe:AV->AV->Option Bool
 |.nilFunc,.nilFunc=>some true
 |.nilFunc,.func _ _ _=>some false
 |.func _ _ _,.nilFunc=>some false
 |_,_=>none
def Qd:AV->AV->Option Bool
 |.dz,.dz=>some true
 |.dz,.map _=>some false
 |.map _,.dz=>some false
 |_,_=>none
def mQ(t:Q5)(x y:AV):Option Bool:=
 match t with
 |.one k=>cX k x y
 |.agg ks=>zG ks x y
 |.ES=>Qb x y
 |.ET=>Qc x y
 |.qO=>Qe x y
 |.Mc=>Qd x y
def byteOf:AV->Option UInt8
 |.int .u8 n=>some (UInt8.ofNat n.toNat)
 |_=>none
def cellsIn(es:Nat)(h:ah):AV->Option (List AV×Nat)
 |.af=>some ([],0)
 |.slice b o n es'=>
  if es' =es then
   match h[b]? with
   |some (.cells c _ _)=>if o+n*es<=c.length then some ((c.drop o).take (n*es),n)else none
   |_=>none
  else none
 |.str s=>if es=1 then some (s.map λb=>.int .u8 b.toNat,s.length)else none
 |_=>none
def kJ(k:Aa)(x:AV)(h:ah):Option (AV×ah):=
 match k with
 |.ME k=>
  match x with
  |.int _ n=>some (.int k (k.wrap n),h)
  |_=>none
 |.same=>
  match x with
  |.str s=>some (.str s,h)
  |_=>none
 |.PU k=>
  match x with
  |.int _ n=>some (.xS k (k.nearest n),h)
  |_=>none
 |.P9 k=>
  match x with
  |.xS s b=>
   match (s.decode b).toInt .zero with
   |some n=>if EW s b=false/\k.min<=n/\n<=k.max then some (.int k n,h)else none
   |none=>none
  |_=>none
 |.Qa k=>
  match x with
  |.xS s b=>if s=k then some (.xS k b,h)else none
  |_=>none
 |.vk u=>some (.vk u x,h)
 |.NO=>
  match x with
  |.af=>some (.str [],h)
  |.slice b o n es=>
   match cellsIn 1 h (.slice b o n es)with
   |some (l,_)=>
    match l.mapM byteOf with
    |some r=>some (.str r,h)
    |none=>none
   |none=>none
  |_=>none
 |.OM=>
  match x with
  |.str s=>some (.slice h.length 0 s.length 1,h++[.cells (s.map λb=>.int .u8 b.toNat) true true])
  |_=>none
def dY(n:Nat)(z:List AV):List AV:=(List.replicate n z).flatten
def fi(c:List AV):List (Nat×Nat×AV)->Option (List AV)
 |[]=>some c
 |(off,n,v)::r=>if v.cells.length=n/\off+n<=c.length then fi (gf c off v.cells) r else none
def IC:Option AV->Option Int
 |none=>some 0
 |some (.int _ i)=>some i
 |_=>none
def G5(n:Nat):Option AV->Option Int
 |none=>some n
 |some (.int _ i)=>some i
 |_=>none
def ju(lo hi:Option AV)(n:Nat):Option (Nat×Nat):=
 match IC lo,G5 n hi with
 |some l,some h=>if 0<=l/\l<=h/\h<=n then some (l.toNat,h.toNat)else none
 |_,_=>none
def jO(kk:CK)(k:AV):List (AV×AV)->Option (Option AV)
 |[]=>some none
 |(a,v)::r=>
  match cX kk k a with
  |some true=>some (some v)
  |some false=>jO kk k r
  |none=>none
def pM(kk:CK)(k v:AV):List (AV×AV)->Option (List (AV×AV))
 |[]=>some [(k,v)]
 |(a,u)::r=>
  match cX kk k a with
  |some true=>some ((k,v)::r)
  |some false=>(pM kk k v r).map ((a,u)::·)
  |none=>none
def qx:AV->AV->Option AV
 |.int k a,.int k' b=>if k=k' then some (.int k (if b > a then b else a))else none
 |_,_=>none
def qw:AV->AV->Option AV
 |.int k a,.int k' b=>if k=k' then some (.int k (if b<a then b else a))else none
 |_,_=>none
def iW(f:AV->AV->Option AV):AV->List AV->Option AV
 |x,[]=>some x
 |x,y::r=>
  match f x y with
  |some z=>iW f z r
  |none=>none
def AG(lk:LK)(h:ah):AV->Option Nat
 |.str s=>if lk=.st then some s.length else none
 |.slice _ _ n _=>if lk=.sl then some n else none
 |.af=>if lk=.sl then some 0 else none
 |.map r=>
  match h[r]? with
  |some (.bA es)=>if lk=.mp then some es.length else none
  |_=>none
 |.dz=>if lk=.mp then some 0 else none
 |_=>none
def dI(k:pI)(ρ:c7->AV)(h:ah):Option (AV×ah):=
 match k with
 |.bV x=>some (ρ x,h)
 |.pick c a b=>
  match ρ c with
  |.bool t=>some (if t then ρ a else ρ b,h)
  |_=>none
 |.box x=>if(ρ x).cells.all AV.one then some (.ptr h.length 0,h++[.cells (ρ x).cells true false])else none
 |.mq n x=>if(ρ x).cells.all AV.one=true/\(ρ x).cells.length=n then some (.ptr h.length 0,h++[.cells (ρ x).cells true false])else none
 |.build z ps=>
  match fi z (ps.map λp=>(p.1,p.2.1,ρ p.2.2))with
  |some c=>some (.agg c,h)
  |none=>none
 |.load n a=>
  match ρ a with
  |.ptr b o=>
   match h[b]? with
   |some (.cells c _ _)=>
    match n with
    |none=>
     match c[o]? with
     |some x=>some (x,h)
     |none=>none
    |some n=>if o+n<=c.length then some (.agg ((c.drop o).take n),h)else none
   |_=>none
  |_=>none
 |.store n a x=>
  match ρ a with
  |.ptr b o=>
   match h[b]? with
   |some (.cells c true tl)=>
    if(ρ x).cells.length=n/\(ρ x).cells.all AV.one=true/\o+n<=c.length then some (az,h.set b (.cells (gf c o (ρ x).cells) true tl))else none
   |_=>none
  |_=>none
 |.bS x=>
  match ρ x with
  |.ptr b o=>some (.ptr b o,h)
  |.func (.func f) a c=>some (.func (.func f) a c,h)
  |.func (.yield f) a c=>some (.func (.yield f) a c,h)
  |.func (.methodOf t n) a c=>some (.func (.methodOf t n) a c,h)
  |.func (.via t p f q) a c=>some (.func (.via t p f q) a c,h)
  |_=>none
 |.bin op x y=>
  match eV op (ρ x) (ρ y)with
  |some v=>some (v,h)
  |none=>none
 |.eqv neg t x y=>
  match mQ t (ρ x) (ρ y)with
  |some b=>some (.bool (if neg then !b else b),h)
  |none=>none
 |.un op x=>
  match xW op (ρ x)with
  |some v=>some (v,h)
  |none=>none
 |.conv k x=>kJ k (ρ x) h
 |.uH f a c=>some (.func f (a.map ρ) (c.map ρ),h)
 |.oP=>some (.map h.length,h++[.bA []])
 |.wo es w z l c=>
  match ρ l,ρ c with
  |.int _ l,.int _ c=>
   if 0<=l/\l<=c/\(w:Int)*c<=2^48/\c<2^63 then some (.slice h.length 0 l.toNat es,h++[.cells (dY l.toNat z) true true])else none
  |_,_=>none
 |.sl es x lo hi=>
  match ρ x with
  |.slice b o n es'=>
   if es' =es then
    match ju (lo.map ρ) (hi.map ρ) n with
    |some (l,h')=>some (.slice b (o+l*es) (h'-l) es,h)
    |none=>none
   else none
  |.af=>
   match ju (lo.map ρ) (hi.map ρ) 0 with
   |some _=>some (.af,h)
   |none=>none
  |_=>none
 |.JW x lo hi=>
  match ρ x with
  |.str s=>
   match ju (lo.map ρ) (hi.map ρ) s.length with
   |some (l,h')=>some (.str ((s.drop l).take (h'-l)),h)
   |none=>none
  |_=>none
 |.NK k es x lo hi=>
  match ρ x with
  |.ptr b o=>
   match h[b]? with
   |some (.cells c _ _)=>
    if o+k*es<=c.length then
     match ju (lo.map ρ) (hi.map ρ) k with
     |some (l,h')=>some (.slice b (o+l*es) (h'-l) es,h)
     |none=>none
    else none
   |_=>none
  |_=>none
 |.aP off x=>
  match ρ x with
  |.ptr b o=>some (.ptr b (o+off),h)
  |_=>none
 |.bp es x i=>
  match ρ x,ρ i with
  |.slice b o n es',.int _ i=>if es' =es/\0<=i/\i<n then some (.ptr b (o+i.toNat*es),h)else none
  |_,_=>none
 |.te len es x i=>
  match ρ x,ρ i with
  |.ptr b o,.int _ i=>if 0<=i/\i<len then some (.ptr b (o+i.toNat*es),h)else none
  |_,_=>none
 |.part n off x=>
  match ρ x with
  |.agg cs=>
   match n with
   |none=>
    match cs[off]? with
    |some v=>some (v,h)
    |none=>none
   |some n=>some (.agg ((cs.drop off).take n),h)
  |_=>none
 |.JY len es n x i=>
  match ρ x,ρ i with
  |.agg cs,.int _ i=>
   if 0<=i/\i<len then
    match n with
    |none=>
     match cs[i.toNat*es]? with
     |some v=>some (v,h)
     |none=>none
    |some n=>some (.agg ((cs.drop (i.toNat*es)).take n),h)
   else none
  |_,_=>none
 |.D2 x i=>
  match ρ x,ρ i with
  |.str s,.int _ i=>
   if 0<=i then
    match s[i.toNat]? with
    |some b=>some (.int .u8 b.toNat,h)
    |none=>none
   else none
  |_,_=>none
 |.look kk z ok m k=>
  match ρ m with
  |.dz=>some (if ok then .dW [z,.bool false]else z,h)
  |.map r=>
   match h[r]? with
   |some (.bA es)=>
    match jO kk (ρ k) es with
    |some (some v)=>some (if ok then .dW [v,.bool true]else v,h)
    |some none=>some (if ok then .dW [z,.bool false]else z,h)
    |none=>none
   |_=>none
  |_=>none
 |.gh kk m k x=>
  match ρ m with
  |.map r=>
   match h[r]? with
   |some (.bA es)=>
    match pM kk (ρ k) (ρ x) es with
    |some es'=>some (az,h.set r (.bA es'))
    |none=>none
   |_=>none
  |_=>none
 |.Cr x=>
  match ρ x with
  |.str s=>some (.ptr h.length 0,h++[.iter s 0])
  |_=>none
 |.rR x=>
  match ρ x with
  |.ptr b 0=>
   match h[b]? with
   |some (.iter s pos)=>
    if pos<s.length then
     let d:=Utf8.decode ⟨⟨s⟩⟩ pos
     some (.dW [.bool true,.int .i64 pos,.int .i32 d.1],h.set b (.iter s (pos+d.2)))
    else some (.dW [.bool false],h)
   |_=>none
  |_=>none
 |.ext x i=>
  match ρ x with
  |.dW l=>
   match l[i]? with
   |some v=>some (v,h)
   |none=>none
  |_=>none
 |.len lk x=>
  match AG lk h (ρ x)with
  |some n=>some (.int .i64 n,h)
  |none=>none
 |.AF n=>some (.int .i64 n,h)
 |.zK es x y=>
  match ρ x,cellsIn es h (ρ y)with
  |.slice b o n es',some (ys,k)=>
   if es' =es then
    if min k n=0 then some (.int .i64 0,h)
    else
     match h[b]? with
     |some (.cells c true tl)=>if o+min k n*es<=c.length then some (.int .i64 (min k n:Nat),h.set b (.cells (gf c o (ys.take (min k n*es))) true tl))else none
     |_=>none
   else none
  |.af,some _=>some (.int .i64 0,h)
  |_,_=>none
 |.mx x l=>
  match iW qx (ρ x) (l.map ρ)with
  |some v=>some (v,h)
  |none=>none
 |.mn x l=>
  match iW qw (ρ x) (l.map ρ)with
  |some v=>some (v,h)
  |none=>none
 |_=>none
inductive xQ (es w:Nat) (s y:AV) (h:ah):AV->ah->Prop
 |none (hy:cellsIn es h y=some ([],0)) (hs:s=.af\/∃b o n,s=.slice b o n es):xQ es w s y h s h
 |new (ys:List AV) (k:Nat) (mu:Bool) (hy:cellsIn es h y=some (ys,k)) (hk:0<k) (hb:k*w<=2^46) (hs:s=.af):
   xQ es w s y h (.slice h.length 0 k es) (h++[.cells ys mu true])
 |on (ys:List AV) (k b o n:Nat) (c:List AV) (mu:Bool) (hy:cellsIn es h y=some (ys,k)) (hk:0<k) (hb:(n+k)*w<=2^46) (hs:s=.slice b o n es)
   (hc:h[b]? =some (.cells c mu true)) (hl:o+n*es=c.length):
   xQ es w s y h (.slice h.length 0 (n+k) es) (h.set b (.cells c false false)++[.cells (c.drop o++ys) false true])
 |over (ys:List AV) (k b o n:Nat) (c:List AV) (mu:Bool) (hy:cellsIn es h y=some (ys,k)) (hk:0<k) (hb:(n+k)*w<=2^46) (hs:s=.slice b o n es)
   (hc:h[b]? =some (.cells c true true)) (hl:o+n*es<=c.length):
   xQ es w s y h (.slice h.length 0 (n+k) es) (h.set b .dead++[.cells ((c.drop o).take (n*es)++ys) mu true])
 |full (ys:List AV) (k b o n:Nat) (c:List AV) (hy:cellsIn es h y=some (ys,k)) (hk:0<k) (hb:(n+k)*w<=2^46) (hs:s=.slice b o n es)
   (hc:h[b]? =some (.cells c true false)) (hl:o+n*es=c.length):
   xQ es w s y h (.slice h.length 0 (n+k) es) (h++[.cells (c.drop o++ys) true true])
def wrap64{n}(h0:-9223372036854775808<=n)(h1:n<9223372036854775808):IntKind.i64.wrap n=n:=by
 show(if(true&&decide (n%(18446744073709551616:Int)>=(9223372036854775808:Int)))=true then n%(18446744073709551616:Int)-18446744073709551616 else n%(18446744073709551616:Int))=n;simp only[abu,aaK];split<;>omega
def HL{n}(h0:0<=n)(h1:n<256):IntKind.u8.wrap n=n:=by
 show(if(false&&decide (n%(256:Int)>=(128:Int)))=true then n%(256:Int)-256 else n%(256:Int))=n;exact Kf
def yX{n}(h0:0<=n)(h1:n<18446744073709551616):IntKind.u64.wrap n=n:=by
 show(if(false&&decide (n%(18446744073709551616:Int)>=(9223372036854775808:Int)))=true then n%(18446744073709551616:Int)-18446744073709551616 else n%(18446744073709551616:Int))=n;exact Kf
def fu(P:Program)(m:cj)(h:ah)(w:World)(v:AV)(h':ah)(r:Result Next):Prop:=
 ∃cv w' m',(r=.ok (.value cv) w'\/(r=.ok .skip w'/\cv=undef))/\VR m' v cv/\HR P m' h' w'/\Grow m h w m' h' w'
def fu.same{P m h w v cv r}(hr:HR P m h w)(hv:VR m v cv)(e:r=.ok (.value cv) w):fu P m h w v h r:=
 ⟨cv,w,m,.inl e,hv,hr,Grow.refl m h w hr.cO⟩
def ko(m:cj):VR m az undef:=⟨[],rfl,rfl⟩
theorem wv(m:cj)(n:Nat)(ih:∀v a,mR n v=some a->VR m a v):∀(l:List Value) (r:List AV),l.mapM (mR n)=some r->cL m r l
 |[],r,h=>by simp at h;subst h;exact bG.2 rfl
 |v::l,r,h=>by
  simp only[acw,acb,acB]at h;cases hv:mR n v with
  |none=>simp[hv]at h
  |some a=>
   cases hl:l.mapM (mR n)with
   |none=>simp[hv,hl]at h
   |some r'=>
    simp[hv,hl]at h;subst h;exact aV.2 ⟨v,l,rfl,ih v a hv,wv m n ih l r' hl⟩
def rf(m:cj):∀(n:Nat) (v:Value) (a:AV),mR n v=some a->VR m a v
 | 0,v,a,h=>by simp[mR]at h
 |n+1,v,a,h=>by
  unfold mR at h;split at h
  ·cases h;rfl
  ·cases h;rfl
  ·cases h;exact⟨_,rfl,.inl rfl⟩
  ·cases h;exact⟨_,_,rfl,.inl rfl,.inl rfl⟩
  ·cases h;rfl
  ·cases h;rfl
  ·cases h;rfl
  ·cases h;rfl
  ·cases h;rfl
  ·exact Re
  ·exact Re
  ·cases h
def cp{P}{t:TypeId}{n}(h:eC P t=some n)(w:World):(sizeOf t).run P w=.ok n w:=by
 unfold eC at h;cases hi:P.info? t with
 |none=>simp[hi]at h
 |some i=>simp[hi]at h;subst h;simp[sizeOf,typeInfo,hi]
def mD{P}{t:TypeId}{d:TypeDesc}(h:P.underlying t=some d)(w:World):(isAgg t).run P w=.ok (kf d) w:=by
 cases d<;>simp[isAgg,aas h,kf]
def wk{P}{t:TypeId}{n}(h:Bs P t=some (some n))(w:World):(isAgg t).run P w=.ok true w/\eC P t=some n:=by
 unfold Bs at h;split at h
 case h_2=>cases h
 rename_i d hu;split at h
 case isFalse=>simp at h
 rename_i hd;refine⟨by rw[mD hu,hd],?_⟩;cases hi:P.info? t with
 |none=>simp[hi]at h
 |some i=>simp[hi]at h;simp[eC,hi,h]
def wm{P}{t:TypeId}(h:Bs P t=some none)(w:World):(isAgg t).run P w=.ok false w:=by
 unfold Bs at h;split at h
 case h_2=>cases h
 rename_i d hu;split at h
 case isTrue=>cases hi:P.info? t<;>simp[hi]at h
 rename_i hd;rw[mD hu];simp at hd;rw[hd]
def km{P}{t:TypeId}{z}(h:jU P t=some z)(w:World)(m:cj):∃cz,(zeroValue t).run P w=.ok cz w/\VR m z cz:=by
 unfold jU at h;cases hi:P.info? t with
 |none=>simp[hi]at h
 |some i=>
  cases hz:i.zero with
  |none=>simp[hi,hz]at h
  |some cz=>
   simp[hi,hz]at h;exact⟨cz,by simp[zeroValue,typeInfo,hi,hz],rf m 4 cz z h⟩
section
variable {P:Program}{m:cj}{h h':ah}{w:World}{v:AV}{ρ:c7->AV}{hr:HR P m h w}
def tL(hr:HR P m h w){x cx}(hx:VR m x cx)(h1:x.cells.all AV.one=true)(t:TypeId)(mu tl:Bool):
  ∃m',(newVar t cx).run P w=.ok ⟨w.heap.size,0,none⟩ (w.alloc (.cells cx.cells t))/\VR m' (.ptr h.length 0) (.pointer (some ⟨w.heap.size,0,none⟩))/\
   HR P m' (h++[.cells x.cells mu tl]) (w.alloc (.cells cx.cells t))/\Grow m h w m' (h++[.cells x.cells mu tl]) (w.alloc (.cells cx.cells t)):=by
 obtain⟨m',h0,h2,h3⟩:=mw hr hx.cells h1 t mu tl;refine⟨m',by simp[newVar,newRow],⟨_,h0,rfl⟩,h2,h3⟩
def Cn{t:TypeId}{n a ca}(hn:Bs P t=some n)(hr:HR P m h w)(ha:VR m (ρ a) ca)(hf:dI (.load n a) ρ h=some (v,h')):
  ∃cv,(Instr.loadAt t ca).run P w=.ok cv w/\VR m v cv/\h' =h:=by
 simp only[dI]at hf;split at hf
 case h_2=>cases hf
 rename_i b o hρ;rw[hρ]at ha;obtain⟨e,he,rfl⟩:=ha;split at hf
 case h_2=>cases hf
 rename_i c mu tl hb;cases n with
 |none=>
  simp only at hf;split at hf
  case h_2=>cases hf
  rename_i x hx;cases hf;obtain⟨_,cv,UT,SL⟩:=cell_of hr he hb hx;exact⟨cv,by simp[Instr.loadAt,Instr.sureAddr,loadVar,wm hn,UT],SL,rfl⟩
 |some n=>
  simp only at hf;split at hf
  case isFalse=>cases hf
  rename_i hle;cases hf;obtain⟨hagg,eQ⟩:=wk hn w;obtain⟨vs,SM,TI,_⟩:=nI hr he hb o n hle;exact⟨.agg ⟨vs⟩,by simp[Instr.loadAt,Instr.sureAddr,loadVar,hagg,cp eQ,SM],⟨vs,rfl,TI⟩,rfl⟩
def Ep{t:TypeId}{n a x ca cx}(hn:eC P t=some n)(hr:HR P m h w)(ha:VR m (ρ a) ca)(hx:VR m (ρ x) cx)(hf:dI (.store n a x) ρ h=some (v,h')):
  ∃w',(Instr.storeAt t ca cx).run P w=.ok () w'/\v=az/\HR P m h' w'/\Grow m h w m h' w':=by
 simp only[dI]at hf;split at hf
 case h_2=>cases hf
 rename_i b o hρ;rw[hρ]at ha;obtain⟨e,he,rfl⟩:=ha;split at hf
 case h_2=>cases hf
 rename_i c tl hb;split at hf
 case isFalse=>cases hf
 rename_i hc;cases hf;obtain⟨h1,h2,h3⟩:=hc;have hcl:=hx.cells;obtain⟨w',SM,hr',Tc⟩:=pQ (ρ x).cells cx.cells.toList hr he hb o 0 Om h2 hcl;have hlen:cx.cells.size=n:=by have:=hcl.length;simp at this;omega
 refine⟨w',?_,rfl,hr',Tc⟩;simp only[Instr.storeAt,Instr.sureAddr,storeVar,aat,aaG,aag,cp hn];simp[hlen,SM]
def vL(c:List Value)(o:Nat):List Value->List Value
 |[]=>c
 |x::xs=>vL (c.set o x) (o+1) xs
theorem tC{m}:∀{xs}{vs},cL m xs vs->∀{c}{cv}(o:Nat),cL m c cv->cL m (gf c o xs) (vL cv o vs)
 |[],vs,hx,c,cv,o,hc=>by rw[bG]at hx;subst hx;exact hc
 |x::xs,vs,hx,c,cv,o,hc=>by
  obtain⟨v,vs',rfl,hv,TI⟩:=aV.1 hx;exact tC TI (o+1) (hc.set o hv)
theorem tW(off:Nat):∀(xs:List Value) (k:Nat) (cs:Array Value),(List.foldl (λcs (p:Value×Nat)=>cs.setIfInBounds (off+p.2) p.1) cs (xs.zipIdx k)).toList=vL cs.toList (off+k) xs
 |[],k,cs=>rfl
 |x::xs,k,cs=>by
  simp only[List.zipIdx_cons,ab5,vL];rw[tW off xs (k+1)];simp[Nat.add_assoc]
theorem qY{m}(place:Nat->Option (Nat×Nat)):∀(ps:List (Nat×Value)) (qs:List (Nat×Nat×AV)) (c:List AV) (cc:Array Value) (c':List AV),
  ps.length=qs.length->(∀(i:Nat) p q,ps[i]? =some p->qs[i]? =some q->place p.1=some (q.1,q.2.1)/\VR m q.2.2 p.2)->cL m c cc.toList->fi c qs=some c'->
  ∃Tu,Instr.fill place cc ps=some Tu/\cL m c' Tu.toList
 |[],[],c,cc,c',_,_,hc,hf=>by simp[fi]at hf;subst hf;exact⟨cc,rfl,hc⟩
 |[],q::qs,c,cc,c',hl,_,_,_=>by simp at hl
 |p::ps,[],c,cc,c',hl,_,_,_=>by simp at hl
 |(i,x)::ps,(off,n,y)::qs,c,cc,c',hl,hp,hc,hf=>by
  obtain⟨VW,hxy⟩:=hp 0 (i,x) (off,n,y) Si Si;simp only at VW hxy;simp only[fi]at hf;split at hf
  case isFalse=>cases hf
  rename_i S3;obtain⟨hlen,hle⟩:=S3;have hcells:=hxy.cells;have eQ:x.cells.size=n:=by have:=hcells.length;simp at this;omega
  have Uw:cc.size=c.length:=by have:=hc.length;simpa using this
  have hfold:(x.cells.zipIdx.foldl (λcs (p:Value×Nat)=>cs.setIfInBounds (off+p.2) p.1) cc).toList=vL cc.toList off x.cells.toList:=by
   rw[<-Array.foldl_toList];have:=tW off x.cells.toList 0 cc
   simpa using this
  obtain⟨Tu,h1,h2⟩:=qY place ps qs (gf c off y.cells) (x.cells.zipIdx.foldl (λcs (p:Value×Nat)=>cs.setIfInBounds (off+p.2) p.1) cc) c' (by simpa using hl)
   (λj p q hj hq=>hp (j+1) p q (by simpa using hj) (by simpa using hq)) (by rw[hfold];exact tC hcells off hc) hf
  refine⟨Tu,?_,h2⟩;simp only[Instr.fill,VW];rw[aab (by simp;omega)];exact h1
theorem qL{P}{t:TypeId}:∀{ps}{l},mK P t ps=some l->ps.length=l.length/\
  ∀(i:Nat) p q,ps[i]? =some p->l[i]? =some q->jW P t p.1=some (q.1,q.2.1)/\cU p.2=some q.2.2
 |[],l,h=>by simp[mK]at h;subst h;exact⟨rfl,λi p q hp=>by simp at hp⟩
 |(i,x)::ps,l,h=>by
  simp only[mK]at h;split at h
  case h_2=>cases h
  rename_i off n y r h1 h2 h3;cases h;obtain⟨hl,hp⟩:=qL h3;refine⟨by simp[hl],λj p q hj hq=>?_⟩;cases j with
  |zero=>simp at hj hq;subst hj;subst hq;exact⟨h1,h2⟩
  |succ j=>exact hp j p q (by simpa using hj) (by simpa using hq)
def Dr{t:TypeId}{z:AV}{ps:List (Nat×Value)}{cz:Value}{Tu:Array Value}(hz:(P.info? t).bind (·.zero)=some cz)(hp:oI P t=true)(hf:Instr.fill (jW P t) cz.cells ps=some Tu):
  P.built t ps=some Tu:=by
 unfold Program.built;cases hi:P.info? t with
 |none=>simp[hi]at hz
 |some it=>
  simp[hi]at hz;unfold oI at hp;split at hp
  ·rename_i fs hu;obtain⟨places,hpls⟩:=Option.isSome_iff_exists.1 hp;have VW:jW P t=λi=>places[i]? :=by
    funext i;simp only[jW,hu,hpls]
   rw[VW]at hf;simp only[hu,hz,hpls]
   simpa using hf
  ·rename_i n e hu;obtain⟨ie,hie⟩:=Option.isSome_iff_exists.1 hp;have VW:jW P t=λi=>some (i*ie.size,ie.size):=by
    funext i;simp only[jW,hu,hie];rfl
   rw[VW]at hf;simp only[hu,hz,hie];exact hf
  ·cases hp
def Et{t:TypeId}{z:AV}{ps:Array (Nat×Operand)}{l:List (Nat×Nat×c7)}{σ:Operand->Value}(hz:jU P t=some z)(hl:mK P t ps.toList=some l)(hp:oI P t=true)
  (hρ:∀p∈ps.toList,∀y,cU p.2=some y->VR m (ρ y) (σ p.2)) (hf:dI (.build z.cells l) ρ h=some (v,h')):
  ∃cv,(Instr.build t (ps.map λ(i,x)=>(i,σ x))).run P w=.ok cv w/\VR m v cv/\h' =h:=by
 simp only[dI]at hf;split at hf
 case h_2=>cases hf
 rename_i c hc;cases hf;obtain⟨hlen,hpq⟩:=qL hl;have Zp:∃cz,(P.info? t).bind (·.zero)=some cz/\VR m z cz:=by
  unfold jU at hz;cases hi:P.info? t with
  |none=>simp[hi]at hz
  |some i=>
   cases hzz:i.zero with
   |none=>simp[hi,hzz]at hz
   |some cz=>simp[hi,hzz]at hz;exact⟨cz,by simp[hzz],rf m 4 cz z hz⟩
 obtain⟨cz,VA,We⟩:=Zp;obtain⟨Tu,T8,TI⟩:=qY (m:=m) (jW P t) (ps.toList.map λp=>(p.1,σ p.2)) (l.map λp=>(p.1,p.2.1,ρ p.2.2)) z.cells cz.cells c (by simp[hlen])
  (λi p q YG hq=>by
   simp only[aa7,aav]at YG hq;obtain⟨p0,hp0,rfl⟩:=YG;obtain⟨q0,hq0,rfl⟩:=hq;obtain⟨h1,h2⟩:=hpq i p0 q0 hp0 hq0;exact⟨h1,hρ p0 (aaW hp0) _ h2⟩) We.cells hc
 refine⟨.agg Tu,run_build w t _ Tu ?_,⟨Tu.toList,rfl,TI⟩,rfl⟩;have:=Dr (z:=z) VA hp T8
 simpa using this
def Cm{t:TypeId}{n off l l'}(hn:Bs P t=some n)(hl:cL m l l')
  (hf:(match n with|none=>(match l[off]? with|some v=>some (v,h)|none=>none)|some n=>some (.agg ((l.drop off).take n),h))=some (v,h')):
  ∃cv,(part t ⟨l'⟩ off).run P w=.ok cv w/\VR m v cv/\h' =h:=by
 cases n with
 |none=>
  simp only at hf;split at hf
  case h_2=>cases hf
  rename_i x hx;cases hf;obtain⟨cv,UT,SL⟩:=hl.get hx;exact⟨cv,by simp[part,wm hn,UT],SL,rfl⟩
 |some n=>
  cases hf;obtain⟨h1,h2⟩:=wk hn w;refine⟨.agg ⟨(l'.drop off).take n⟩,?_,⟨_,rfl,(hl.drop off).take n⟩,rfl⟩;simp only[part,aat,h1,aag,aan,cp h2,aaG];simp[List.extract_eq_take_drop]
end
section
variable {P:Program}{m:cj}{h h':ah}{w:World}
def yg{op k a b v}(hs:fo op=false)(hf:gj op k a b=some v)(t:TypeId):
  ∃cv,(binOp op t (.int k a) (.int k b)).run P w=.ok cv w/\VR m v cv:=by
 cases op<;>simp only[gj,fo]at hf hs<;>first
  |(cases hs;done)
  |(cases hf;done)
  |skip
 all_goals first
  |(cases hf;exact⟨_,by simp[binOp,Op.intArith,Op.intBits,Op.intCmp],rfl⟩)
  |(split at hf
    ·cases hf
    ·rename_i hb;cases hf;exact⟨_,by simp[binOp,Op.intDiv,hb],rfl⟩)
def ye{op k k' a b v}(hs:fo op=true)(hf:yc op k a b=some v)(t:TypeId):
  ∃cv,(binOp op t (.int k a) (.int k' b)).run P w=.ok cv w/\VR m v cv:=by
 unfold yc at hf;split at hf
 ·cases hf
 ·rename_i hb;cases op<;>first
   |(cases hs;done)
   |(cases hf;exact⟨_,by simp[binOp,Op.shift,hb],rfl⟩)
def toList_mk(l:By):(⟨⟨l⟩⟩:ByteArray).toList=l:=by rw[ByteArray.toList_eq]
def Bb(a b:By):(⟨⟨a⟩⟩:ByteArray)++⟨⟨b⟩⟩=⟨⟨a++b⟩⟩:=by
 apply ByteArray.ext
 rw[ByteArray.data_append];simp
def yd{op a b v}(hf:rr op a b=some v)(t:TypeId):
  ∃cv,(binOp op t (.string ⟨⟨a⟩⟩) (.string ⟨⟨b⟩⟩)).run P w=.ok cv w/\VR m v cv:=by
 cases op<;>simp only[rr]at hf<;>first
  |(cases hf;done)
  |skip
 all_goals first
  |(cases hf;exact⟨_,by simp[binOp,Op.stringOp,toList_mk],rfl⟩)
  |(split at hf
    ·rename_i hlen;cases hf;refine⟨.string ⟨⟨a++b⟩⟩,?_,rfl⟩;have hn:¬(IntKind.i64.max<(((⟨⟨a⟩⟩:ByteArray).size+(⟨⟨b⟩⟩:ByteArray).size:Nat):Int)):=by
      show ¬((9223372036854775807:Int)<((a.length+b.length:Nat):Int));omega
     simp only[binOp,Op.stringOp,GT.gt,aab hn,Bb,aaG]
    ·cases hf)
def Eu{op x v cx}(hx:VR m x cx)(hf:xW op x=some v):∃cv,(Op.unary op cx).run P w=.ok cv w/\VR m v cv:=by
 cases x with
 |int k n=>
  rw[VR]at hx;subst hx;cases op with
  |neg=>simp only[xW,aaB]at hf;subst hf;exact⟨_,rfl,rfl⟩
  |xor=>simp only[xW,gj,aaB]at hf;subst hf;exact⟨_,rfl,rfl⟩
  |not=>simp[xW]at hf
  |plus=>simp[xW]at hf
 |bool b=>
  rw[VR]at hx;subst hx;cases op<;>simp only[xW]at hf<;>first
   |(cases hf;done)
   |(cases hf;exact⟨_,by simp[Op.unary],rfl⟩)
 |_=>cases op<;>simp[xW]at hf
def rC{t:TypeId}{k}(ht:match k with|.b=>P.underlying t=some .bool|.i=>∃k,P.underlying t=some (.int k)|.s=>P.underlying t=some .string)
  {x y}{cx cy}{b}(hx:VR m x cx) (hy:VR m y cy) (hf:cX k x y=some b) (d:Nat):(Op.equalIn (d+1) t cx cy).run P w=.ok b w:=by
 unfold cX at hf;split at hf
 ·rw[VR]at hx hy;subst hx;subst hy;cases hf;exact run_equalIn_bool' w d t _ _ ht
 ·split at hf
  ·rename_i hk;rw[VR]at hx hy;subst hx;subst hy;subst hk;cases hf;obtain⟨k',hu⟩:=ht;exact run_equalIn_int w d t _ k' _ _ hu
  ·cases hf
 ·rw[VR]at hx hy;subst hx;subst hy;cases hf;rw[run_equalIn_string w d t _ _ ht,toList_mk,toList_mk]
 ·cases hf
theorem jP:∀(ks ks':List CK) (xs ys xs' ys':List AV) (b:Bool),xs.length=ks.length->ys.length=ks.length->dm (ks++ks') (xs++xs') (ys++ys')=some b->
  (∃c,dm ks xs ys=some c/\((c=true/\dm ks' xs' ys' =some b)\/(c=false/\b=false)))
 |[],ks',[],[],xs',ys',b,_,_,h=>⟨true,rfl,.inl ⟨rfl,h⟩⟩
 |k::ks,ks',x::xs,y::ys,xs',ys',b,hx,hy,h=>by
  simp only[abe,dm]at h ⊢;cases hc:cX k x y with
  |none=>simp[hc]at h
  |some c=>
   cases c with
   |false=>simp[hc]at h;subst h;exact⟨false,Si,.inr ⟨rfl,rfl⟩⟩
   |true=>
    simp only[hc]at h;obtain⟨c,h1,h2⟩:=jP ks ks' xs ys xs' ys' b (by simpa using hx) (by simpa using hy) h;exact⟨c,by simpa using h1,h2⟩
 |[],_,_::_,_,_,_,_,h,_,_=>by simp at h
 |[],_,_,_::_,_,_,_,_,h,_=>by simp at h
 |_::_,_,[],_,_,_,_,h,_,_=>by simp at h
 |_::_,_,_,[],_,_,_,_,h,_=>by simp at h
def jo(d:TypeDesc)(l:List Value):Value:=if kf d then .agg ⟨l⟩else l.headD default
def od{t:TypeId}{d:TypeDesc}{n}(hd:P.underlying t=some d)(hn:eC P t=some n)(h1:kf d=false->n=1){l off}(hl:off+n<=l.length):
  (part t ⟨l⟩ off).run P w=.ok (jo d ((l.drop off).take n)) w:=by
 unfold jo;cases ha:kf d with
 |true=>
  simp only[part,aat,mD hd,ha,aag,aan,cp hn,aaG];simp[List.extract_eq_take_drop]
 |false=>
  have:=h1 ha;subst this;have hlt:off<l.length:=Om
  simp only[part,aat,mD hd,ha,aag];have e:(l.drop off).take 1=[l[off]]:=by
   rw[ab1 hlt,abS,List.take_zero]
  simp[e,hlt]
def tX{d}{t:TypeId}{ks}(hf:flat P d t=some ks):∃ds,P.underlying t=some ds/\(kf ds=false->ks.length=1):=by
 cases d with
 |zero=>simp[flat]at hf
 |succ d=>
  unfold flat at hf;split at hf
  ·exact z138
  ·exact z138
  ·exact z138
  ·rename_i hu;exact⟨_,hu,λh=>by cases h⟩
  ·rename_i hu;exact⟨_,hu,λh=>by cases h⟩
  ·cases hf
def qG{t:TypeId}{fs}(hu:P.underlying t=some (.struct fs)):P.fieldsOf t=fs:=by simp[Program.fieldsOf,hu]
def Cq:∀(d:Nat) (t:TypeId) (ks:List CK),flat P d t=some ks->∀(D:Nat),d<=D->∀(ds:TypeDesc),P.underlying t=some ds->
  ∀(xs ys:List AV) (vx vy:List Value) (b:Bool),xs.length=ks.length->ys.length=ks.length->cL m xs vx->cL m ys vy->dm ks xs ys=some b->
  ∀w:World,(Op.equalIn D t (jo ds vx) (jo ds vy)).run P w=.ok b w:=by
 intro d
 induction d with
 |zero=>intro t ks hf;simp[flat]at hf
 |succ d ih=>
  intro t ks hf D hD ds Wl xs ys vx vy b VK VJ hx hy he w;obtain⟨D,rfl⟩:∃D',D=D'+1:=⟨D-1,Om⟩;have hone:∀{k:CK},ks=[k]->kf ds=false->(match k with|.b=>P.underlying t=some .bool|.i=>∃k,P.underlying t=some (.int k)|.s=>P.underlying t=some .string)->(Op.equalIn (D+1) t (jo ds vx) (jo ds vy)).run P w=.ok b w:=by
   intro k hk hd ht;subst hk
   match xs,ys,VK,VJ with
   |[x],[y],_,_=>
    obtain⟨cx,_,rfl,Yg,h2⟩:=aV.1 hx;obtain⟨cy,_,rfl,hcy,h3⟩:=aV.1 hy;rw[bG]at h2 h3;subst h2;subst h3;simp only[dm]at he;have TP:cX k x y=some b:=by
     cases hc:cX k x y with
     |none=>simp[hc]at he
     |some c=>cases c<;>simp[hc]at he<;>simp[he]
    simp only[jo,hd,List.headD_cons,aaU,aal];exact rC ht Yg hcy TP D
  unfold flat at hf;split at hf
  ·exact Ks
  ·rename_i hu;rw[hu]at Wl;cases Wl;cases hf;exact hone rfl rfl ⟨_,hu⟩
  ·exact Ks
  ·rename_i fs hu;rw[hu]at Wl;cases Wl;split at hf
   case isFalse=>cases hf
   rename_i bY;simp only[jo,kf,aan];rw[run_equalIn_struct w D t ⟨vx⟩ ⟨vy⟩ (by rw[qG hu];exact hu) bY,qG hu];have key:∀(fl:List Field) (off:Nat) (ks:List CK) (xs ys:List AV) (b:Bool),w8 P (flat P d) fl off=some ks->xs.length=ks.length->ys.length=ks.length->
     cL m xs (vx.drop off)->cL m ys (vy.drop off)->dm ks xs ys=some b->(Op.eqFields D ⟨vx⟩ ⟨vy⟩ fl).run P w=.ok b w:=by
    intro fl
    induction fl with
    |nil=>
     intro off ks xs ys b Tg VK VJ hx hy he;simp only[w8,aaB]at Tg;subst Tg
     match xs,ys,VK,VJ with
     |[],[],_,_=>cases he;rfl
    |cons f fl ihf=>
     intro off ks xs ys b Tg VK VJ hx hy he;simp only[w8]at Tg;split at Tg
     case h_2=>cases Tg
     rename_i k1 i hk1 hi;split at Tg
     case isFalse=>cases Tg
     rename_i S3;obtain⟨hname,hoff,eQ,hpos⟩:=S3;split at Tg
     case h_2=>cases Tg
     rename_i k2 SK;cases Tg;subst hoff;obtain⟨ds',Vy,h1'⟩:=tX hk1;have Tz:eC P f.type=some k1.length:=by simp[eC,hi,eQ]
     have ZE:xs=xs.take k1.length++xs.drop k1.length:=(abn _ _).symm;have ZD:ys=ys.take k1.length++ys.drop k1.length:=(abn _ _).symm;simp only[Z1]at VK VJ;rw[ZE,ZD]at he;obtain⟨c,hc1,ZT⟩:=jP k1 k2 _ _ _ _ b (by simp;omega) (by simp;omega) he;have VT:f.offset+k1.length<=vx.length:=by have:=hx.length;simp at this;omega
     have hvy:f.offset+k1.length<=vy.length:=by have:=hy.length;simp at this;omega
     simp only[Op.eqFields,aai hname,aat,od Vy Tz (λh=>h1' h) VT,od Vy Tz (λh=>h1' h) hvy,aag];rw[ih f.type k1 hk1 D Om ds' Vy _ _ _ _ c (by simp;omega) (by simp;omega) (hx.take k1.length) (hy.take k1.length) hc1 w];rcases ZT with⟨rfl,hr⟩|⟨rfl,rfl⟩
     ·simp only[aag,aar,aaU,aal];exact ihf (f.offset+k1.length) k2 _ _ b SK (by simp;omega) (by simp;omega) (by have:=hx.drop k1.length;rwa [abB]at this) (by have:=hy.drop k1.length;rwa [abB]at this) hr
     ·simp
   exact key fs.toList 0 ks xs ys b hf VK VJ (by simpa using hx) (by simpa using hy) he
  ·rename_i len e hu;rw[hu]at Wl;cases Wl;split at hf
   case h_2=>cases hf
   rename_i k1 i hk1 hi;split at hf
   case isFalse=>cases hf
   rename_i S3;obtain⟨eQ,hpos⟩:=S3;cases hf;obtain⟨ds',Vy,h1'⟩:=tX hk1;have Tz:eC P e=some k1.length:=by simp[eC,hi,eQ]
   simp only[jo,kf,aan];have key:∀(n j:Nat) (xs ys:List AV) (b:Bool),j+n=len->xs.length=(List.replicate n k1).flatten.length->ys.length=(List.replicate n k1).flatten.length->
     cL m xs (vx.drop (j*k1.length))->cL m ys (vy.drop (j*k1.length))->dm (List.replicate n k1).flatten xs ys=some b->
     (forIn (m:=Sem) (List.range' j n) ((none,()):Option Bool×Unit) λ(i:Nat) (_:Option Bool×Unit)=>do
      let a <-part e ⟨vx⟩ (i*k1.length)
      let c <-part e ⟨vy⟩ (i*k1.length)
      let r <-Op.equalIn D e a c
      if(!r)=true then pure (ForInStep.done (some false,()))else pure (ForInStep.yield (none,()))).run P w=.ok (if b then(none,())else(some false,())) w:=by
    intro n
    induction n with
    |zero=>
     intro j xs ys b _ VK VJ _ _ he;simp only[acy,abW,Z9]at VK VJ he
     match xs,ys,VK,VJ with
     |[],[],_,_=>cases he;rfl
    |succ n ihn=>
     intro j xs ys b hj VK VJ hx hy he;simp only[abE,aa5,Z1]at VK VJ he;have ZE:xs=xs.take k1.length++xs.drop k1.length:=(abn _ _).symm;have ZD:ys=ys.take k1.length++ys.drop k1.length:=(abn _ _).symm;rw[ZE,ZD]at he;obtain⟨c,hc1,ZT⟩:=jP k1 _ _ _ _ _ b (by simp;omega) (by simp;omega) he;have VT:j*k1.length+k1.length<=vx.length:=by have:=hx.length;simp at this;omega
     have hvy:j*k1.length+k1.length<=vy.length:=by have:=hy.length;simp at this;omega
     simp only[List.range'_succ,List.forIn_cons,aat,od Vy Tz (λh=>h1' h) VT,od Vy Tz (λh=>h1' h) hvy,aag];rw[ih e k1 hk1 D Om ds' Vy _ _ _ _ c (by simp;omega) (by simp;omega) (hx.take k1.length) (hy.take k1.length) hc1 w];rcases ZT with⟨rfl,hr⟩|⟨rfl,rfl⟩
     ·simp only[aag,aar,aaU,aal,aaG];exact ihn (j+1) _ _ b Om (by rw[ach];omega) (by rw[ach];omega) (by have:=hx.drop k1.length;rw[abB]at this;rwa [abp]) (by have:=hy.drop k1.length;rw[abB]at this;rwa [abp]) hr
     ·simp
   have hk:=key len 0 xs ys b Om VK VJ (by simpa using hx) (by simpa using hy) he;simp only[Op.equalIn,aat,aas hu,aag,cp Tz,Std.Legacy.Range.forIn_eq_forIn_range',Std.Legacy.Range.size];simp only[Nat.sub_zero,Nat.add_one_sub_one,Nat.div_one];rw[hk];cases b<;>rfl
  ·cases hf
end
def pH(m:cj)(ρ:c7->AV):Option c7->Option Value->Prop
 |none,none=>True
 |some x,some cx=>VR m (ρ x) cx
 |_,_=>False
section
variable {P:Program}{m:cj}{h h':ah}{w:World}{ρ:c7->AV}{v:AV}
def fN{t e:TypeId}{i:TypeInfo}(hs:eG P t=some (e,i)):P.underlying t=some (.slice e)/\P.info? e=some i:=by
 unfold eG at hs;split at hs
 ·rename_i e' hu;cases hi:P.info? e' with
  |none=>simp[hi]at hs
  |some i'=>simp[hi]at hs;obtain⟨rfl,rfl⟩:=hs;exact⟨hu,hi⟩
 ·cases hs
def jT(n:Nat)(z:List AV):(dY n z).length=n*z.length:=by simp[dY]
def tr{z:List AV}{cz:Array Value}(hz:cL m z cz.toList)(hpos:0<z.length)(n k:Nat)(hk:k<=n):
  cL m (dY k z) (((Array.range (n*cz.size)).map (cz[·% cz.size]!)).toList.take (k*z.length)):=by
 have eQ:cz.size=z.length:=by have:=hz.length;simpa using this
 refine cL.iL ?_ ?_
 ·rw[jT];simp[eQ,abR hk]
 ·intro i x hx;have hi:i<k*z.length:=by have:=(Z2.1 hx).1;rw[jT]at this;exact this
  have hmod:i%z.length<z.length:=Nat.mod_lt _ hpos;have SR:(dY k z)[i]? =z[i%z.length]? :=by
   clear hx hk;unfold dY
   induction k generalizing i with
   |zero=>omega
   |succ k ih=>
    rw[abE,aa5];by_cases hlt:i<z.length
    ·rw[Z7 hlt,Nat.mod_eq_of_lt hlt]
    ·rw[aaf Om,ih (i-z.length) (by rw[abp]at hi;omega) (Nat.mod_lt _ hpos)];congr 1;rw[<-Nat.mod_eq_sub_mod Om]
  rw[SR]at hx;obtain⟨y,hy,hr⟩:=hz.get hx;refine⟨y,?_,hr⟩;have hin:i<n*z.length:=aaY hi (abc _ hk);rw[ab4 hi,abv,Array.getElem?_map,Array.getElem?_range,eQ,aai hin];simp only[abT,aaB];rw[getElem!_pos cz _ Om];have:=(Z2.1 hy).2
  simpa using this
def Bx{z}(hz:z.all AV.one=true)(n:Nat):(dY n z).all AV.one=true:=by
 rw[aaE]at hz ⊢;intro x hx;simp only[dY,List.mem_flatten,List.mem_replicate]at hx;obtain⟨l,⟨_,rfl⟩,hx⟩:=hx;exact hz x hx
def H6{t e:TypeId}{i:TypeInfo}{z:AV}{l c:c7}{cl cc:Value}(hs:eG P t=some (e,i))(hz:jU P e=some z)(hpos:0<i.size)(hzl:z.cells.length=i.size)(h1:z.cells.all AV.one=true)
  (hr:HR P m h w) (hl:VR m (ρ l) cl) (hc:VR m (ρ c) cc) (hf:dI (.wo i.size i.bytes z.cells l c) ρ h=some (v,h')):
  ∃cv w' m',(Instr.makeSlice t cl cc).run P w=.ok cv w'/\VR m' v cv/\HR P m' h' w'/\Grow m h w m' h' w':=by
 obtain⟨hu,hi⟩:=fN hs;simp only[dI]at hf;split at hf
 case h_2=>cases hf
 rename_i kl l' kc c' hρl hρc;rw[hρl,VR]at hl;rw[hρc,VR]at hc;subst hl;subst hc;split at hf
 case isFalse=>cases hf
 rename_i S3;obtain⟨h0,hlc,hb,hc63⟩:=S3;cases hf;obtain⟨cz,VA,We⟩:=km hz w m;have hzc:=We.cells;obtain⟨n,rfl⟩:=Int.eq_ofNat_of_zero_le (Int.le_trans h0 hlc);obtain⟨k,rfl⟩:=Int.eq_ofNat_of_zero_le h0;have YJ:k<=n:=Om
 have hwl:IntKind.i64.wrap (k:Int)=k:=wrap64 Om Om;have hwc:IntKind.i64.wrap (n:Int)=n:=wrap64 Om Om;have eQ:cz.cells.size=z.cells.length:=by have:=hzc.length;simpa using this
 let row:Array Value:=(Array.range (n*cz.cells.size)).map (cz.cells[·% cz.cells.size]!)
 have hrow:cL m (dY k z.cells) (row.toList.take (k*z.cells.length)):=tr hzc Om n k YJ;have hrs:row.size=n*i.size:=by simp[row,eQ,hzl]
 let e':tq:=⟨w.heap.size,0,row.size,true⟩
 have YQ:=kL hr (.cells row e) (.cells (dY k z.cells) true true) e' rfl rfl (λm' hm=>by
  refine⟨row,e,(0,0),World.alloc_heap_new w _,⟨?_,?_,rfl⟩,?_,λ_=>⟨rfl,λi _=>by simp⟩,λ_=>⟨rfl,λx=>by cases x⟩⟩
  ·exact KR
  ·exact KR
  ·intro j x hx;obtain⟨y,hy,SL⟩:=hrow.get hx;have hj:j<k*z.cells.length:=by have:=(Z2.1 hx).1;rw[jT]at this;exact this
   rw[ab4 hj]at hy;refine⟨aaE.1 (Bx h1 k) x (aaW hx),y,?_,VR.mono hm _ _ SL⟩;show row[0+j]? =some y;rw[aaP,<-abv];exact hy)
 refine⟨.slice (some ⟨w.heap.size,0,none⟩) k n,w.alloc (.cells row e),m.add h.length e',?_,⟨e',⟨w.heap.size,0,none⟩,n,by simp[cj.add],rfl,YJ,λ_=>rfl,?_⟩,YQ.1,YQ.2⟩
 ·have S0:(sizeOf e).run P w=.ok i.size w:=cp (by simp[eC,hi]) w;have U6:¬((i.bytes:Int)*n > 2^48):=Om
  have Xe:(typeInfo e).run P w=.ok i w:=by simp[typeInfo,hi]
  have XH:¬((n:Int)<0):=Om
  have hk0:¬((k:Int)<0):=Om
  have hkn':¬((k:Int)> (n:Int)):=Om
  simp only[Instr.makeSlice,aat,aas hu,aag,asInt,asIntOf,aaG,Xe,hwl,hwc,XH,hk0,hkn',U6];simp only[aaz,Bool.or_self,aaU,aal,run_askRoom,aag,S0,Int.toNat_natCast,aat,Sem.run_ite,aaG,VA];by_cases Zp:n*i.size=0
  ·simp only[Zp,aan,aag,newRow,run_newObj,aat,aaG];have:row=#[]:=by apply Array.eq_empty_of_size_eq_zero;omega
   have e0:(Array.range 0).map (λx=>(#[] :Array Value)[x%(#[] :Array Value).size]!)=#[]:=Si
   rw[this,e0];rfl
  ·simp only[Zp,aal,aag,newRow,run_newObj,aat,aaG];have:row=(Array.range (n*i.size)).map (cz.cells[·% cz.cells.size]!):=by show(Array.range (n*cz.cells.size)).map _=_;rw[eQ,hzl]
   rw[this];rfl
 ·show 0+0+n*i.size<=row.size;omega
def mL{lo hi}{n l u:Nat}(hb:ju lo hi n=some (l,u)):l<=u/\u<=n/\IC lo=some (l:Int)/\G5 n hi=some (u:Int):=by
 unfold ju at hb;split at hb
 case h_2=>cases hb
 rename_i a b ha hb';split at hb
 case isFalse=>cases hb
 rename_i hc;obtain⟨h0,h1,h2⟩:=hc;simp only[aaB,acq]at hb;obtain⟨rfl,rfl⟩:=hb;exact⟨Om,Om,by rw[ha];congr 1;omega,by rw[hb'];congr 1;omega⟩
def gB{lo hi Wa VG}(hlo:pH m ρ lo Wa)
  (hhi:pH m ρ hi VG) {n l u}(hb:ju (lo.map ρ) (hi.map ρ) n=some (l,u)) (isSlice:Bool) (cap:Nat) (hcap:n<=cap):
  (Instr.sliceBounds isSlice n cap Wa VG none).run P w=.ok (l,u,cap) w:=by
 obtain⟨TO,hun,h1,h2⟩:=mL hb;have hh:∀(x:c7) (cx:Value),VR m (ρ x) cx->G5 n (some (ρ x))=some (u:Int)->∃k,cx=.int k u:=by
  intro x cx hx hu;cases hρ:ρ x<;>simp[G5,hρ]at hu;subst hu;rw[hρ,VR]at hx;exact⟨_,hx⟩
 have hl:∀(x:c7) (cx:Value),VR m (ρ x) cx->IC (some (ρ x))=some (l:Int)->∃k,cx=.int k l:=by
  intro x cx hx hu;cases hρ:ρ x<;>simp[IC,hρ]at hu;subst hu;rw[hρ,VR]at hx;exact⟨_,hx⟩
 have hcu:(u:Int)<=cap:=Om
 have hlu':(l:Int)<=u:=Om
 have hbu:∀(k:IntKind) (code:BoundsCode) (w:World),(Instr.sliceBound (.int k u) cap code).run P w=.ok u w:=by
  intro k code w;simp[Instr.sliceBound,asIntOf,hcu]<;>omega
 have hbl:∀(k:IntKind) (code:BoundsCode) (w:World),(Instr.sliceBound (.int k l) u code).run P w=.ok l w:=by
  intro k code w;simp[Instr.sliceBound,asIntOf]<;>omega
 cases lo with
 |none=>
  cases Wa with
  |some _=>exact hlo.elim
  |none=>
   simp only[aco,IC,aaB]at h1;cases hi with
   |none=>
    cases VG with
    |some _=>exact hhi.elim
    |none=>
     simp only[aco,G5,aaB]at h2;have hn:u=n:=Om
     have Ya:l=0:=Om
     subst hn;subst Ya;simp[Instr.sliceBounds]
   |some y=>
    cases VG with
    |none=>exact hhi.elim
    |some cy=>
     obtain⟨k,rfl⟩:=hh y cy hhi h2;have Ya:l=0:=Om
     subst Ya;simp[Instr.sliceBounds,hbu]
 |some x=>
  cases Wa with
  |none=>exact hlo.elim
  |some cx=>
   obtain⟨kx,rfl⟩:=hl x cx hlo h1;cases hi with
   |none=>
    cases VG with
    |some _=>exact hhi.elim
    |none=>
     simp only[aco,G5,aaB]at h2;have hn:u=n:=Om
     subst hn;simp[Instr.sliceBounds,hbl]
   |some y=>
    cases VG with
    |none=>exact hhi.elim
    |some cy=>
     obtain⟨k,rfl⟩:=hh y cy hhi h2;simp[Instr.sliceBounds,hbu,hbl]
def extract_mk(s:By)(l u:Nat):(⟨⟨s⟩⟩:ByteArray).extract l u=⟨⟨(s.drop l).take (u-l)⟩⟩:=by
 apply ByteArray.ext
 simp[ByteArray.data_extract,List.extract_eq_take_drop]
def OJ{t:TypeId}{es x lo hi cx Wa VG}{e:TypeId}(hu:P.underlying t=some (.slice e))(hes:eC P e=some es)
  (hx:VR m (ρ x) cx) (hlo:pH m ρ lo Wa)
  (hhi:pH m ρ hi VG) (hf:dI (.sl es x lo hi) ρ h=some (v,h')):
  ∃cv,(Instr.sliceAt t cx Wa VG none).run P w=.ok cv w/\VR m v cv/\h' =h:=by
 simp only[dI]at hf;split at hf
 ·rename_i b o n es' hρ;rw[hρ]at hx;obtain⟨en,ca,cap,Ts,rfl,Td,Tt,hroom⟩:=hx;split at hf
  case isFalse=>cases hf
  rename_i hees;subst hees;split at hf
  case h_2=>cases hf
  rename_i l u hb;cases hf;obtain⟨TO,hun,_,_⟩:=mL hb;refine⟨.slice (some (if cap=l then ca else ca.add (l*es'))) (u-l) (cap-l),?_,⟨en,_,cap-l,Ts,rfl,Om,?_,?_⟩,rfl⟩
  ·simp only[Instr.sliceAt,aat,aas hu,aag,Instr.slice,gB hlo hhi hb true cap Td,cp hes,aaG];by_cases hcl:cap=l<;>simp[hcl]
  ·intro hpos;rw[aab Om,Tt Om,iA];simp only[Addr.mk.injEq,acE,and_true];omega
  ·have:cap=l+(cap-l):=Om
   rw[this,acm]at hroom;omega
 ·rename_i hρ;rw[hρ,VR]at hx;subst hx;split at hf
  case h_2=>cases hf
  rename_i p hb;obtain⟨l,u⟩:=p;cases hf;obtain⟨TO,hun,_,_⟩:=mL hb;have Ya:l=0:=Om
  have VI:u=0:=Om
  subst Ya;subst VI;refine⟨.slice none 0 0,?_,rfl,rfl⟩;simp only[Instr.sliceAt,aat,aas hu,aag,Instr.slice,gB hlo hhi hb true 0 (aah _),cp hes,aaG];simp
 ·cases hf
def LB{t:TypeId}{x lo hi cx Wa VG}(hu:P.underlying t=some .string)
  (hx:VR m (ρ x) cx) (hlo:pH m ρ lo Wa)
  (hhi:pH m ρ hi VG) (hf:dI (.JW x lo hi) ρ h=some (v,h')):
  ∃cv,(Instr.sliceAt t cx Wa VG none).run P w=.ok cv w/\VR m v cv/\h' =h:=by
 simp only[dI]at hf;split at hf
 case h_2=>cases hf
 rename_i s hρ;rw[hρ,VR]at hx;subst hx;split at hf
 case h_2=>cases hf
 rename_i l u hb;cases hf;refine⟨.string ((⟨⟨s⟩⟩:ByteArray).extract l u),?_,by rw[extract_mk];rfl,rfl⟩;have hs:(⟨⟨s⟩⟩:ByteArray).size=s.length:=rfl;simp only[Instr.sliceAt,aat,aas hu,aag,Instr.slice];simp[hs,gB hlo hhi hb false s.length (aah _)]
def LC{t:TypeId}{k es x lo hi cx Wa VG}{e:TypeId}(hu:P.underlying t=some (.array k e))(hes:eC P e=some es)(hr:HR P m h w)
  (hx:VR m (ρ x) cx) (hlo:pH m ρ lo Wa)
  (hhi:pH m ρ hi VG) (hf:dI (.NK k es x lo hi) ρ h=some (v,h')):
  ∃cv,(Instr.sliceAt t cx Wa VG none).run P w=.ok cv w/\VR m v cv/\h' =h:=by
 simp only[dI]at hf;split at hf
 case h_2=>cases hf
 rename_i b o hρ;rw[hρ]at hx;obtain⟨en,Ts,rfl⟩:=hx;split at hf
 case h_2=>cases hf
 rename_i c mu tl hbk;split at hf
 case isFalse=>cases hf
 rename_i hle;split at hf
 case h_2=>cases hf
 rename_i l u hb;cases hf;obtain⟨TO,hun,_,_⟩:=mL hb;obtain⟨_,_,_,_,⟨_,eQ⟩,_⟩:=hr.ep b en _ Ts hbk;refine⟨.slice (some (if k=l then⟨en.cb,o+en.d,none⟩else(⟨en.cb,o+en.d,none⟩:Addr).add (l*es))) (u-l) (k-l),?_,⟨en,_,k-l,Ts,rfl,Om,?_,?_⟩,rfl⟩
 ·simp only[Instr.sliceAt,aat,aas hu,aag,Instr.sureAddr,aaG,gB hlo hhi hb false k (aah _),cp hes]
 ·intro hpos;rw[aab Om,iA];simp only[Addr.mk.injEq,acE,and_true];omega
 ·have:k=l+(k-l):=Om
  rw[this,acm]at hle;omega
def rB{a f n}(hn:eC P f.type=some n)(hpos:0<n):(fieldPlace a f).run P w=.ok (a.add f.offset) w:=by
 have:n≠0:=Om
 simp[fieldPlace,cp hn,this]
def Ia{t:TypeId}{i n f x cx}(hfa:fieldAt P t i=some f)(hn:eC P f.type=some n)(hpos:0<n)(hx:VR m (ρ x) cx)(hf:dI (.aP f.offset x) ρ h=some (v,h')):
  ∃cv,(Instr.fieldAt t cx i).run P w=.ok cv w/\VR m v cv/\h' =h:=by
 unfold Abs.fieldAt at hfa;split at hfa
 case h_2=>cases hfa
 rename_i fs hu;simp only[dI]at hf;split at hf
 case h_2=>cases hf
 rename_i b o hρ;cases hf;rw[hρ]at hx;obtain⟨e,he,rfl⟩:=hx;refine⟨_,?_,⟨e,he,rfl⟩,rfl⟩;simp only[Instr.fieldAt,aat,aas hu,aag,hfa,Instr.sureAddr,aaG,rB hn hpos,iA];rw[Nat.add_right_comm]
def H8{t e:TypeId}{es x i cx ci}(hu:P.underlying t=some (.slice e))(hes:eC P e=some es)(hx:VR m (ρ x) cx)(hi:VR m (ρ i) ci)(hf:dI (.bp es x i) ρ h=some (v,h')):
  ∃cv,(Instr.indexAt t cx ci).run P w=.ok cv w/\VR m v cv/\h' =h:=by
 simp only[dI]at hf;split at hf
 case h_2=>cases hf
 rename_i b o n es' k j TG Vl;rw[TG]at hx;rw[Vl,VR]at hi;subst hi;obtain⟨en,ca,cap,Ts,rfl,Td,Tt,hroom⟩:=hx;split at hf
 case isFalse=>cases hf
 rename_i hc;obtain⟨rfl,h0,h1⟩:=hc;cases hf;refine⟨_,?_,⟨en,Ts,rfl⟩,rfl⟩;simp only[Instr.indexAt,asIntOf,aat,aaG,aag,aas hu];rw[aai ⟨h0,h1⟩];simp only[aat,cp hes,aag,aaG,Tt Om,iA];rw[Nat.add_right_comm]
def H9{t e:TypeId}{len es x i cx ci}(hu:P.underlying t=some (.array len e))(hes:eC P e=some es)(hx:VR m (ρ x) cx)(hi:VR m (ρ i) ci)(hf:dI (.te len es x i) ρ h=some (v,h')):
  ∃cv,(Instr.indexAt t cx ci).run P w=.ok cv w/\VR m v cv/\h' =h:=by
 simp only[dI]at hf;split at hf
 case h_2=>cases hf
 rename_i b o k j TG Vl;rw[TG]at hx;rw[Vl,VR]at hi;subst hi;obtain⟨en,Ts,rfl⟩:=hx;split at hf
 case isFalse=>cases hf
 rename_i hc;obtain⟨h0,h1⟩:=hc;cases hf;refine⟨_,?_,⟨en,Ts,rfl⟩,rfl⟩;simp only[Instr.indexAt,asIntOf,aat,aaG,aag,aas hu,Instr.sureAddr];rw[aai ⟨h0,h1⟩];simp only[aat,cp hes,aag,aaG,iA];rw[Nat.add_right_comm]
def Er{t:TypeId}{i f n x cx}(hfa:fieldAt P t i=some f)(hn:Bs P f.type=some n)(hx:VR m (ρ x) cx)(hf:dI (.part n f.offset x) ρ h=some (v,h')):
  ∃cv,(Instr.field t cx i).run P w=.ok cv w/\VR m v cv/\h' =h:=by
 unfold Abs.fieldAt at hfa;split at hfa
 case h_2=>cases hfa
 rename_i fs hu;simp only[dI]at hf;split at hf
 case h_2=>cases hf
 rename_i cs hρ;rw[hρ]at hx;obtain⟨l',rfl,hl⟩:=hx;obtain⟨cv,h1,h2,h3⟩:=Cm (w:=w) hn hl (by cases n<;>exact hf);exact⟨cv,by simp only[Instr.field,aat,aas hu,aag,hfa,asAgg,aaG,h1],h2,h3⟩
def LF{t e:TypeId}{len es n x i cx ci}(hu:P.underlying t=some (.array len e))(hes:eC P e=some es)(hn:Bs P e=some n)(hx:VR m (ρ x) cx)(hi:VR m (ρ i) ci)
  (hf:dI (.JY len es n x i) ρ h=some (v,h')):∃cv,(Instr.index t cx ci).run P w=.ok cv w/\VR m v cv/\h' =h:=by
 simp only[dI]at hf;split at hf
 case h_2=>cases hf
 rename_i cs k j TG Vl;rw[TG]at hx;rw[Vl,VR]at hi;subst hi;obtain⟨l',rfl,hl⟩:=hx;split at hf
 case isFalse=>cases hf
 rename_i hc;obtain⟨cv,h1,h2,h3⟩:=Cm (w:=w) (off:=j.toNat*es) hn hl (by cases n<;>exact hf);refine⟨cv,?_,h2,h3⟩;simp only[Instr.index,asIntOf,aat,aaG,aag,aas hu];rw[aai hc];simp only[aat,cp hes,aag,h1]
def LD{t:TypeId}{x i cx ci}(hu:P.underlying t=some .string)(hx:VR m (ρ x) cx)(hi:VR m (ρ i) ci)
  (hf:dI (.D2 x i) ρ h=some (v,h')):∃cv,(Instr.index t cx ci).run P w=.ok cv w/\VR m v cv/\h' =h:=by
 simp only[dI]at hf;split at hf
 case h_2=>cases hf
 rename_i s k j TG Vl;rw[TG,VR]at hx;rw[Vl,VR]at hi;subst hi;subst hx;split at hf
 case isFalse=>cases hf
 rename_i h0;split at hf
 case h_2=>cases hf
 rename_i b hb;cases hf;refine⟨.int .u8 b.toNat,?_,rfl,rfl⟩;have hb':(⟨⟨s⟩⟩:ByteArray)[j.toNat]? =some b:=by
  show(if h:j.toNat<s.length then some (s[j.toNat])else none)=some b;obtain⟨hlt,he⟩:=Z2.1 hb;rw[dif_pos hlt,he]
 simp only[Instr.index,asIntOf,aat,aaG,aag,aas hu,aai h0,hb']
end
def ak.isObj:ak->Bool
 |.bA _=>true
 |.iter _ _=>true
 |.loop _ _ _ _ _ _=>true
 |_=>false
section
variable {P:Program}{m:cj}{h h':ah}{w:World}{ρ:c7->AV}{v:AV}
def kB(hr:HR P m h w){b e k k' o}(he:m b=some e)(hb:h[b]? =some k)(hk:k.isObj=true)(hk':k'.isObj=true\/k' =.dead)
  (hnew:BR P m (w.putObj e.cb o) e k'):HR P m (h.set b k') (w.putObj e.cb o)/\Grow m h w m (h.set b k') (w.putObj e.cb o):=by
 have hbl:b<h.length:=hr.cO _ _ he;have Xa:k.live=true:=by cases k<;>first|rfl|cases hk
 have hown:e.own=true:=by
  have:=hr.ep b e k he hb;cases k<;>first|exact this.1|(cases hk;done)
 have hother:∀i,i≠e.cb->(w.putObj e.cb o).heap[i]? =w.heap[i]? :=λi hi=>World.putObj_heap_other hi
 have hsep:∀b' e' k2,b'≠b->m b' =some e'->h[b']? =some k2->k2.live=true->e'.cb≠e.cb:=by
  intro b' e' k2 hne TP SK hl hcb;have:=hr.sep b' b e' e k2 k hne TP he SK hb hcb;cases k<;>cases k2<;>first|exact this|(cases hk;done)|(cases hl;done)
 refine⟨⟨?_,?_,?_,hr.gD,λb' e' hb'=>by simpa using hr.lt b' e' hb'⟩,⟨λ_ _=>rfl,Si,?_,?_,Si,rfl,rfl,rfl,?_⟩⟩
 ·intro b' e' hb';simpa using hr.cO b' e' hb'
 ·intro b' e' k2 TP SK;rw[bK h b b' _ hbl]at SK;by_cases hbb:b' =b
  ·subst hbb;rw[aai rfl]at SK;cases SK;rw[he]at TP;cases TP;exact hnew
  ·rw[aab hbb]at SK;have h0:=hr.ep b' e' k2 TP SK;by_cases hl:k2.live=true
   ·exact h0.heap (hother _ (hsep b' e' k2 hbb TP SK hl))
   ·exact z148
 ·intro b1 b2 e1 e2 k1 k2 hne Ug SU hk1 SK hcb;rw[bK h b _ _ hbl]at hk1 SK;by_cases Tm:b1=b
  ·subst Tm;rw[aai rfl]at hk1;cases hk1;rw[aab (λx=>hne x.symm)]at SK;rw[he]at Ug;cases Ug;by_cases hl:k2.live=true
   ·exact absurd hcb.symm (hsep b2 e2 k2 (λx=>hne x.symm) SU SK hl)
   ·cases k2<;>first|(cases k'<;>trivial)|exact absurd rfl hl
  ·rw[aab Tm]at hk1;by_cases Tx:b2=b
   ·subst Tx;rw[aai rfl]at SK;cases SK;rw[he]at SU;cases SU;by_cases hl:k1.live=true
    ·exact absurd hcb (hsep b1 e1 k1 hne Ug hk1 hl)
    ·cases k1<;>first|trivial|exact absurd rfl hl
   ·exact z70
 ·intro b' e' hb' TP;exact absurd (hr.cO _ _ TP) Om
 ·intro b' hb' ht;unfold eZ at ht ⊢;rw[bK h b b' _ hbl]at ht;by_cases hbb:b' =b
  ·subst hbb;rw[aai rfl]at ht;rcases hk' with hk'|hk'
   ·cases k'<;>first|(cases hk';done)|(cases ht;done)
   ·subst hk';cases ht
  ·exact D5
 ·intro i hi hno;exact hother i (λhcb=>hno b e he hown hcb.symm)
def kQ{r o}(ho:w.heap[r]? =some o)(hc:o.isCells=false):(getObj r).run P w=.ok o w:=by
 cases o<;>first|(cases hc;done)|simp[getObj,Sem.run,ho]
def nE{r o o'}(ho:w.heap[r]? =some o)(hc:o.isCells=false):(setObj r o').run P w=.ok () (w.putObj r o'):=by
 cases o<;>first|(cases hc;done)|simp[setObj,Sem.run,ho,World.putObj]
def H4{t:TypeId}{x cx}(hu:P.underlying t=some .string)(hr:HR P m h w)(hx:VR m (ρ x) cx)(hf:dI (.Cr x) ρ h=some (v,h')):
  ∃cv w' m',(Instr.range t cx).run P w=.ok cv w'/\VR m' v cv/\HR P m' h' w'/\Grow m h w m' h' w':=by
 simp only[dI]at hf;split at hf
 case h_2=>cases hf
 rename_i s hρ;rw[hρ,VR]at hx;subst hx;cases hf;have YQ:=kL hr (.stringIter ⟨⟨s⟩⟩ 0) (.iter s 0) ⟨w.heap.size,0,0,true⟩ rfl rfl (λm' _=>⟨rfl,rfl,World.alloc_heap_new w _⟩);exact⟨.pointer (some ⟨w.heap.size,0,none⟩),_,_,by simp[Instr.range,aas hu],⟨⟨w.heap.size,0,0,true⟩,by simp[cj.add],rfl⟩,YQ.1,YQ.2⟩
def Es{t:TypeId}{x cx}(hr:HR P m h w)(hx:VR m (ρ x) cx)(hf:dI (.rR x) ρ h=some (v,h')):
  ∃cv w' m',(Instr.next cx true t).run P w=.ok cv w'/\VR m' v cv/\HR P m' h' w'/\Grow m h w m' h' w':=by
 simp only[dI]at hf;split at hf
 case h_2=>cases hf
 rename_i b hρ;rw[hρ]at hx;obtain⟨e,he,rfl⟩:=hx;split at hf
 case h_2=>cases hf
 rename_i s pos hb;obtain⟨hown,hd0,hheap⟩:=hr.ep b e _ he hb;have hg:=kQ (P:=P) hheap rfl;have eQ:(⟨⟨s⟩⟩:ByteArray).size=s.length:=rfl;split at hf
 ·rename_i hlt;cases hf;have hbl:e.cb<w.heap.size:=(aap.1 hheap).1;obtain⟨h1,h2⟩:=kB hr he hb rfl (k':=.iter s (pos+(Utf8.decode ⟨⟨s⟩⟩ pos).2)) (o:=.stringIter ⟨⟨s⟩⟩ (pos+(Utf8.decode ⟨⟨s⟩⟩ pos).2)) (.inl rfl) ⟨hown,hd0,World.putObj_heap_same hbl⟩;refine⟨.tuple #[.bool true,goInt pos,.int .i32 (Utf8.decode ⟨⟨s⟩⟩ pos).1],_,m,?_,⟨_,rfl,?_⟩,h1,h2⟩
  ·simp[Instr.next,hd0,hg,eQ,hlt,nE hheap rfl]
  ·exact⟨_,_,rfl,rfl,_,_,rfl,rfl,_,_,rfl,rfl,rfl⟩
 ·rename_i hlt;cases hf;refine⟨.tuple #[.bool false],w,m,?_,⟨_,rfl,_,_,rfl,rfl,rfl⟩,hr,Grow.refl m h w hr.cO⟩;simp[Instr.next,hd0,hg,eQ,hlt]
def AH(kk:CK)(d:TypeDesc):Prop:=
 match kk with
 |.b=>d=.bool
 |.i=>∃i,d=.int i
 |.s=>d=.string
def tS{t:TypeId}{kk}(hk:yA P t=some kk):∃d,P.underlying t=some d/\AH kk d:=by
 unfold yA at hk;split at hk
 ·rename_i k hu;cases hk;exact⟨_,hu,k,rfl⟩
 ·rename_i hu;cases hk;exact⟨_,hu,rfl⟩
 ·rename_i hu;cases hk;exact⟨_,hu,rfl⟩
 ·cases hk
def zA{kk}{d:TypeDesc}(hd:AH kk d){k k' ck ck' b}(hk:VR m k ck)(hk':VR m k' ck')(he:cX kk k k' =some b):
  Instr.sameNow d ck ck' =some b:=by
 unfold cX at he;split at he
 ·rw[VR]at hk hk';subst hk;subst hk';cases hd;cases he;rfl
 ·split at he
  ·rename_i hkk;rw[VR]at hk hk';subst hk;subst hk';subst hkk;obtain⟨i,rfl⟩:=hd;cases he;simp[Instr.sameNow]
  ·cases he
 ·rw[VR]at hk hk';subst hk;subst hk';cases hd;cases he;simp[Instr.sameNow,toList_mk,beq_toListBytes]
 ·cases he
def mT(m:cj):List (AV×AV)->List MapEntry->Prop
 |[],l=>l=[]
 |p::r,l=>∃q s,l=q::s/\VR m p.1 q.key/\VR m p.2 q.val/\mT m r s
theorem mT.iL:∀{es}{l},l.length=es.length->(∀(i:Nat) (p:AV×AV),es[i]? =some p->∃q,l[i]? =some q/\VR m p.1 q.key/\VR m p.2 q.val)->mT m es l
 |[],l,hl,_=>aa9.1 (by simpa using hl)
 |p::r,[],hl,_=>by simp at hl
 |p::r,q::s,hl,h=>by
  obtain⟨q',hq,h1,h2⟩:=h 0 p Si;simp at hq;subst hq;exact⟨q,s,rfl,h1,h2,mT.iL (by simpa using hl) λi p hp=>by simpa using h (i+1) p (by simpa using hp)⟩
theorem mT.get:∀{es}{l},mT m es l->l.length=es.length/\∀(i:Nat) (p:AV×AV),es[i]? =some p->∃q,l[i]? =some q/\VR m p.1 q.key/\VR m p.2 q.val
 |[],l,h=>by cases h;exact⟨rfl,λi p hp=>by simp at hp⟩
 |p::r,l,h=>by
  obtain⟨q,s,rfl,h1,h2,h3⟩:=h;obtain⟨hl,hg⟩:=mT.get h3;refine⟨by simp[hl],λi p' hp=>?_⟩;cases i with
  |zero=>simp at hp;subst hp;exact⟨q,Si,h1,h2⟩
  |succ i=>simpa using hg i p' (by simpa using hp)
theorem sE{kk}{d:TypeDesc}(hd:AH kk d){k ck}(hk:VR m k ck):∀{es}{l}{r}(i:Nat),mT m es l->jO kk k es=some r->
  ∃cr,Instr.findNow d ck l i=some cr/\(match r,cr with|none,none=>True|some v,some (_,cv)=>VR m v cv|_,_=>False)
 |[],l,r,i,h,hf=>by cases h;cases hf;exact⟨none,rfl,trivial⟩
 |(a,v)::es,l,r,i,h,hf=>by
  obtain⟨q,s,rfl,h1,h2,h3⟩:=h;simp only[jO]at hf;cases he:cX kk k a with
  |none=>simp[he]at hf
  |some b=>
   have hs:=zA hd hk h1 he;cases b with
   |true=>
    simp[he]at hf;subst hf;exact⟨some (i,q.val),by simp[Instr.findNow,hs],h2⟩
   |false=>
    simp only[he]at hf;obtain⟨cr,hcr,hm⟩:=sE hd hk (i+1) h3 hf;exact⟨cr,by simp[Instr.findNow,hs,hcr],hm⟩
def sX{t:TypeId}{d:TypeDesc}{kk}(hu:P.underlying t=some d)(hd:AH kk d)(b:Bool)(v:Value)(n:Nat):(Instr.checkKey b (n+1) t v).run P w=.ok () w:=by
 cases kk with
 |b=>cases hd;cases v<;>simp[Instr.checkKey,aas hu]
 |i=>obtain⟨i,rfl⟩:=hd;cases v<;>simp[Instr.checkKey,aas hu]
 |s=>cases hd;cases v<;>simp[Instr.checkKey,aas hu]
def run_checkKey{t:TypeId}{d:TypeDesc}{kk}(hu:P.underlying t=some d)(hd:AH kk d)(b:Bool)(v:Value):(Instr.checkKey b 10000 t v).run P w=.ok () w:=sX hu hd b v 9999
def H7{t kt e:TypeId}{kk z ok x k cx ck}(hu:P.underlying t=some (.map kt e))(hkk:yA P kt=some kk)(hz:jU P e=some z)(hr:HR P m h w)(hx:VR m (ρ x) cx)(hk:VR m (ρ k) ck)
  (hf:dI (.look kk z ok x k) ρ h=some (v,h')):∃cv,(Instr.lookup t cx ck ok).run P w=.ok cv w/\VR m v cv/\h' =h:=by
 obtain⟨d,hud,hd⟩:=tS hkk;obtain⟨cz,VA,We⟩:=km hz w m;simp only[dI]at hf;split at hf
 ·rename_i hρ;rw[hρ,VR]at hx;subst hx;cases hf;refine⟨if ok then .tuple #[cz,.bool false]else cz,?_,?_,rfl⟩
  ·simp only[Instr.lookup,aat,aas hu,aag,aaG,run_checkKey hud hd,Instr.findKey,aas hud];simp[Instr.findNow,VA]
  ·exact KC
 ·rename_i r hρ;rw[hρ]at hx;obtain⟨en,Ts,rfl⟩:=hx;split at hf
  case h_2=>cases hf
  rename_i es hb;obtain⟨_,UZ,clock,hheap,hlen,SR⟩:=hr.ep r en _ Ts hb;have T5:mT m es UZ.toList:=mT.iL (by simpa using hlen) (λi p hp=>by obtain⟨q,hq,h1,h2⟩:=SR i p hp;exact⟨q,by simpa using hq,h1,h2⟩);have hg:=kQ (P:=P) hheap rfl;split at hf
  ·rename_i u Vb;cases hf;obtain⟨cr,hcr,hm⟩:=sE hd hk 0 T5 Vb;cases cr with
   |none=>exact hm.elim
   |some p=>
    obtain⟨i,cu⟩:=p;refine⟨if ok then .tuple #[cu,.bool true]else cu,?_,?_,rfl⟩
    ·simp only[Instr.lookup,aat,aas hu,aag,hg,aaG,run_checkKey hud hd,Instr.findKey,aas hud,hcr]
    ·cases ok
     ·exact hm
     ·exact⟨_,rfl,_,_,rfl,hm,_,_,rfl,rfl,rfl⟩
  ·rename_i Vb;cases hf;obtain⟨cr,hcr,hm⟩:=sE hd hk 0 T5 Vb;cases cr with
   |some p=>exact hm.elim
   |none=>
    refine⟨if ok then .tuple #[cz,.bool false]else cz,?_,?_,rfl⟩
    ·simp only[Instr.lookup,aat,aas hu,aag,hg,aaG,run_checkKey hud hd,Instr.findKey,aas hud,hcr,VA]
    ·exact KC
  ·cases hf
 ·cases hf
theorem VR.sameBits{kk k k' ck ck'}(hk:VR m k ck)(hk':VR m k' ck')(he:cX kk k k' =some true)(n:Nat):Instr.sameBits n ck' ck=true:=by
 unfold cX at he;split at he
 ·rw[VR]at hk hk';subst hk;subst hk';simp at he;simp[Instr.sameBits,he]
 ·split at he
  ·rename_i hkk;rw[VR]at hk hk';subst hk;subst hk';subst hkk;simp at he;simp[Instr.sameBits,he]
  ·cases he
 ·rw[VR]at hk hk';subst hk;subst hk';simp at he;subst he;simp[Instr.sameBits,beq_toListBytes]
 ·cases he
theorem y3{kk}{d:TypeDesc}(hd:AH kk d){k x ck cx}(hk:VR m k ck)(hx:VR m x cx)(clock:Nat):∀{es es'}{l}(i:Nat),mT m es l->pM kk k x es=some es'->
  (∃j q,Instr.findNow d ck l i=some (some (i+j,q.val))/\l[j]? =some q/\Instr.sameBits 10000 q.key ck=true/\mT m es' (l.set j {q with key:=ck,val:=cx}))\/
  (Instr.findNow d ck l i=some none/\mT m es' (l++[{key:=ck,val:=cx,born:=clock}]))
 |[],es',l,i,h,hf=>by cases h;cases hf;exact .inr ⟨rfl,_,_,rfl,hk,hx,rfl⟩
 |(a,u)::es,es',l,i,h,hf=>by
  obtain⟨q,s,rfl,h1,h2,h3⟩:=h;simp only[pM]at hf;cases he:cX kk k a with
  |none=>simp[he]at hf
  |some b=>
   have hs:=zA hd hk h1 he;cases b with
   |true=>
    simp[he]at hf;subst hf;exact .inl ⟨0,q,by simp[Instr.findNow,hs],Si,VR.sameBits hk h1 he 10000,_,_,rfl,hk,hx,h3⟩
   |false=>
    simp only[he,aav]at hf;obtain⟨es2,hes2,rfl⟩:=hf;rcases y3 hd hk hx clock (i+1) h3 hes2 with⟨j,q',hj,YF,hb,hr⟩|⟨hj,hr⟩
    ·exact .inl ⟨j+1,q',by simp[Instr.findNow,hs,hj];omega,by simpa using YF,hb,_,_,rfl,h1,h2,hr⟩
    ·exact .inr ⟨by simp[Instr.findNow,hs,hj],_,_,rfl,h1,h2,hr⟩
def H5{t kt e:TypeId}{kk x k u cx ck cu}(hu:P.underlying t=some (.map kt e))(hkk:yA P kt=some kk)(hr:HR P m h w)(hx:VR m (ρ x) cx)(hk:VR m (ρ k) ck)(hv:VR m (ρ u) cu)
  (hf:dI (.gh kk x k u) ρ h=some (v,h')):∃w',(Instr.mapUpdate t cx ck cu).run P w=.ok () w'/\v=az/\HR P m h' w'/\Grow m h w m h' w':=by
 obtain⟨d,hud,hd⟩:=tS hkk;simp only[dI]at hf;split at hf
 case h_2=>cases hf
 rename_i r hρ;rw[hρ]at hx;obtain⟨en,Ts,rfl⟩:=hx;split at hf
 case h_2=>cases hf
 rename_i es hb;split at hf
 case h_2=>cases hf
 rename_i es' hupd;cases hf;obtain⟨hown,UZ,clock,hheap,hlen,SR⟩:=hr.ep r en _ Ts hb;have T5:mT m es UZ.toList:=mT.iL (by simpa using hlen) (λi p hp=>by obtain⟨q,hq,h1,h2⟩:=SR i p hp;exact⟨q,by simpa using hq,h1,h2⟩);have hg:=kQ (P:=P) hheap rfl;have hbl:en.cb<w.heap.size:=(aap.1 hheap).1;have done:∀(ces':Array MapEntry) (c:Nat),mT m es' ces'.toList->HR P m (h.set r (.bA es')) (w.putObj en.cb (.map ces' c))/\Grow m h w m (h.set r (.bA es')) (w.putObj en.cb (.map ces' c)):=by
  intro ces' c Vc;obtain⟨SP,Tc⟩:=Vc.get;exact kB hr Ts hb rfl (.inl rfl) ⟨hown,ces',c,World.putObj_heap_same hbl,by simpa using SP,λi p hp=>by obtain⟨q,hq,h1,h2⟩:=Tc i p hp;exact⟨q,by simpa using hq,h1,h2⟩⟩
 rcases y3 hd hk hv clock 0 T5 hupd with⟨j,q,hj,hq,hbits,Vc⟩|⟨hj,Vc⟩
 ·have YF:UZ[j]? =some q:=by simpa using hq
  obtain⟨h1,h2⟩:=done (UZ.modify j λe=>{e with key:=ck,val:=cu}) clock (by
   have:(UZ.modify j λe=>{e with key:=ck,val:=cu}).toList=UZ.toList.set j {q with key:=ck,val:=cu}:=by
    apply acr
    intro i;rw[abv,Array.getElem?_modify,List.getElem?_set];by_cases hij:j=i
    ·subst hij;obtain⟨hlt,heq⟩:=aap.1 YF;simp[YF,hlt,heq]
    ·simp[hij]
   rw[this];exact Vc)
  refine⟨_,?_,rfl,h1,h2⟩;simp only[Instr.mapUpdate,aat,aas hu,aag,hg,run_checkKey hud hd,Instr.findKey,aas hud,hj,aaG,aaP,YF,abT,acg,Instr.keyThatStays,hbits,aan,nE hheap rfl]
 ·obtain⟨h1,h2⟩:=done (UZ.push {key:=ck,val:=cu,born:=clock}) (clock+1) (by simpa using Vc);refine⟨_,?_,rfl,h1,h2⟩;simp only[Instr.mapUpdate,aat,aas hu,aag,hg,run_checkKey hud hd,Instr.findKey,aas hud,hj,aaG,nE hheap rfl]
end
section
variable {P:Program}{m:cj}{h h':ah}{w:World}{ρ:c7->AV}{v:AV}
theorem nH(m:cj):∀(s:By),cL m (s.map λb=>AV.int .u8 b.toNat) (s.map λb=>Value.int .u8 b.toNat)
 |[]=>bG.2 rfl
 |b::s=>aV.2 ⟨_,_,rfl,rfl,nH m s⟩
def rW(s:By):(s.map λb=>AV.int .u8 b.toNat).all AV.one=true:=by
 rw[aaE];intro x hx;simp only[aaA]at hx;obtain⟨b,_,rfl⟩:=hx;rfl
def cP{es y cy ys k}(hr:HR P m h w)(hy:VR m y cy)(hc:cellsIn es h y=some (ys,k)):
  (Builtin.lenOf cy).run P w=.ok k w/\ys.length=k*es/\ys.all AV.one=true/\
   ∀n,n<=k->∃vs,(Builtin.firstCells es n cy).run P w=.ok ⟨vs⟩ w/\cL m (ys.take (n*es)) vs:=by
 unfold cellsIn at hc;split at hc
 ·rw[VR]at hy;subst hy;cases hc;exact⟨rfl,Si,rfl,λn hn=>⟨[],by simp[Builtin.firstCells],by simp[bG]⟩⟩
 ·rename_i b o n es';obtain⟨e,ca,cap,he,rfl,Td,Tt,hroom⟩:=hy;split at hc
  case isFalse=>cases hc
  rename_i hes;subst hes;split at hc
  case h_2=>cases hc
  rename_i c mu tl hb;split at hc
  case isFalse=>cases hc
  rename_i hle;cases hc;obtain⟨_,_,_,hone⟩:=nI hr he hb o (k*es') hle;refine⟨rfl,by simp;omega,hone,λn hn=>?_⟩;have hmul:n*es'<=k*es':=abc _ hn;by_cases h0:cap=0
  ·have hk0:k=0:=Om
   have XH:n=0:=Om
   subst XH;exact⟨[],by simp[Builtin.firstCells,loadCells,loadCellsFrom],by simp[bG]⟩
  ·rw[Tt Om];obtain⟨vs,SM,TI,_⟩:=nI hr he hb o (n*es') Om;refine⟨vs,by simp[Builtin.firstCells,SM],?_⟩;rw[List.take_take,abR hmul];exact TI
 ·rename_i s;rw[VR]at hy;subst hy;split at hc
  case isFalse=>cases hc
  rename_i hes;subst hes;cases hc;refine⟨rfl,Si,rW s,λn hn=>⟨(s.take n).map λb=>Value.int .u8 b.toNat,?_,?_⟩⟩
  ·simp only[Builtin.firstCells,aaG,extract_mk];simp
  ·rw[acd,<-acC];exact nH m _
 ·cases hc
theorem tw{cb}{el:TypeId}{fz}:∀(vs:List Value) (p j:Nat) (cc:Array Value) (w:World),w.heap[cb]? =some (.cells cc el fz)->p+j+vs.length<=cc.size->
  (∀i,i<cc.size->¬(fz.1<=i/\i<fz.2))->(∀v∈vs,v.oneCell' =true)->
  ∃w' Tu,(storeCells ⟨cb,p,none⟩ vs j).run P w=.ok () w'/\w'.heap[cb]? =some (.cells Tu el fz)/\Tu.size=cc.size/\
   (∀i,Tu[i]? =if p+j<=i/\i<p+j+vs.length then vs[i-(p+j)]? else cc[i]?)/\(∀k,k≠cb->w'.heap[k]? =w.heap[k]?)/\w'.heap.size=w.heap.size/\w'.os=w.os/\w'.output=w.output/\w'.tape=w.tape
 |[],p,j,cc,w,hw,_,_,_=>⟨w,cc,rfl,hw,rfl,λi=>by simp;omega,λ_ _=>rfl,rfl,rfl,rfl,rfl⟩
 |v::vs,p,j,cc,w,hw,hlen,hfz,hone=>by
  simp only[Z5]at hlen;have TE:w.cell? ⟨cb,p+j,none⟩=some (cc[p+j]'Om):=by simp only[World.cell?,hw];exact aaV Om
  have hfr:w.frozen? ⟨cb,p+j,none⟩=false:=o8 hw (hfz _ Om);have WJ:=heap_setCell_same (i:=p+j) hw v;have UI:(cc.setIfInBounds (p+j) v).size=cc.size:=Si
  obtain⟨w',Tu,h1,h2,h3,h4,h5,h6,h7,h8,h9⟩:=tw vs p (j+1) (cc.setIfInBounds (p+j) v) (w.setCell ⟨cb,p+j,none⟩ v) WJ (by rw[UI];omega) (by rw[UI];exact hfz) (λu hu=>hone u (aaH _ hu));refine⟨w',Tu,?_,h2,Om,?_,?_,by simpa using h6,h7,h8,h9⟩
  ·simp only[storeCells,aat];rw[iA,run_store P w _ v .plain (hone v (aaS ..)),TE];simp only[hfr,aaU,aal,aag];exact h1
  ·intro i;rw[h4 i];by_cases hi:i=p+j
   ·subst hi;rw[aab Om,aai (by simp only[Z5];omega)];rw[abm Om];simp
   ·rw[abL (λx=>hi x.symm)];by_cases hin:p+(j+1)<=i/\i<p+(j+1)+vs.length
    ·rw[aai hin,aai (by simp only[Z5];omega)];rw[show i-(p+j)=(i-(p+(j+1)))+1 from by omega];simp
    ·rw[aab hin,aab (by simp only[Z5];omega)]
  ·intro k hk;rw[h5 k hk];exact Go.RowKit.Below.heap_setCell w _ v k hk
def EU(need cap:Nat)(hc:cap<need):Builtin.nextslicecap need cap<=2*need+192:=by
 unfold Builtin.nextslicecap;split
 ·omega
 ·split
  ·omega
  ·have grow:∀(r c:Nat),c<need+(need+768) / 4->Builtin.growBy need r c<=need+(need+768) / 4:=by
    intro r
    induction r with
    |zero=>intro c Wm;simp only[Builtin.growBy];omega
    |succ r ih=>
     intro c Wm;simp only[Builtin.growBy];split
     ·omega
     ·rename_i hlt;have h1:c<need:=Om
      by_cases hh:c+(c+768) / 4<need+(need+768) / 4
      ·exact ih _ hh
      ·have:c+(c+768) / 4<=need+(need+768) / 4:=Om
       have e:c+(c+768) / 4=need+(need+768) / 4:=Om
       rw[e];cases r with
       |zero=>simp[Builtin.growBy]
       |succ r=>simp only[Builtin.growBy];rw[aai Om];exact aah _
   have:=grow 4 cap Om;omega
theorem cL.v8:∀{l}{vs},cL m l vs->l.all AV.one=true->∀v∈vs,v.oneCell' =true
 |[],vs,h,_,v,hv=>by rw[bG]at h;subst h;cases hv
 |x::xs,vs,h,h1,v,hv=>by
  obtain⟨y,ys,rfl,hy,hys⟩:=aV.1 h;simp only[abD,aaD]at h1;rcases aaJ.1 hv with rfl|hv
  ·exact hy.uB h1.1
  ·exact cL.v8 hys h1.2 v hv
def sC(hr:HR P m h w){b o q e c ys mu mu' k0}(he:m b=some e)(hb:h[b]? =some (.cells c mu true))(hoq:o+q<=c.length)
  (hk0:(k0=.cells c false false/\o+q=c.length/\mu' =false)\/(k0=.dead/\mu=true)) {vs}(hys:cL m ys vs) (h1:ys.all AV.one=true) (hroom:o+q+e.d+ys.length<=e.sz) (j:Nat):
  ∃w' m',(storeCells ⟨e.cb,o+e.d+q,none⟩ vs 0).run P w=.ok () w'/\m' h.length=some ⟨e.cb,e.d+o,e.sz,true⟩/\
   HR P m' (h.set b k0++[.cells ((c.drop o).take q++ys) mu' true]) w'/\Grow m h w m' (h.set b k0++[.cells ((c.drop o).take q++ys) mu' true]) w':=by
 have _:=j;obtain⟨cc,el,fz,hw,⟨hle,hle'⟩,SR,hown,hmt⟩:=hr.ep b e _ he hb;have ho:e.own=true:=(hmt (.inr rfl)).1;obtain⟨eQ,hfz⟩:=hown ho;have hlv:=hys.length;obtain⟨w',Tu,SM,hw',SZ,hcc',hoth,Yc,hos,hout,htape⟩:=tw (P:=P) vs (o+e.d+q) 0 cc w hw Om hfz (hys.v8 h1);have hbl:b<h.length:=hr.cO _ _ he
 let e':tq:=⟨e.cb,e.d+o,e.sz,true⟩
 have TR:m h.length=none:=by
  exact ND
 have Vu:m.le (m.add h.length e'):=cj.sN e' TR;have hlen:(h.set b k0).length=h.length:=Si
 have WI:∀b2 e2 k2,b2≠b->m b2=some e2->h[b2]? =some k2->k2.live=true->e2.cb=e.cb->mu=false/\∃c2,k2=.cells c2 false false/\e2.d+c2.length<=e.d+c.length:=by
  intro b2 e2 k2 hne SU SK hl hcb;have:=hr.sep b b2 e e2 _ k2 (λx=>hne x.symm) he SU hb SK hcb.symm;cases k2 with
  |cells c2 mu2 tl2=>
   obtain⟨UE,XJ,ht⟩:=this;obtain⟨ht2,US⟩:=ht rfl;subst XJ;subst ht2;exact⟨UE,c2,rfl,US⟩
  |dead=>cases hl
  |bA _=>exact this.elim
  |iter _ _=>exact this.elim
  |loop _ _ _ _ _ _=>exact this.elim
 have YK:∀i,i<e.d+o+q->Tu[i]? =cc[i]? :=by
  intro i hi;rw[hcc' i,aab Om]
 have hnew:BR P (m.add h.length e') w' e' (.cells ((c.drop o).take q++ys) mu' true):=by
  refine⟨Tu,el,fz,hw',⟨?_,?_,(by rw[SZ,eQ])⟩,?_,λ_=>⟨by rw[SZ,eQ],λi hi=>hfz i Om⟩,λ_=>⟨rfl,λx=>by cases x⟩⟩
  ·show e.d+o+((c.drop o).take q++ys).length<=Tu.size;simp;omega
  ·show e.d+o+((c.drop o).take q++ys).length<=e.sz;simp;omega
  ·intro i x hx;by_cases hi:i<q
   ·rw[Z7 (by simp;omega),ab4 hi,ack]at hx;obtain⟨hone,v,hv,SL⟩:=SR (o+i) x hx;refine⟨hone,v,?_,VR.mono Vu _ _ SL⟩;show Tu[e.d+o+i]? =some v;rw[YK _ Om,show e.d+o+i=e.d+(o+i)from by omega];exact hv
   ·have Wh:((c.drop o).take q).length=q:=by simp;omega
    rw[aaf Om,Wh]at hx;obtain⟨v,hv,SL⟩:=hys.get hx;have hlt:i-q<ys.length:=(Z2.1 hx).1;refine⟨aaE.1 h1 x (aaW hx),v,?_,VR.mono Vu _ _ SL⟩;show Tu[e.d+o+i]? =some v;rw[hcc',aai Om,show e.d+o+i-(o+e.d+q+0)=i-q from by omega];exact hv
 have hbr0:∀b2 e2 k2,m b2=some e2->(h.set b k0)[b2]? =some k2->BR P (m.add h.length e') w' e2 k2:=by
  intro b2 e2 k2 SU SK;rw[bK h b b2 _ hbl]at SK;by_cases hbb:b2=b
  ·subst hbb;rw[aai rfl]at SK;cases SK;rw[he]at SU;cases SU;rcases hk0 with⟨rfl,hcl,_⟩|⟨rfl,_⟩
   ·refine⟨Tu,el,fz,hw',⟨Om,Om⟩,?_,λ_=>⟨by rw[SZ,eQ],λi hi=>hfz i Om⟩,λx=>by rcases x with x|x<;>cases x⟩;intro i x hx;obtain⟨hone,v,hv,SL⟩:=SR i x hx;have hi:i<c.length:=(Z2.1 hx).1;exact z171
   ·trivial
  ·rw[aab hbb]at SK;have h0:=hr.ep b2 e2 k2 SU SK;by_cases hl:k2.live=true
   ·by_cases hcb:e2.cb=e.cb
    ·obtain⟨hmf,c2,rfl,US⟩:=WI b2 e2 k2 hbb SU SK hl hcb;rcases hk0 with⟨_,hcl,_⟩|⟨_,WX⟩
     ·obtain⟨cc2,el2,fz2,hw2,⟨hle2a,hle2b⟩,hget2,hown2,hmt2⟩:=h0;rw[hcb,hw]at hw2;cases hw2;refine⟨Tu,el,fz,by rw[hcb];exact hw',⟨Om,Om⟩,?_,λho2=>by have:=hown2 ho2;exact⟨Om,λi hi=>this.2 i Om⟩,hmt2⟩;intro i x hx;obtain⟨hone,v,hv,SL⟩:=hget2 i x hx;have hi:i<c2.length:=(Z2.1 hx).1;exact z171
     ·rw[hmf]at WX;cases WX
    ·exact(h0.mono Vu).heap (hoth _ hcb)
   ·exact z148
 have hget0:∀b2 k2,b2<h.length->(h.set b k0++[.cells ((c.drop o).take q++ys) mu' true])[b2]? =some k2->(h.set b k0)[b2]? =some k2:=by
  intro b2 k2 hlt SK
  rwa [Z7 Om]at SK
 have hsep1:∀b2 e2 k2,m b2=some e2->(h.set b k0)[b2]? =some k2->e2.cb=e.cb->qo e' e2 (.cells ((c.drop o).take q++ys) mu' true) k2/\qo e2 e' k2 (.cells ((c.drop o).take q++ys) mu' true):=by
  intro b2 e2 k2 SU SK hcb;rw[bK h b b2 _ hbl]at SK;by_cases hbb:b2=b
  ·subst hbb;rw[aai rfl]at SK;cases SK;rw[he]at SU;cases SU;rcases hk0 with⟨rfl,hcl,rfl⟩|⟨rfl,_⟩
   ·refine⟨⟨rfl,rfl,λ_=>⟨rfl,?_⟩⟩,⟨rfl,rfl,λx=>by cases x⟩⟩;show e.d+c.length<=e.d+o+((c.drop o).take q++ys).length;simp;omega
   ·exact⟨trivial,trivial⟩
  ·rw[aab hbb]at SK;by_cases hl:k2.live=true
   ·obtain⟨hmf,c2,rfl,US⟩:=WI b2 e2 k2 hbb SU SK hl hcb;rcases hk0 with⟨_,hcl,rfl⟩|⟨_,WX⟩
    ·refine⟨⟨rfl,rfl,λ_=>⟨rfl,?_⟩⟩,⟨rfl,rfl,λx=>by cases x⟩⟩;show e2.d+c2.length<=e.d+o+((c.drop o).take q++ys).length;simp;omega
    ·rw[hmf]at WX;cases WX
   ·cases k2<;>first|exact⟨trivial,trivial⟩|exact absurd rfl hl
 have hsep2:∀b1 b2 e1 e2 k1 k2,b1≠b2->m b1=some e1->m b2=some e2->(h.set b k0)[b1]? =some k1->(h.set b k0)[b2]? =some k2->e1.cb=e2.cb->qo e1 e2 k1 k2:=by
  intro b1 b2 e1 e2 k1 k2 hne Ug SU hk1 SK hcb;rw[bK h b _ _ hbl]at hk1 SK;by_cases Tm:b1=b
  ·subst Tm;rw[aai rfl]at hk1;cases hk1;rw[aab (λx=>hne x.symm)]at SK;have:=hr.sep b1 b2 e1 e2 _ k2 hne Ug SU hb SK hcb;rcases hk0 with⟨rfl,_⟩|⟨rfl,_⟩
   ·cases k2<;>first|exact⟨rfl,this.2.1,λx=>by cases x⟩|trivial|exact this
   ·trivial
  ·rw[aab Tm]at hk1;by_cases Tx:b2=b
   ·subst Tx;rw[aai rfl]at SK;cases SK;have:=hr.sep b1 b2 e1 e2 k1 _ hne Ug SU hk1 hb hcb;rcases hk0 with⟨rfl,_⟩|⟨rfl,_⟩
    ·cases k1<;>first|exact⟨this.1,rfl,λx=>absurd (this.2.2 x).1 Si⟩|trivial|exact this
    ·cases k1<;>trivial
   ·exact z70
 refine⟨w',m.add h.length e',by simpa using SM,by simp[cj.add,e'],⟨?_,?_,?_,?_,?_⟩,⟨?_,Si,?_,?_,Om,hos,hout,htape,?_⟩⟩
 ·intro b2 e2 Tx;unfold cj.add at Tx;by_cases hx:b2=h.length
  ·subst hx;simp
  ·rw[aab hx]at Tx;have:=hr.cO _ _ Tx;simp;omega
 ·intro b2 e2 k2 SU SK;unfold cj.add at SU;by_cases hx:b2=h.length
  ·subst hx;rw[aai rfl]at SU;cases SU;rw[aaf Om]at SK;simp at SK;subst SK;exact hnew
  ·rw[aab hx]at SU;exact hbr0 b2 e2 k2 SU (hget0 b2 k2 (hr.cO _ _ SU) SK)
 ·intro b1 b2 e1 e2 k1 k2 hne Ug SU hk1 SK hcb;unfold cj.add at Ug SU;by_cases hx1:b1=h.length
  ·subst hx1;rw[aai rfl]at Ug;cases Ug;rw[aab (λx=>hne x.symm)]at SU;rw[aaf Om]at hk1;simp at hk1;subst hk1;exact(hsep1 b2 e2 k2 SU (hget0 b2 k2 (hr.cO _ _ SU) SK) hcb.symm).1
  ·rw[aab hx1]at Ug;have hk1':=hget0 b1 k1 (hr.cO _ _ Ug) hk1;by_cases VS:b2=h.length
   ·subst VS;rw[aai rfl]at SU;cases SU;rw[aaf Om]at SK;simp at SK;subst SK;exact(hsep1 b1 e1 k1 Ug hk1' hcb).2
   ·rw[aab VS]at SU;exact hsep2 b1 b2 e1 e2 k1 k2 hne Ug SU hk1' (hget0 b2 k2 (hr.cO _ _ SU) SK) hcb
 ·intro g hg;obtain⟨x,hx,h2⟩:=hr.gD g hg;exact⟨x,Vu _ _ hx,h2⟩
 ·intro b2 e2 SU;unfold cj.add at SU;by_cases hx:b2=h.length
  ·rw[aai hx]at SU;cases SU;have:=hr.lt _ _ he;show e.cb<_;omega
  ·rw[aab hx]at SU;have:=hr.lt _ _ SU;omega
 ·intro b2 Tx;unfold cj.add;rw[aab Om]
 ·intro b2 e2 Tx SU;unfold cj.add at SU;by_cases hx:b2=h.length
  ·rw[aai hx]at SU;cases SU;refine⟨rfl,.inr ⟨b,e,he,rfl,ho,by simp[eZ,hb],?_⟩⟩;unfold eZ;rw[Z7 Om,bK h b b _ hbl,aai rfl];rcases hk0 with⟨rfl,_⟩|⟨rfl,_⟩<;>rfl
  ·rw[aab hx]at SU;exact absurd (hr.cO _ _ SU) Om
 ·intro b2 Tx ht;unfold eZ at ht ⊢;rw[Z7 Om,bK h b b2 _ hbl]at ht;by_cases hbb:b2=b
  ·subst hbb;rw[aai rfl]at ht;rcases hk0 with⟨rfl,_⟩|⟨rfl,_⟩<;>cases ht
  ·exact D5
 ·intro i hi hno;exact hoth i (λx=>hno b e he ho x.symm)
end
section
variable {P:Program}{m:cj}{h h':ah}{w:World}{ρ:c7->AV}{v:AV}
def yS:ak->ak->Prop
 |.cells c mu tl,k=>k=.dead\/∃mu' tl',k=.cells c mu' tl'/\(mu' =true->mu=true/\(tl' =false->tl=false))/\(tl' =true->tl=true)
 |k,k'=>k' =.dead\/k' =k
def yS.OI{e1 e2 k k' k2}(hw:yS k k')(hs:qo e1 e2 k k2):qo e1 e2 k' k2:=by
 cases k with
 |cells c mu tl=>
  rcases hw with rfl|⟨mu',tl',rfl,hm,ht⟩
  ·trivial
  ·cases k2 with
   |cells c2 mu2 tl2=>
    refine⟨?_,hs.2.1,λx=>hs.2.2 (ht x)⟩;cases mu' with
    |false=>rfl
    |true=>have:=hs.1;rw[(hm rfl).1]at this;cases this
   |_=>first|trivial|exact hs
 |dead=>rcases hw with rfl|rfl<;>trivial
 |bA es=>rcases hw with rfl|rfl<;>first|trivial|exact hs
 |iter s p=>rcases hw with rfl|rfl<;>first|trivial|exact hs
 |loop a b c d e f=>rcases hw with rfl|rfl<;>first|trivial|exact hs
def yS.OH{e1 e2 k k' k1}(hw:yS k k')(hs:qo e1 e2 k1 k):qo e1 e2 k1 k':=by
 cases k with
 |cells c mu tl=>
  rcases hw with rfl|⟨mu',tl',rfl,hm,ht⟩
  ·cases k1<;>trivial
  ·cases k1 with
   |cells c1 mu1 tl1=>
    refine⟨hs.1,?_,λx=>⟨?_,(hs.2.2 x).2⟩⟩
    ·cases mu' with
     |false=>rfl
     |true=>have:=hs.2.1;rw[(hm rfl).1]at this;cases this
    ·cases tl' with
     |false=>rfl
     |true=>have:=(hs.2.2 x).1;rw[ht rfl]at this;cases this
   |_=>first|trivial|exact hs
 |dead=>rcases hw with rfl|rfl<;>cases k1<;>trivial
 |bA es=>rcases hw with rfl|rfl<;>first|exact hs|(cases k1<;>trivial)
 |iter s p=>rcases hw with rfl|rfl<;>first|exact hs|(cases k1<;>trivial)
 |loop a b c d e f=>rcases hw with rfl|rfl<;>first|exact hs|(cases k1<;>trivial)
def yS.br{e k k'}(hw:yS k k')(hb:BR P m w e k):BR P m w e k':=by
 cases k with
 |cells c mu tl=>
  rcases hw with rfl|⟨mu',tl',rfl,hm,ht⟩
  ·trivial
  ·obtain⟨cc,el,fz,h1,h2,h3,h4,h5⟩:=hb;refine⟨cc,el,fz,h1,h2,h3,h4,λx=>⟨(h5 (x.elim (λy=>.inl (hm y).1) (λy=>.inr (ht y)))).1,λy=>?_⟩⟩;rcases x with x|x
   ·exact(h5 (.inl (hm x).1)).2 ((hm x).2 y)
   ·rw[x]at y;cases y
 |dead=>rcases hw with rfl|rfl<;>trivial
 |bA es=>rcases hw with rfl|rfl<;>first|trivial|exact hb
 |iter s p=>rcases hw with rfl|rfl<;>first|trivial|exact hb
 |loop a b c d e f=>rcases hw with rfl|rfl<;>first|trivial|exact hb
def wU(hr:HR P m h w){b k k'}(hb:h[b]? =some k)(hk:yS k k'):HR P m (h.set b k') w/\Grow m h w m (h.set b k') w:=by
 have hbl:b<h.length:=(Z2.1 hb).1;refine⟨⟨?_,?_,?_,hr.gD,hr.lt⟩,⟨λ_ _=>rfl,Si,?_,?_,aah _,rfl,rfl,rfl,λ_ _ _=>rfl⟩⟩
 ·intro b' e' hb';simpa using hr.cO b' e' hb'
 ·intro b' e' k2 TP SK;rw[bK h b b' _ hbl]at SK;by_cases hbb:b' =b
  ·subst hbb;rw[aai rfl]at SK;cases SK;exact hk.br (hr.ep b' e' k TP hb)
  ·rw[aab hbb]at SK;exact hr.ep b' e' k2 TP SK
 ·intro b1 b2 e1 e2 k1 k2 hne Ug SU hk1 SK hcb;rw[bK h b _ _ hbl]at hk1 SK;by_cases Tm:b1=b
  ·subst Tm;rw[aai rfl]at hk1;cases hk1;rw[aab (λx=>hne x.symm)]at SK;exact hk.OI (hr.sep b1 b2 e1 e2 k k2 hne Ug SU hb SK hcb)
  ·rw[aab Tm]at hk1;by_cases Tx:b2=b
   ·subst Tx;rw[aai rfl]at SK;cases SK;exact hk.OH (hr.sep b1 b2 e1 e2 k1 k hne Ug SU hk1 hb hcb)
   ·exact z70
 ·intro b' e' hb' TP;exact absurd (hr.cO _ _ TP) Om
 ·intro b' hb' ht;unfold eZ at ht ⊢;rw[bK h b b' _ hbl]at ht;by_cases hbb:b' =b
  ·subst hbb;rw[aai rfl]at ht;rw[hb];cases k with
   |cells c mu tl=>
    rcases hk with rfl|⟨mu',tl',rfl,_,h2⟩
    ·cases ht
    ·exact h2 ht
   |dead=>rcases hk with rfl|rfl<;>cases ht
   |bA es=>rcases hk with rfl|rfl<;>cases ht
   |iter s p=>rcases hk with rfl|rfl<;>cases ht
   |loop a b c d e f=>rcases hk with rfl|rfl<;>cases ht
  ·exact D5
def kK(hr:HR P m h w){c vs}(hc:cL m c vs)(h1:c.all AV.one=true)(rest:List Value)(el:TypeId)(mu tl:Bool)(hml:mu=true->tl=true):
  ∃m',m' h.length=some ⟨w.heap.size,0,vs.length+rest.length,true⟩/\HR P m' (h++[.cells c mu tl]) (w.alloc (.cells ⟨vs++rest⟩ el))/\Grow m h w m' (h++[.cells c mu tl]) (w.alloc (.cells ⟨vs++rest⟩ el)):=by
 have hl:=hc.length;refine⟨_,by simp[cj.add],kL hr (.cells ⟨vs++rest⟩ el) (.cells c mu tl) ⟨w.heap.size,0,vs.length+rest.length,true⟩ rfl rfl (λm' hm=>?_)⟩;refine⟨⟨vs++rest⟩,el,(0,0),World.alloc_heap_new w _,⟨by simp;omega,by refine⟨?_,Si⟩;show 0+c.length<=vs.length+rest.length;omega⟩,?_,λ_=>⟨Si,λi _=>by simp⟩,λx=>⟨rfl,λy=>by
  rcases x with x|x
  ·rw[hml x]at y;cases y
  ·rw[x]at y;cases y⟩⟩
 intro i x hx;obtain⟨v,hv,SL⟩:=hc.get hx;have hi:i<c.length:=(Z2.1 hx).1;refine⟨aaE.1 h1 x (aaW hx),v,?_,VR.mono hm _ _ SL⟩;show(⟨vs++rest⟩:Array Value)[0+i]? =some v;rw[aaP,abw,Z7 Om];exact hv
def oh{sT xT e:TypeId}{i:TypeInfo}{y ts}(hts0:ts[0]? =some sT)(hts1:ts[1]? =some xT)(hs:eG P sT=some (e,i))(hbytes:0<i.bytes)(hbytes':i.bytes<=2^20)
  {d:TypeDesc}(hud:P.underlying xT=some d) (hdk:∀k,d≠.int k) {cz}(hz:(zeroValue e).run P w.drew=.ok cz w.drew) {base}{n cap k}(hcap:cap<n+k) (hb:(n+k)*i.bytes<=2^46)
  (hlen:(Builtin.lenOf y).run P w=.ok k w) {vo vn}(ho:(Builtin.firstCells i.size n (.slice base n cap)).run P w.drew=.ok ⟨vo⟩ w.drew) (hn:(Builtin.firstCells i.size k y).run P w.drew=.ok ⟨vn⟩ w.drew) (T:TypeId) (eQ:i.size=cz.cells.size):
  ∃newCap rest,n+k<=newCap/\rest.length=(newCap-(n+k))*i.size/\
   (Builtin.append_ ts T #[.slice base n cap,y]).run P w=.ok (.slice (some ⟨w.heap.size,0,none⟩) (n+k) newCap) (w.drew.alloc (.cells ⟨vo++vn++rest⟩ e)):=by
 obtain⟨hu,hi⟩:=fN hs;have WU:=EU (n+k) cap hcap;have hno:¬(Builtin.nextslicecap (n+k) cap*i.bytes > 2^48):=by
  have h1:Builtin.nextslicecap (n+k) cap*i.bytes<=(2*(n+k)+192)*i.bytes:=abc _ WU;have h2:(2*(n+k)+192)*i.bytes=2*((n+k)*i.bytes)+192*i.bytes:=by rw[acm,Nat.mul_assoc]
  omega
 obtain⟨q,hq⟩:∃q:Question,q=.appendCap (n+k) cap e:=⟨_,rfl⟩;obtain⟨nc,WW⟩:∃nc:Nat,nc=q.cut (w.tape w.drawn q):=⟨_,rfl⟩;have XG:n+k<=nc:=by rw[WW,hq];show n+k<=(n+k)+_;omega
 have UL:(match d with|.int _=>true|_=>false)=false:=by
  cases d<;>first|rfl|exact absurd rfl (hdk _)
 have S0:∀w,(sizeOf e).run P w=.ok i.size w:=λw=>cp (by simp[eC,hi]) w
 have Xe:∀w,(typeInfo e).run P w=.ok i w:=λw=>by simp[typeInfo,hi]
 have T6:¬(i.bytes=0):=Om
 have UW:(choose (.appendCap (n+k) cap e)).run P w=.ok nc w.drew:=by
  rw[run_choose,WW,hq];rfl
 refine⟨nc,(Builtin.zeroCells cz.cells (nc-(n+k))).toList,XG,by simp[Builtin.zeroCells,eQ],?_⟩;simp only[Builtin.append_,hts0,hts1,abw,abg,abq,aat,aas hu,aag,S0,aas hud,aaG,UL,
  aaU,aal,hlen,Nat.not_le.2 hcap]
 simp only[Sem.run_ite,aat,Xe,aag,hno,aal,T6,abH,and_false,aaU,UW,run_askRoom,ho,hn,hz,aay,aan,newRow,run_newObj,aaG];have earr:((⟨vo⟩:Array Value)++⟨vn⟩++Builtin.zeroCells cz.cells (nc-(n+k)))=⟨vo++vn++(Builtin.zeroCells cz.cells (nc-(n+k))).toList⟩:=by
  apply acz
  simp
 rw[earr];rfl
def nh{c:List AV}{o q:Nat}(h:o+q=c.length):(c.drop o).take q=c.drop o:=aaM (by simp;omega)
def LI{sT xT e:TypeId}{i:TypeInfo}{ts:Array TypeId}(hts0:ts[0]? =some sT)(hts1:ts[1]? =some xT)(hs:eG P sT=some (e,i))(hspos:0<i.size)(hbytes:0<i.bytes)(hbytes':i.bytes<=2^20)
  {d:TypeDesc}(hud:P.underlying xT=some d) (hdk:∀k,d≠.int k) {z:AV}(hz:i.zero.bind (mR 4)=some z) (hzs:z.cells.length=i.size)
  (hr:HR P m h w) {x y:AV}{cx cy:Value}(hx:VR m x cx) (hy:VR m y cy) (hf:xQ i.size i.bytes x y h v h') (T:TypeId):
  ∃cv w' m',(Builtin.append_ ts T #[cx,cy]).run P w=.ok cv w'/\VR m' v cv/\HR P m' h' w'/\Grow m h w m' h' w':=by
 obtain⟨hu,hi⟩:=fN hs;have hzA:jU P e=some z:=by simp[jU,hi,hz]
 obtain⟨cz,VA,We⟩:=km hzA w.drew m;have XY:i.size=cz.cells.size:=by have:=We.cells.length;simp at this;omega
 have S0:∀w,(sizeOf e).run P w=.ok i.size w:=λw=>cp (by simp[eC,hi]) w
 have UL:(match d with|.int _=>true|_=>false)=false:=by
  cases d<;>first|rfl|exact absurd rfl (hdk _)
 have room:∀{base:Option Addr}{n cap k:Nat}{vn:List Value}{w1:World},n+k<=cap->(Builtin.lenOf cy).run P w=.ok k w->(Builtin.firstCells i.size k cy).run P w=.ok ⟨vn⟩ w->
   (match base with|some a=>(storeCells (a.add (n*i.size)) vn).run P w=.ok () w1|none=>w1=w)->
   (Builtin.append_ ts T #[.slice base n cap,cy]).run P w=.ok (.slice base (n+k) cap) w1:=by
  intro base n cap k vn w1 hle hlen SS bY;cases base with
  |none=>
   subst bY;simp only[Builtin.append_,hts0,hts1,abw,abg,abq,aat,aas hu,aag,S0,aas hud,aaG,UL,
    aaU,aal,hlen,hle,aan,aay,SS]
  |some a=>
   simp only at bY;simp only[Builtin.append_,hts0,hts1,abw,abg,abq,aat,aas hu,aag,S0,aas hud,aaG,UL,
    aaU,aal,hlen,hle,aan,aay,SS,bY]
 cases hf with
 |none Uv Tz=>
  obtain⟨hlen,_,_,SS⟩:=cP hr hy Uv;obtain⟨vn,U3,SL⟩:=SS 0 (aah _);have Zt:vn=[]:=by simp[bG]at SL;exact SL
  subst Zt;rcases Tz with rfl|⟨b,o,n,rfl⟩
  ·rw[VR]at hx;subst hx;exact⟨.slice none 0 0,w,m,room Om hlen U3 rfl,rfl,hr,Grow.refl m h w hr.cO⟩
  ·have hx0:=hx;obtain⟨en,ca,cap,Ts,rfl,Td,Tt,hroom⟩:=hx;exact⟨.slice (some ca) n cap,w,m,room Om hlen U3 (by simp[storeCells]),hx0,hr,Grow.refl m h w hr.cO⟩
 |new ys k mu Uv hk hb Tz=>
  subst Tz;rw[VR]at hx;subst hx;obtain⟨hlen,Uk,hone,_⟩:=cP hr hy Uv;obtain⟨_,_,_,SS⟩:=cP hr.drew hy Uv;obtain⟨vn,U3,SL⟩:=SS k (aah _);rw[aaM Om]at SL;obtain⟨nc,rest,XG,TQ,SM⟩:=oh (n:=0) (cap:=0) (base:=none) (vo:=[]) hts0 hts1 hs hbytes hbytes' hud hdk VA Om (by rw[aaP];exact hb) hlen (by simp[Builtin.firstCells]) U3 T XY;obtain⟨m',h0,h1,h2⟩:=kK hr.drew SL hone rest e mu true (λ_=>rfl);have Ty:=SL.length;refine⟨_,_,m',SM,⟨_,_,nc,h0,by rw[aaP];rfl,Om,λ_=>rfl,?_⟩,by simpa using h1,by simpa using h2.Di⟩;show 0+0+nc*i.size<=vn.length+rest.length;rw[TQ,Ty,Uk];have:nc*i.size=k*i.size+(nc-(0+k))*i.size:=by rw[<-acm];congr 1;omega
  omega
 |on ys k b o n c mu Uv hk hb Tz hc hl=>
  subst Tz;obtain⟨en,ca,cap,Ts,rfl,Td,Tt,hroom⟩:=hx;obtain⟨hlen,Uk,hone,SS⟩:=cP hr hy Uv;have XD:cellsIn i.size h (.slice b o n i.size)=some ((c.drop o).take (n*i.size),n):=by simp[cellsIn,hc];omega
  have hdt:=nh hl;by_cases Xi:n+k<=cap
  ·obtain⟨vn,U3,SL⟩:=SS k (aah _);rw[aaM Om]at SL;have Xl:=Tt Om;have hr1:(n+k)*i.size<=cap*i.size:=abc _ Xi;rw[acm]at hr1;obtain⟨w',m',h0,h1,h2,h3⟩:=sC (mu':=false) (k0:=.cells c false false) (q:=n*i.size) hr Ts hc Om (.inl ⟨rfl,hl,rfl⟩) SL hone Om 0;rw[hdt]at h2 h3;exact Rt
  ·obtain⟨_,_,_,hfo⟩:=cP hr.drew (y:=.slice b o n i.size) ⟨en,ca,cap,Ts,rfl,Td,Tt,hroom⟩ XD;obtain⟨vo,hvo,Ul⟩:=hfo n (aah _);obtain⟨_,_,Uq,_⟩:=cP hr (y:=.slice b o n i.size) ⟨en,ca,cap,Ts,rfl,Td,Tt,hroom⟩ XD;obtain⟨_,_,_,TX⟩:=cP hr.drew hy Uv;obtain⟨vn,U3,SL⟩:=TX k (aah _);rw[aaM Om]at SL;rw[aaM (by simp;omega),hdt]at Ul;rw[hdt]at Uq;obtain⟨nc,rest,XG,TQ,SM⟩:=oh hts0 hts1 hs hbytes hbytes' hud hdk VA Om hb hlen hvo U3 T XY;obtain⟨g1,g2⟩:=wU (k':=.cells c false false) hr hc (.inr ⟨false,false,rfl,λx=>(by cases x),λx=>(by cases x)⟩);obtain⟨m',h0,h1,h2⟩:=kK g1.drew (Ul.append SL) (by simp[Uq,hone]) rest e false true (λ_=>rfl)
   have S2:(h.set b (.cells c false false)).length=h.length:=Si
   rw[S2]at h0;have Ty:=SL.length;have Zr:=Ul.length;refine⟨_,_,m',SM,⟨_,_,nc,h0,rfl,XG,λ_=>rfl,?_⟩,h1,(g2.drew.trans h2 hr.cO)⟩;exact N6
 |over ys k b o n c mu Uv hk hb Tz hc hl=>
  subst Tz;obtain⟨en,ca,cap,Ts,rfl,Td,Tt,hroom⟩:=hx;obtain⟨hlen,Uk,hone,SS⟩:=cP hr hy Uv;have XD:cellsIn i.size h (.slice b o n i.size)=some ((c.drop o).take (n*i.size),n):=by simp[cellsIn,hc];omega
  by_cases Xi:n+k<=cap
  ·obtain⟨vn,U3,SL⟩:=SS k (aah _);rw[aaM Om]at SL;have Xl:=Tt Om;have hr1:(n+k)*i.size<=cap*i.size:=abc _ Xi;rw[acm]at hr1;obtain⟨w',m',h0,h1,h2,h3⟩:=sC (mu':=mu) (k0:=.dead) (q:=n*i.size) hr Ts hc Om (.inr ⟨rfl,rfl⟩) SL hone Om 0;exact Rt
  ·obtain⟨_,_,_,hfo⟩:=cP hr.drew (y:=.slice b o n i.size) ⟨en,ca,cap,Ts,rfl,Td,Tt,hroom⟩ XD;obtain⟨vo,hvo,Ul⟩:=hfo n (aah _);obtain⟨_,_,Uq,_⟩:=cP hr (y:=.slice b o n i.size) ⟨en,ca,cap,Ts,rfl,Td,Tt,hroom⟩ XD;obtain⟨_,_,_,TX⟩:=cP hr.drew hy Uv;obtain⟨vn,U3,SL⟩:=TX k (aah _);rw[aaM Om]at SL;rw[aaM (by simp;omega)]at Ul;obtain⟨nc,rest,XG,TQ,SM⟩:=oh hts0 hts1 hs hbytes hbytes' hud hdk VA Om hb hlen hvo U3 T XY;obtain⟨g1,g2⟩:=wU (k':=.dead) hr hc (.inl rfl);obtain⟨m',h0,h1,h2⟩:=kK g1.drew (Ul.append SL) (by rw[List.all_append,Uq,hone];rfl) rest e mu true (λ_=>rfl);have S2:(h.set b .dead).length=h.length:=Si
   rw[S2]at h0;have Ty:=SL.length;have Zr:=Ul.length;refine⟨_,_,m',SM,⟨_,_,nc,h0,rfl,XG,λ_=>rfl,?_⟩,h1,(g2.drew.trans h2 hr.cO)⟩;exact N6
 |full ys k b o n c Uv hk hb Tz hc hl=>
  subst Tz;obtain⟨en,ca,cap,Ts,rfl,Td,Tt,hroom⟩:=hx;obtain⟨hlen,Uk,hone,SS⟩:=cP hr hy Uv;have XD:cellsIn i.size h (.slice b o n i.size)=some ((c.drop o).take (n*i.size),n):=by simp[cellsIn,hc];omega
  have hdt:=nh hl;have hfull:cap<=n:=by
   obtain⟨_,_,_,_,_,_,_,hex⟩:=hr.ep b en _ Ts hc;have he:=(hex (.inl rfl)).2 rfl;by_cases hle:cap<=n
   ·exact hle
   ·have h2:(n+1)*i.size<=cap*i.size:=abc _ Om;rw[abp]at h2;omega
  obtain⟨_,_,_,hfo⟩:=cP hr.drew (y:=.slice b o n i.size) ⟨en,ca,cap,Ts,rfl,Td,Tt,hroom⟩ XD;obtain⟨vo,hvo,Ul⟩:=hfo n (aah _);obtain⟨_,_,Uq,_⟩:=cP hr (y:=.slice b o n i.size) ⟨en,ca,cap,Ts,rfl,Td,Tt,hroom⟩ XD;obtain⟨_,_,_,TX⟩:=cP hr.drew hy Uv;obtain⟨vn,U3,SL⟩:=TX k (aah _);rw[aaM Om]at SL;rw[aaM (by simp;omega),hdt]at Ul;rw[hdt]at Uq;obtain⟨nc,rest,XG,TQ,SM⟩:=oh hts0 hts1 hs hbytes hbytes' hud hdk VA Om hb hlen hvo U3 T XY;obtain⟨m',h0,h1,h2⟩:=kK hr.drew (Ul.append SL) (by simp[Uq,hone]) rest e true true (λ_=>rfl);have Ty:=SL.length;have Zr:=Ul.length;refine⟨_,_,m',SM,⟨_,_,nc,h0,rfl,XG,λ_=>rfl,?_⟩,h1,h2.Di⟩
  exact N6
def Ej(n es cap:Nat)(h:n<=cap):n*es<=cap*es:=abc _ h
def LG{dT e:TypeId}{i:TypeInfo}{ts}(hts0:ts[0]? =some dT)(hs:eG P dT=some (e,i))(hspos:0<i.size)
  (hr:HR P m h w) {x y}{cx cy}(hx:VR m (ρ x) cx) (hy:VR m (ρ y) cy) (hf:dI (.zK i.size x y) ρ h=some (v,h')) (T:TypeId):
  ∃cv w' m',(Builtin.copy_ ts T #[cx,cy]).run P w=.ok cv w'/\VR m' v cv/\HR P m' h' w'/\Grow m h w m' h' w':=by
 obtain⟨hu,hi⟩:=fN hs;have S0:∀w,(sizeOf e).run P w=.ok i.size w:=λw=>cp (by simp[eC,hi]) w
 simp only[dI]at hf;split at hf
 ·rename_i b o n es' ys k TG Uv;rw[TG]at hx;obtain⟨en,ca,cap,Ts,rfl,Td,Tt,hroom⟩:=hx;obtain⟨hlen,Uk,hone,SS⟩:=cP hr hy Uv;obtain⟨vn,U3,SL⟩:=SS (min k n) (Nat.min_le_left _ _);split at hf
  case isFalse=>cases hf
  rename_i hes;subst hes;have VX:Nat.min k n=min k n:=rfl;split at hf
  ·rename_i h0;cases hf;have Zt:vn=[]:=by rw[h0]at SL;simp[bG]at SL;exact SL
   subst Zt;refine⟨.int .i64 0,w,m,?_,rfl,hr,Grow.refl m h w hr.cO⟩;simp only[Builtin.copy_,hts0,abw,abg,abq,aat,aas hu,aag,hlen,S0,VX,U3,aaG,storeCells];simp[goInt,h0]
  ·rename_i h0;split at hf
   case h_2=>cases hf
   rename_i c tl hb;split at hf
   case isFalse=>cases hf
   rename_i hle;cases hf;have VQ:(ys.take (min k n*i.size)).all AV.one=true:=by
    rw[aaE]at hone ⊢
    exactλa ha=>hone a (aa4 ha)
   have X9:(ys.take (min k n*i.size)).length=min k n*i.size:=by
    have:=Ej (min k n) i.size k (Nat.min_le_left _ _);simp;omega
   obtain⟨w',bY,h1,h2⟩:=pQ (ys.take (min k n*i.size)) vn hr Ts hb o 0 Om VQ SL;refine⟨.int .i64 (min k n:Nat),w',m,?_,rfl,h1,h2⟩;have Xl:=Tt Om;subst Xl;simp only[Builtin.copy_,hts0,abw,abg,abq,aat,aas hu,aag,hlen,S0,VX,U3,aaG,bY,goInt]
 ·rename_i TG Uv;rename_i p;obtain⟨ys,k⟩:=p;rw[TG,VR]at hx;subst hx;cases hf;obtain⟨hlen,Uk,hone,SS⟩:=cP hr hy Uv;obtain⟨vn,U3,SL⟩:=SS 0 (aaC _);have VX:Nat.min k 0=0:=Nat.min_zero k;refine⟨.int .i64 0,w,m,?_,rfl,hr,Grow.refl m h w hr.cO⟩;simp only[Builtin.copy_,hts0,abw,abg,abq,aat,aas hu,aag,hlen,S0,VX,U3,aaG,goInt];rfl
 ·cases hf
end
section
variable {P:Program}{m:cj}{h h':ah}{w:World}{ρ:c7->AV}{v:AV}
theorem xF:∀{l}{vs}{bs},cL m l vs->l.mapM byteOf=some bs->
  ∀(acc:ByteArray),(forIn (m:=Sem) vs acc λc s=>
    match c with
    |.int .u8 n=>pure (ForInStep.yield (s.push (UInt8.ofNat n.toNat)))
    |_=>do
     (stuck "bytesToString: byte expected" :Sem PUnit)
     pure (ForInStep.yield s)).run P w=.ok ⟨⟨acc.data.toList++bs⟩⟩ w
 |[],vs,bs,hv,hb,acc=>by
  rw[bG]at hv;subst hv;simp at hb;subst hb;simp
 |x::xs,vs,bs,hv,hb,acc=>by
  obtain⟨y,ys,rfl,hy,hys⟩:=aV.1 hv;simp only[acw,acb,acB]at hb;cases hx:byteOf x with
  |none=>simp[hx]at hb
  |some b=>
   cases hl:xs.mapM byteOf with
   |none=>simp[hx,hl]at hb
   |some bs'=>
    simp[hx,hl]at hb;subst hb;unfold byteOf at hx;split at hx
    case h_2=>cases hx
    rename_i n;cases hx;rw[VR]at hy;subst hy;have:=xF hys hl (acc.push (UInt8.ofNat n.toNat));simp only[List.forIn_cons,aat,aaG,aag];rw[this];simp[ByteArray.push]
def zB{e:TypeId}(h:Fa P e=true):P.underlying e=some (.int .u8):=by
 unfold Fa at h;split at h
 ·assumption
 ·cases h
def Ib{s d:TypeId}{k x cx}(hk:Dm P s d=some k)(hr:HR P m h w)(hx:VR m (ρ x) cx)(hf:dI (.conv k x) ρ h=some (v,h')):
  ∃cv w' m',(convert s d cx).run P w=.ok cv w'/\VR m' v cv/\HR P m' h' w'/\Grow m h w m' h' w':=by
 simp only[dI]at hf;have same:∀{cv:Value},(convert s d cx).run P w=.ok cv w->VR m v cv->h' =h->∃cv w' m',(convert s d cx).run P w=.ok cv w'/\VR m' v cv/\HR P m' h' w'/\Grow m h w m' h' w':=by
  intro cv h1 h2 h3;exact Ki
 unfold Dm at hk;split at hk
 ·rename_i k1 k2 hs hd;cases hk;simp only[kJ]at hf;split at hf
  case h_2=>cases hf
  rename_i hρ;rw[hρ,VR]at hx;subst hx;cases hf;exact same (by simp[convert,aas hs,aas hd,Conv.intToInt]) rfl rfl
 ·rename_i k1 k2 hs hd;cases hk;simp only[kJ]at hf;split at hf
  case h_2=>cases hf
  rename_i hρ;rw[hρ,VR]at hx;subst hx;cases hf;exact same (by simp[convert,aas hs,aas hd,Conv.intToFloat]) ⟨_,rfl,.inl rfl⟩ rfl
 ·rename_i k1 k2 hs hd;cases hk;simp only[kJ]at hf;split at hf
  case h_2=>cases hf
  rename_i sk b hρ;rw[hρ]at hx;obtain⟨b',rfl,hfr⟩:=hx;split at hf
  case h_2=>cases hf
  rename_i n hn;split at hf
  case isFalse=>cases hf
  rename_i hc;cases hf;have hbb:b' =b:=by
   rcases hfr with h1|⟨h1,_⟩
   ·exact h1
   ·rw[hc.1]at h1;cases h1
  subst hbb;exact same (by simp[convert,aas hs,aas hd,Conv.floatToInt,hn,hc.2]) rfl rfl
 ·rename_i k1 k2 hs hd;cases hk;simp only[kJ]at hf;split at hf
  case h_2=>cases hf
  rename_i sk b hρ;rw[hρ]at hx;obtain⟨b',rfl,hfr⟩:=hx;split at hf
  case isFalse=>cases hf
  rename_i hc;cases hf;subst hc;exact same (by simp[convert,aas hs,aas hd,Conv.floatToFloat]) ⟨_,rfl,hfr⟩ rfl
 ·rename_i hs hd;cases hk;simp only[kJ]at hf;split at hf
  case h_2=>cases hf
  rename_i hρ;rw[hρ,VR]at hx;subst hx;cases hf;exact same (by simp[convert,aas hs,aas hd]) rfl rfl
 ·rename_i e hs hd;split at hk
  case isFalse=>cases hk
  rename_i he;have hue:P.underlying e=some (.int .u8):=zB he;cases hk;simp only[kJ]at hf;split at hf
  case h_2=>cases hf
  rename_i s hρ;rw[hρ,VR]at hx;subst hx;cases hf;obtain⟨q,hq⟩:∃q:Question,q=.appendCap s.length 0 e:=⟨_,rfl⟩;obtain⟨nc,WW⟩:∃nc:Nat,nc=q.cut (w.tape w.drawn q):=⟨_,rfl⟩;have XG:s.length<=nc:=by rw[WW,hq];show s.length<=s.length+_;omega
  have UW:(choose (.appendCap s.length 0 e)).run P w=.ok nc w.drew:=by
   rw[run_choose,WW,hq];rfl
  let vs:List Value:=s.map λb=>.int .u8 b.toNat
  let rest:List Value:=List.replicate (nc-s.length) (.int .u8 0)
  have Ty:vs.length=s.length:=by simp[vs]
  have Un:rest.length=nc-s.length:=by simp[rest]
  let W:World:=(w.drew.alloc (.cells ⟨vs++rest⟩ e))
  let W':World:=W.freeze ⟨w.heap.size,nc,none⟩ 1
  have hWh:W.heap[w.heap.size]? =some (.cells ⟨vs++rest⟩ e):=World.alloc_heap_new w.drew _;have hlt:w.heap.size<W.heap.size:=(aap.1 hWh).1;have hW':W'.heap[w.heap.size]? =some (.cells ⟨vs++rest⟩ e (nc,nc+1)):=by
   have hk:W.heap[w.heap.size]=.cells ⟨vs++rest⟩ e:=(aap.1 hWh).2;show((if(1:Nat)=0 then W else {W with heap:=W.heap.modify w.heap.size _}).heap)[w.heap.size]? =_;rw[aab Om];show(W.heap.modify w.heap.size _)[w.heap.size]? =_;rw[aaV (by rw[Array.size_modify];exact hlt),Array.getElem_modify_self,hk];rfl
  have hother:∀i,i≠w.heap.size->W'.heap[i]? =W.heap[i]? :=by
   intro i hi;show((if(1:Nat)=0 then W else {W with heap:=W.heap.modify w.heap.size _}).heap)[i]? =_;rw[aab Om];show(W.heap.modify w.heap.size _)[i]? =_;rw[Array.getElem?_modify,aab (λx=>hi x.symm)]
  have S0:W'.heap.size=W.heap.size:=by
   show((if(1:Nat)=0 then W else {W with heap:=W.heap.modify w.heap.size _}).heap).size=_;rw[aab Om];simp
  obtain⟨m',h0,h1,h2⟩:=kK hr.drew (nH m s) (rW s) rest e true true (λ_=>rfl);have h0':m' h.length=some ⟨w.heap.size,0,vs.length+rest.length,true⟩:=h0;have hne:∀b e2 k2,m' b=some e2->b≠h.length->(h++[.cells (s.map λb=>.int .u8 b.toNat) true true])[b]? =some k2->k2.live=true->e2.cb≠w.heap.size:=by
   intro b e2 k2 hb hbl SK hl hcb;have:=h1.sep h.length b _ e2 (.cells (s.map λb=>.int .u8 b.toNat) true true) k2 (λx=>hbl x.symm) h0' hb Si SK hcb.symm;cases k2<;>first|exact absurd this.1 Si|exact this|(cases hl;done)
  have hgrow:Grow m h w m' (h++[.cells (s.map λb=>.int .u8 b.toNat) true true]) W':=by
   have g:=h2.Di;refine⟨g.ext,g.len,g.new,g.tl,by rw[S0];exact g.size,?_,?_,?_,?_⟩
   ·exact g.os
   ·exact g.out
   ·exact g.tape
   ·intro i hi hno;rw[hother i Om];exact g.frame i hi hno
  refine⟨.slice (some ⟨w.heap.size,0,none⟩) s.length nc,W',m',?_,⟨_,_,nc,h0',rfl,XG,λ_=>rfl,by show 0+0+nc*1<=vs.length+rest.length;omega⟩,⟨h1.cO,?_,h1.sep,h1.gD,λb' e' hb'=>by have:=h1.lt b' e' hb';rw[S0];exact this⟩,hgrow⟩
  ·have eQ:(⟨⟨s⟩⟩:ByteArray).size=s.length:=rfl;have W9:(⟨s⟩:Array UInt8).map (λb=>Value.int .u8 b.toNat)=⟨vs⟩:=by apply acz;simp[vs]
   have TB:(⟨vs⟩:Array Value)++Array.replicate (nc-s.length) (.int .u8 0)=⟨vs++rest⟩:=by apply acz;simp[rest]
   have Zw:W.shape? w.heap.size=some (e,nc):=by
    simp only[World.shape?,hWh];simp[Ty,Un];omega
   simp only[convert,aat,aas hs,aas hd,aag,aas hue,Conv.stringToBytes,eQ,UW,W9,TB,newRow,run_newObj,aaG];simp only[markStringish,aat,run_shape];have To:World.shape? {heap:=w.drew.heap.push (Obj.cells ⟨vs++rest⟩ e),tape:=w.drew.tape,drawn:=w.drew.drawn,os:=w.drew.os,output:=w.drew.output} w.drew.heap.size=some (e,nc):=Zw;simp only[To,aag,run_freeze];rfl
  ·intro b e2 k2 hb SK;have T6:=h1.ep b e2 k2 hb SK;by_cases hbl:b=h.length
   ·subst hbl;rw[h0']at hb;cases hb;simp at SK;subst SK;obtain⟨cc,el,fz,hh,h3,h4,h5,h6⟩:=T6;have hWh':W.heap[w.heap.size]? =some (.cells cc el fz):=hh;rw[hWh]at hWh';cases hWh';refine⟨⟨vs++rest⟩,e,(nc,nc+1),hW',h3,h4,λ_=>⟨(h5 rfl).1,λi hi=>?_⟩,h6⟩;have:(⟨vs++rest⟩:Array Value).size=nc:=by simp[Ty,Un];omega
    simp only;omega
   ·by_cases hl:k2.live=true
    ·exact T6.heap (hother _ (hne b e2 k2 hb hbl SK hl))
    ·exact z148
 ·rename_i e hs hd;split at hk
  case isFalse=>cases hk
  rename_i he;have hue:P.underlying e=some (.int .u8):=zB he;cases hk;simp only[kJ]at hf;split at hf
  ·rename_i hρ;rw[hρ,VR]at hx;subst hx;cases hf;exact same (by simp[convert,aas hs,aas hd,aas hue,Conv.bytesToString];rfl) rfl rfl
  ·rename_i b o n es hρ;rw[hρ]at hx;split at hf
   case h_2=>cases hf
   rename_i l k hc;split at hf
   case h_2=>cases hf
   rename_i r hl;cases hf;obtain⟨hlen,Uk,hone,SS⟩:=cP hr hx hc;obtain⟨vs,TI,SL⟩:=SS k (aah _);rw[aaM Om]at SL;have YJ:k=n:=by
    unfold cellsIn at hc;simp only at hc;split at hc
    ·split at hc
     ·split at hc
      ·cases hc;rfl
      ·cases hc
     ·cases hc
    ·cases hc
   subst YJ;obtain⟨en,ca,cap,Ts,rfl,Td,Tt,hroom⟩:=hx;simp only[Builtin.firstCells,acd]at TI;refine same (cv:=.string ⟨⟨r⟩⟩) ?_ rfl rfl;have hb:=xF (P:=P) (w:=w) SL hl ByteArray.empty;simp only[convert,aat,aas hs,aas hd,aag,aas hue,Conv.bytesToString,TI];rw[<-Array.forIn_toList]
   erw [hb]
   simp
  ·cases hf
 ·cases hk
theorem wZ:∀{l}{vs}{x v}{cx},VR m x cx->cL m l vs->iW qx x l=some v->∃cv,(vs.foldlM (m:=Sem) Builtin.max2 cx).run P w=.ok cv w/\VR m v cv
 |[],vs,x,v,cx,hx,hl,hf=>by
  exact z210
 |y::l,vs,x,v,cx,hx,hl,hf=>by
  obtain⟨cy,vs',rfl,hy,SP⟩:=aV.1 hl;simp only[iW]at hf;split at hf
  case h_2=>cases hf
  rename_i z hz;unfold qx at hz;split at hz
  case h_2=>cases hz
  rename_i k a k' b;split at hz
  case isFalse=>cases hz
  cases hz;rw[VR]at hx hy;subst hx;subst hy;obtain⟨cv,h1,h2⟩:=wZ (x:=.int k (if b > a then b else a)) (cx:=.int k (if b > a then b else a)) rfl SP hf;exact⟨cv,by simp only[List.foldlM_cons,aat,Builtin.max2,aaG,aag];exact h1,h2⟩
theorem wY:∀{l}{vs}{x v}{cx},VR m x cx->cL m l vs->iW qw x l=some v->∃cv,(vs.foldlM (m:=Sem) Builtin.min2 cx).run P w=.ok cv w/\VR m v cv
 |[],vs,x,v,cx,hx,hl,hf=>by
  exact z210
 |y::l,vs,x,v,cx,hx,hl,hf=>by
  obtain⟨cy,vs',rfl,hy,SP⟩:=aV.1 hl;simp only[iW]at hf;split at hf
  case h_2=>cases hf
  rename_i z hz;unfold qw at hz;split at hz
  case h_2=>cases hz
  rename_i k a k' b;split at hz
  case isFalse=>cases hz
  cases hz;rw[VR]at hx hy;subst hx;subst hy;obtain⟨cv,h1,h2⟩:=wY (x:=.int k (if b<a then b else a)) (cx:=.int k (if b<a then b else a)) rfl SP hf;exact⟨cv,by simp only[List.foldlM_cons,aat,Builtin.min2,aaG,aag];exact h1,h2⟩
def Co{t e:TypeId}{i:TypeInfo}{n:Nat}{z:AV}{ps:Array (Nat×Operand)}{l:List (Nat×c7)}{σ:Operand->Value}(hs:eG P t=some (e,i))(hz:jU P e=some z)
  (hl:ps.toList.mapM (λp=>(cU p.2).map λy=>(p.1*i.size,y))=some l) (hspos:0<i.size) (hzs:z.cells.length=i.size) (h1:z.cells.all AV.one=true) (hn:n*i.size<=2^24)
  (hr:HR P m h w) (hρ:∀p∈ps.toList,∀y,cU p.2=some y->VR m (ρ y) (σ p.2)) {c:List AV}(hf:fi (dY n z.cells) (l.map λp=>(p.1,i.size,ρ p.2))=some c) (hc1:c.all AV.one=true) (hcl:c.length=n*i.size) (mu tl:Bool):
  ∃cv w' m',(Instr.buildSlice t n (ps.map λ(i,x)=>(i,σ x))).run P w=.ok cv w'/\VR m' (.slice h.length 0 n i.size) cv/\HR P m' (h++[.cells c mu tl]) w'/\Grow m h w m' (h++[.cells c mu tl]) w':=by
 have _:=h1;obtain⟨hu,hi⟩:=fN hs;obtain⟨cz,VA,We⟩:=km hz w m;have hzc:=We.cells;have eQ:cz.cells.size=z.cells.length:=by have:=hzc.length;simpa using this
 have hzero:∀(row:Array Value),row=(Array.range (n*cz.cells.size)).map (cz.cells[·% cz.cells.size]!)->cL m (dY n z.cells) row.toList:=by
  intro row hrow;have:=tr hzc Om n n (aah _);rw[<-hrow,aaM]at this
  ·exact this
  ·rw[hrow];simp[eQ]
 have ZA:∀(qs:List (Nat×Operand)) (l:List (Nat×c7)),qs.mapM (λp=>(cU p.2).map λy=>(p.1*i.size,y))=some l->qs.length=l.length/\∀(j:Nat) p q,qs[j]? =some p->l[j]? =some q->q.1=p.1*i.size/\cU p.2=some q.2:=by
  intro qs
  induction qs with
  |nil=>intro l hl;simp at hl;subst hl;exact⟨rfl,λj p q hp=>by simp at hp⟩
  |cons p qs ih=>
   intro l hl;simp only[acw,acb,acB]at hl;cases ho:cU p.2 with
   |none=>simp[ho]at hl
   |some y=>
    cases hr':qs.mapM (λp=>(cU p.2).map λy=>(p.1*i.size,y))with
    |none=>simp[ho,hr']at hl
    |some l'=>
     simp[ho,hr']at hl;subst hl;obtain⟨h2,h3⟩:=ih l' hr';refine⟨by simp[h2],λj a b ha hb=>?_⟩;cases j with
     |zero=>simp at ha hb;subst ha;subst hb;exact⟨rfl,ho⟩
     |succ j=>exact h3 j a b (by simpa using ha) (by simpa using hb)
 obtain⟨VW,hpq⟩:=ZA _ _ hl;by_cases XH:n*i.size=0
 ·have hnz:n=0:=by
   rcases Nat.mul_eq_zero.1 XH with h|h
   ·exact h
   ·omega
  obtain⟨Tu,T8,TI⟩:=qY (m:=m) (λj=>some (j*i.size,i.size)) (ps.toList.map λp=>(p.1,σ p.2)) (l.map λp=>(p.1,i.size,ρ p.2)) (dY n z.cells) #[] c (by simp[VW])
   (λj p q hp hq=>by
    simp only[aa7,aav]at hp hq;obtain⟨p0,hp0,rfl⟩:=hp;obtain⟨q0,hq0,rfl⟩:=hq;obtain⟨h2,h3⟩:=hpq j p0 q0 hp0 hq0;exact⟨by simp[h2],hρ p0 (aaW hp0) _ h3⟩) (by subst hnz;simp[dY,bG]) hf
  obtain⟨m',h2,h3,h4⟩:=mw hr TI hc1 e mu tl;have Ty:=TI.length;refine⟨.slice (some ⟨w.heap.size,0,none⟩) n n,_,m',?_,⟨_,_,n,h2,rfl,aah _,λ_=>rfl,by show 0+0+n*i.size<=Tu.toList.length;omega⟩,h3,h4⟩;have SY:¬(n*i.size > 2^24):=Om
  have S0:(sizeOf e).run P w=.ok i.size w:=cp (by simp[eC,hi]) w;have e0:(Array.range 0).map (λx=>(#[] :Array Value)[x%(#[] :Array Value).size]!)=#[]:=Si
  simp only[Instr.buildSlice,aat,aas hu,aag,S0,SY,aal];simp only[XH,aan,aat,aag,aaG,e0];exact KW
 ·obtain⟨Tu,T8,TI⟩:=qY (m:=m) (λj=>some (j*i.size,i.size)) (ps.toList.map λp=>(p.1,σ p.2)) (l.map λp=>(p.1,i.size,ρ p.2)) (dY n z.cells) ((Array.range (n*i.size)).map (cz.cells[·% cz.cells.size]!)) c (by simp[VW])
   (λj p q hp hq=>by
    simp only[aa7,aav]at hp hq;obtain⟨p0,hp0,rfl⟩:=hp;obtain⟨q0,hq0,rfl⟩:=hq;obtain⟨h2,h3⟩:=hpq j p0 q0 hp0 hq0;exact⟨by simp[h2],hρ p0 (aaW hp0) _ h3⟩) (hzero _ (by rw[eQ,hzs])) hf
  obtain⟨m',h2,h3,h4⟩:=mw hr TI hc1 e mu tl;have Ty:=TI.length;refine⟨.slice (some ⟨w.heap.size,0,none⟩) n n,_,m',?_,⟨_,_,n,h2,rfl,aah _,λ_=>rfl,by show 0+0+n*i.size<=Tu.toList.length;omega⟩,h3,h4⟩;have SY:¬(n*i.size > 2^24):=Om
  have S0:(sizeOf e).run P w=.ok i.size w:=cp (by simp[eC,hi]) w;simp only[Instr.buildSlice,aat,aas hu,aag,S0,SY,aal,XH,aaG,VA];exact KW
def xB{op}{t:TypeId}{x y xs ys}(hm:P.eqGuardType P.depth t=false):(eqGuard op t x y (.agg xs) (.agg ys)).run P w=.ok () w:=by
 cases op<;>simp[eqGuard,run_program,hm]
def kX{op}{t:TypeId}{x y a b}(h1:∀l,a≠.agg l)(h2:a≠.nilIface):(eqGuard op t x y a b).run P w=.ok () w:=by
 cases op<;>cases a<;>first
  |rfl
  |exact absurd rfl h2
  |exact absurd rfl (h1 _)
def VR.L8{x cx}(hx:VR m x cx)(h1:x.one=true):(∀l,cx≠.agg l)/\cx≠.nilIface:=by
 have hc:=hx.uB h1;refine⟨λl e=>?_,λe=>?_⟩
 ·subst e;cases hc
 ·subst e;cases x<;>simp[VR,AV.one]at hx h1
def Ew{t:TypeId}{e:TypeId}(hu:P.underlying t=some (.slice e)){x y cx cy b}(hx:VR m x cx)(hy:VR m y cy)(hb:Qb x y=some b)(d:Nat):
  (Op.equalIn (d+1) t cx cy).run P w=.ok b w/\(∀l,cx≠.agg l)/\cx≠.nilIface/\(binOp .eql t cx cy=do pure (.bool (<-Op.equal t cx cy)))/\(binOp .neq t cx cy=do pure (.bool (!(<-Op.equal t cx cy)))):=by
 unfold Qb at hb;split at hb
 ·rw[VR]at hx hy;subst hx;subst hy;cases hb;exact Bp
 ·rw[VR]at hx;obtain⟨_,ca,cap,_,rfl,_⟩:=hy;subst hx;cases hb;exact Bp
 ·rw[VR]at hy;obtain⟨_,ca,cap,_,rfl,_⟩:=hx;subst hy;cases hb;exact Bp
 ·cases hb
def Ey{t:TypeId}{e:TypeId}(hu:P.underlying t=some (.pointer e)){x y cx cy b}(hx:VR m x cx)(hy:VR m y cy)(hb:Qc x y=some b)(d:Nat):
  (Op.equalIn (d+1) t cx cy).run P w=.ok b w/\(∀l,cx≠.agg l)/\cx≠.nilIface/\(binOp .eql t cx cy=do pure (.bool (<-Op.equal t cx cy)))/\(binOp .neq t cx cy=do pure (.bool (!(<-Op.equal t cx cy)))):=by
 unfold Qc at hb;split at hb
 ·rw[VR]at hx hy;subst hx;subst hy;cases hb;exact Bp
 ·rw[VR]at hx;obtain⟨_,_,rfl⟩:=hy;subst hx;cases hb;exact Bp
 ·rw[VR]at hy;obtain⟨_,_,rfl⟩:=hx;subst hy;cases hb;exact Bp
 ·cases hb
def EA{t:TypeId}{e f g}(hu:P.underlying t=some (.func e f g)){x y cx cy b}(hx:VR m x cx)(hy:VR m y cy)(hb:Qe x y=some b)(d:Nat):
  (Op.equalIn (d+1) t cx cy).run P w=.ok b w/\(∀l,cx≠.agg l)/\cx≠.nilIface/\(binOp .eql t cx cy=do pure (.bool (<-Op.equal t cx cy)))/\(binOp .neq t cx cy=do pure (.bool (!(<-Op.equal t cx cy)))):=by
 unfold Qe at hb;split at hb
 ·rw[VR]at hx hy;subst hx;subst hy;cases hb;exact Bp
 ·rw[VR]at hx;obtain⟨_,_,_,rfl,_⟩:=hy;subst hx;cases hb;exact Bp
 ·rw[VR]at hy;obtain⟨_,_,_,rfl,_⟩:=hx;subst hy;cases hb;exact Bp
 ·cases hb
def Ez{t:TypeId}{e f:TypeId}(hu:P.underlying t=some (.map e f)){x y cx cy b}(hx:VR m x cx)(hy:VR m y cy)(hb:Qd x y=some b)(d:Nat):
  (Op.equalIn (d+1) t cx cy).run P w=.ok b w/\(∀l,cx≠.agg l)/\cx≠.nilIface/\(binOp .eql t cx cy=do pure (.bool (<-Op.equal t cx cy)))/\(binOp .neq t cx cy=do pure (.bool (!(<-Op.equal t cx cy)))):=by
 unfold Qd at hb;split at hb
 ·rw[VR]at hx hy;subst hx;subst hy;cases hb;exact Bp
 ·rw[VR]at hx;obtain⟨_,_,rfl⟩:=hy;subst hx;cases hb;exact Bp
 ·rw[VR]at hy;obtain⟨_,_,rfl⟩:=hx;subst hy;cases hb;exact Bp
 ·cases hb
def GS{t:TypeId}{neg k x y ox oy cx cy}(hk:I3 P neg t x y=some (.eqv neg k x y))(hx:VR m (ρ x) cx)(hy:VR m (ρ y) cy)(hf:dI (.eqv neg k x y) ρ h=some (v,h')):
  ∃cv,(do eqGuard (if neg then .neq else .eql) t ox oy cx cy;binOp (if neg then .neq else .eql) t cx cy:Sem Value).run P w=.ok cv w/\VR m v cv/\h' =h:=by
 simp only[dI]at hf;split at hf
 case h_2=>cases hf
 rename_i b hb;cases hf;have fin:(eqGuard (if neg then .neq else .eql) t ox oy cx cy).run P w=.ok () w->(Op.equalIn 10000 t cx cy).run P w=.ok b w->(binOp .eql t cx cy=do pure (.bool (<-Op.equal t cx cy)))->(binOp .neq t cx cy=do pure (.bool (!(<-Op.equal t cx cy))))->
   ∃cv,(do eqGuard (if neg then .neq else .eql) t ox oy cx cy;binOp (if neg then .neq else .eql) t cx cy:Sem Value).run P w=.ok cv w/\VR m (.bool (if neg then !b else b)) cv/\h=h:=by
  intro h1 h2 h3 h4;refine⟨.bool (if neg then !b else b),?_,rfl,rfl⟩;simp only[aat,h1,aag];cases neg
  ·simp only[aaU,aal,h3,aat,Op.equal,Op.maxDepth,h2,aag,aaG]
  ·simp only[aan,h4,aat,Op.equal,Op.maxDepth,h2,aag,aaG]
 unfold I3 at hk;split at hk<;>first
  |(cases hk;done)
  |skip
 ·rename_i hu;cases hk;have hb':cX .b (ρ x) (ρ y)=some b:=hb;have hone:(ρ x).one=true:=by unfold cX at hb';split at hb'<;>first|(cases hb';done)|simp_all [AV.one]
  obtain⟨n1,n2⟩:=hx.L8 hone;obtain⟨a,c,hxa,Uv⟩:∃a c,ρ x=.bool a/\ρ y=.bool c:=by unfold cX at hb';split at hb'<;>first|(cases hb';done)|simp_all
  rw[hxa,VR]at hx;rw[Uv,VR]at hy;subst hx;subst hy;refine fin (kX n1 n2) ?_ rfl rfl;exact rC (m:=m) (t:=t) (k:=.b) hu (x:=.bool a) (y:=.bool c) rfl rfl (by rw[<-hxa,<-Uv];exact hb') 9999
 ·rename_i fs hu;exact RD
 ·rename_i n e hu;exact RD
 ·rename_i e hu;cases hk;obtain⟨h1,h2,h3,h4,h5⟩:=Ew (w:=w) hu hx hy hb 9999;exact z146
 ·rename_i e hu;cases hk;obtain⟨h1,h2,h3,h4,h5⟩:=Ey (w:=w) hu hx hy hb 9999;exact z146
 ·rename_i hu;cases hk;obtain⟨h1,h2,h3,h4,h5⟩:=EA (w:=w) hu hx hy hb 9999;exact z146
 ·rename_i hu;cases hk;obtain⟨h1,h2,h3,h4,h5⟩:=Ez (w:=w) hu hx hy hb 9999;exact z146
end
def nv(k:pI)(ρ:c7->AV)(h:ah)(v:AV)(h':ah):Prop:=
 match k with
 |.call _ _=>False
 |.app es w x y=>xQ es w (ρ x) (ρ y) h v h'
 |.bo es n z ps=>∃c mu tl,fi (dY n z) (ps.map λp=>(p.1,es,ρ p.2))=some c/\c.all AV.one=true/\c.length=n*es/\v=.slice h.length 0 n es/\h' =h++[.cells c mu tl]
 |k=>dI k ρ h=some (v,h')
section
variable {P:Program}{m:cj}{h h':ah}{w:World}{ρ:c7->AV}{v:AV}{σ:Operand->Value}
def fu.nU{r:Result Value}(hr:HR P m h w)(hx:∃cv,r=.ok cv w/\VR m v cv/\h' =h){R:Result Next}(hR:∀cv,r=.ok cv w->R=.ok (.value cv) w):fu P m h w v h' R:=by
 obtain⟨cv,h1,h2,rfl⟩:=hx;exact fu.same hr h2 (hR cv h1)
def fu.Ae{r:Result Value}(hx:∃cv w' m',r=.ok cv w'/\VR m' v cv/\HR P m' h' w'/\Grow m h w m' h' w'){R:Result Next}(hR:∀cv w',r=.ok cv w'->R=.ok (.value cv) w'):fu P m h w v h' R:=by
 obtain⟨cv,w',m',h1,h2,h3,h4⟩:=hx;exact⟨cv,w',m',.inl (hR cv w' h1),h2,h3,h4⟩
def oK{l l'}(hl:zo l=some l')(hρ:∀x∈l,∀x',cU x=some x'->VR m (ρ x') (σ x)):cL m (l'.map ρ) (l.map σ).toList:=by
 have key:∀(l:List Operand) (l':List c7),l.mapM cU=some l'->(∀x∈l,∀x',cU x=some x'->VR m (ρ x') (σ x))->cL m (l'.map ρ) (l.map σ):=by
  intro l
  induction l with
  |nil=>intro l' h _;simp at h;subst h;exact bG.2 rfl
  |cons x l ih=>
   intro l' h hρ;simp only[acw,acb,acB]at h;cases hx:cU x with
   |none=>simp[hx]at h
   |some y=>
    cases hl:l.mapM cU with
    |none=>simp[hx,hl]at h
    |some l2=>
     simp[hx,hl]at h;subst h;exact aV.2 ⟨_,_,rfl,hρ x Si y hx,ih l2 hl (λx' SO=>hρ x' (by simp[SO]))⟩
 have:=key l.toList l' hl (λx hx=>hρ x (by simpa using hx))
 simpa using this
def rN{lo lo'}(hl:vY lo=some lo')(hρ:∀x∈lo,∀x',cU x=some x'->VR m (ρ x') (σ x)):
  pH m ρ lo' (lo.map σ):=by
 cases lo with
 |none=>simp[vY]at hl;subst hl;trivial
 |some x=>
  simp only[vY,aav]at hl;obtain⟨y,hy,rfl⟩:=hl;exact hρ x rfl y hy
def LH{op}{t:TypeId}{x y ox oy cx cy}(hr:HR P m h w)(hx:VR m (ρ x) cx)(hy:VR m (ρ y) cy)(hf:dI (.bin op x y) ρ h=some (v,h')):
  ∃cv w' m',(do eqGuard op t ox oy cx cy;binOp op t cx cy:Sem Value).run P w=.ok cv w'/\VR m' v cv/\HR P m' h' w'/\Grow m h w m' h' w':=by
 simp only[dI]at hf;split at hf
 case h_2=>cases hf
 rename_i u hu;cases hf;have fin:∀{cv:Value},(eqGuard op t ox oy cx cy).run P w=.ok () w->(binOp op t cx cy).run P w=.ok cv w->VR m v cv->
   ∃cv w' m',(do eqGuard op t ox oy cx cy;binOp op t cx cy:Sem Value).run P w=.ok cv w'/\VR m' v cv/\HR P m' h w'/\Grow m h w m' h w':=by
  intro cv h1 h2 h3;exact⟨cv,w,m,by simp only[aat,h1,aag,h2],h3,hr,Grow.refl m h w hr.cO⟩
 unfold eV at hu;split at hu
 ·rename_i k a k' b TG Zl;rw[TG,VR]at hx;rw[Zl,VR]at hy;subst hx;subst hy;have hg:(eqGuard op t ox oy (.int k a) (.int k' b)).run P w=.ok () w:=kX (λl=>by simp) Si;split at hu
  ·rename_i hs;obtain⟨cv,h1,h2⟩:=ye (P:=P) (m:=m) (w:=w) (k':=k') hs hu t;exact fin hg h1 h2
  ·rename_i hs;split at hu
   case isFalse=>cases hu
   rename_i hk;subst hk;obtain⟨cv,h1,h2⟩:=yg (P:=P) (m:=m) (w:=w) (by simpa using hs) hu t;exact fin hg h1 h2
 ·rename_i a b TG Zl;rw[TG,VR]at hx;rw[Zl,VR]at hy;subst hx;subst hy;obtain⟨cv,h1,h2⟩:=yd (P:=P) (m:=m) (w:=w) hu t;exact fin (kX (λl=>by simp) Si) h1 h2
 ·cases hu
def th{b ts l k T9}(hk:pa P b ts l=some k)(hargs:cL m (l.map ρ) T9.toList)(hr:HR P m h w)(hs:nv k ρ h v h')(T:TypeId)(cs:Array Bool):
  ∃cv w' m',(builtin b ts T cs T9).run P w=.ok (.value cv) w'/\VR m' v cv/\HR P m' h' w'/\Grow m h w m' h' w':=by
 have same:∀{cv:Value},(builtin b ts T cs T9).run P w=.ok (.value cv) w->VR m v cv->h' =h->∃cv w' m',(builtin b ts T cs T9).run P w=.ok (.value cv) w'/\VR m' v cv/\HR P m' h' w'/\Grow m h w m' h' w':=by
  intro cv h1 h2 h3;exact Ki
 have args1:∀{x:c7},cL m [ρ x] T9.toList->∃cx,T9=#[cx]/\VR m (ρ x) cx:=by
  intro x h1;obtain⟨cx,r,Yg,VT,Wg⟩:=aV.1 h1;rw[bG]at Wg;subst Wg;exact⟨cx,by apply acz;rw[Yg],VT⟩
 have Y5:∀{x y:c7},cL m [ρ x,ρ y] T9.toList->∃cx cy,T9=#[cx,cy]/\VR m (ρ x) cx/\VR m (ρ y) cy:=by
  intro x y h1;obtain⟨cx,r,Yg,VT,Wg⟩:=aV.1 h1;obtain⟨cy,r',hcy,hvy,hr1⟩:=aV.1 Wg;rw[bG]at hr1;subst hr1;subst hcy;exact⟨cx,cy,by apply acz;rw[Yg],VT,hvy⟩
 unfold pa at hk;split at hk
 ·
  rename_i x;obtain⟨cx,rfl,hx⟩:=args1 hargs;have uI:∀(lk:LK) (t0:TypeId) (d:TypeDesc),ts[0]? =some t0->P.underlying t0=some d->(match lk with|.sl=>∃e,d=.slice e|.st=>d=.string|.mp=>∃a b,d=.map a b)->dI (.len lk x) ρ h=some (v,h')->
    ∃cv w' m',(builtin .len ts T cs #[cx]).run P w=.ok (.value cv) w'/\VR m' v cv/\HR P m' h' w'/\Grow m h w m' h' w':=by
   intro lk t0 d U4 hu hd SI;simp only[dI]at SI;split at SI
   case h_2=>cases SI
   rename_i n hn;cases SI;have go:(Builtin.len_ ts T #[cx]).run P w=.ok (.int .i64 n) w:=by
    unfold AG at hn;split at hn
    ·rename_i s hρ;rw[hρ,VR]at hx;subst hx;split at hn
     case isFalse=>cases hn
     rename_i U8;subst U8;cases hn;cases hd;have:(⟨⟨s⟩⟩:ByteArray).size=s.length:=rfl;simp[Builtin.len_,U4,aas hu,goInt,this]
    ·rename_i b o n' es hρ;rw[hρ]at hx;obtain⟨_,ca,cap,_,rfl,_⟩:=hx;exact z109
    ·rename_i hρ;rw[hρ,VR]at hx;subst hx;exact z109
    ·rename_i r hρ;rw[hρ]at hx;obtain⟨e,he,rfl⟩:=hx;split at hn
     case h_2=>cases hn
     rename_i es hb;split at hn
     case isFalse=>cases hn
     rename_i U8;subst U8;cases hn;obtain⟨a,b,rfl⟩:=hd;obtain⟨_,UZ,clock,hheap,hlen,_⟩:=hr.ep r e _ he hb;simp[Builtin.len_,U4,aas hu,goInt,kQ hheap rfl,hlen]
    ·rename_i hρ;rw[hρ,VR]at hx;subst hx;split at hn
     case isFalse=>cases hn
     rename_i U8;subst U8;cases hn;obtain⟨a,b,rfl⟩:=hd;simp[Builtin.len_,U4,aas hu,goInt]
    ·cases hn
   exact⟨.int .i64 n,w,m,by simp only[builtin,aat,go,aag,aaG],rfl,hr,Grow.refl m h w hr.cO⟩
  split at hk
  ·rename_i e hd;cases hk;obtain⟨t0,U4,VI⟩:=aba.1 hd;exact uI .sl t0 _ U4 VI ⟨e,rfl⟩ hs
  ·rename_i hd;cases hk;obtain⟨t0,U4,VI⟩:=aba.1 hd;exact uI .st t0 _ U4 VI rfl hs
  ·rename_i a b hd;cases hk;obtain⟨t0,U4,VI⟩:=aba.1 hd;exact uI .mp t0 _ U4 VI ⟨a,b,rfl⟩ hs
  ·rename_i n e hd;cases hk;obtain⟨t0,U4,VI⟩:=aba.1 hd;have SI:dI (.AF n) ρ h=some (v,h'):=hs;simp only[dI,aaB,acq]at SI;obtain⟨rfl,rfl⟩:=SI;exact same (cv:=.int .i64 n) (by simp[builtin,Builtin.len_,U4,aas VI,goInt]) rfl rfl
  ·cases hk
 ·
  rename_i x y;obtain⟨cx,cy,rfl,hx,hy⟩:=Y5 hargs;have appF:∀(e:TypeId) (i:TypeInfo) (d:TypeDesc),(ts[0]?).bind (eG P)=some (e,i)->(ts[1]?).bind P.underlying=some d->(∀k,d≠.int k)->
    (if 0<i.size/\0<i.bytes/\i.bytes<=2^20 then(i.zero.bind (mR 4)).bind λz=>if z.cells.length=i.size then some (pI.app i.size i.bytes x y)else none else none)=some k->
    ∃cv w' m',(builtin .append ts T cs #[cx,cy]).run P w=.ok (.value cv) w'/\VR m' v cv/\HR P m' h' w'/\Grow m h w m' h' w':=by
   intro e i d h0 h1 hd hk;obtain⟨sT,hts0,hsl⟩:=aba.1 h0;obtain⟨xT,hts1,hud⟩:=aba.1 h1;split at hk
   case isFalse=>cases hk
   rename_i hc;obtain⟨c1,c2,c3⟩:=hc;obtain⟨z,hz,hk⟩:=aba.1 hk;split at hk
   case isFalse=>cases hk
   rename_i hzl;cases hk;obtain⟨cv,w',m',h2,h3,h4,h5⟩:=LI (w:=w) hts0 hts1 hsl c1 c2 c3 hud hd hz hzl hr hx hy hs T;exact⟨cv,w',m',by simp only[builtin,aat,h2,aag,aaG],h3,h4,h5⟩
  split at hk
  ·rename_i e i e2 h0 h1;exact appF e i _ h0 h1 (λk=>by simp) hk
  ·rename_i e i h0 h1;exact appF e i _ h0 h1 (λk=>by simp) hk
  ·cases hk
 ·
  rename_i x y;obtain⟨cx,cy,rfl,hx,hy⟩:=Y5 hargs;split at hk
  case h_2=>cases hk
  rename_i e i h0;split at hk
  case isFalse=>cases hk
  rename_i hpos;cases hk;obtain⟨dT,hts0,hsl⟩:=aba.1 h0;obtain⟨cv,w',m',h2,h3,h4,h5⟩:=LG (w:=w) hts0 hsl hpos hr hx hy hs T;exact⟨cv,w',m',by simp only[builtin,aat,h2,aag,aaG],h3,h4,h5⟩
 ·
  rename_i x l;cases hk;have SI:dI (.mx x l) ρ h=some (v,h'):=hs;simp only[dI]at SI;split at SI
  case h_2=>cases SI
  rename_i u hu;cases SI;obtain⟨cx,r,Yg,VT,SL⟩:=aV.1 hargs;obtain⟨cv,h1,h2⟩:=wZ (P:=P) (w:=w) VT SL hu;exact same (by simp only[builtin,Builtin.max_,Yg,aat,h1,aag,aaG]) h2 rfl
 ·
  rename_i x l;cases hk;have SI:dI (.mn x l) ρ h=some (v,h'):=hs;simp only[dI]at SI;split at SI
  case h_2=>cases SI
  rename_i u hu;cases SI;obtain⟨cx,r,Yg,VT,SL⟩:=aV.1 hargs;obtain⟨cv,h1,h2⟩:=wY (P:=P) (w:=w) VT SL hu;exact same (by simp only[builtin,Builtin.min_,Yg,aat,h1,aag,aaG]) h2 rfl
 ·cases hk
def x9{o:Oper}{k:pI}(hc:eO P o=some k)(hρ:∀x∈o.op.operands,∀x',cU x=some x'->VR m (ρ x') (σ x))(hcst:∀z,ρ (.c z)=z)(hr:HR P m h w)(hs:nv k ρ h v h'):
  fu P m h w v h' ((execOp σ o).run P w):=by
 unfold eO at hc;cases SJ:o.op with
 |move x=>
  exact Rv
 |assign x=>
  exact Rv
 |pick c a b=>
  simp only[SJ]at hc;split at hc
  case h_2=>cases hc
  rename_i c' a' b' Uh Yi hb';cases hc;have SI:dI (.pick c' a' b') ρ h=some (v,h'):=hs;simp only[dI]at SI;split at SI
  case h_2=>cases SI
  rename_i t ht;cases SI;have h1:=hρ c (by simp[SJ,Op.operands]) c' Uh;rw[ht,VR]at h1;refine fu.same (cv:=if t then σ a else σ b) hr ?_ (by simp[execOp,SJ,h1,asBool]);cases t
  ·exact hρ b (by simp[SJ,Op.operands]) b' hb'
  ·exact hρ a (by simp[SJ,Op.operands]) a' Yi
 |alloc e=>
  simp only[SJ]at hc;split at hc
  case h_2=>cases hc
  rename_i z hz;split at hc
  case isFalse=>cases hc
  rename_i h1;cases hc;have SI:dI (.box (.c z)) ρ h=some (v,h'):=hs;simp only[dI,hcst,h1,aan,aaB,acq]at SI;obtain⟨rfl,rfl⟩:=SI;obtain⟨cz,VA,We⟩:=km hz w m;obtain⟨m',h2,h3,h4,h5⟩:=tL hr We h1 e true false;exact⟨_,_,m',.inl (by simp only[execOp,SJ,Instr.alloc,aat,VA,aag,h2,aaG]),h3,h4,h5⟩
 |box e x=>
  simp only[SJ,aav]at hc;obtain⟨x',SO,rfl⟩:=hc;have SI:dI (.box x') ρ h=some (v,h'):=hs;simp only[dI]at SI;split at SI
  case isFalse=>cases SI
  rename_i h1;cases SI;obtain⟨m',h2,h3,h4,h5⟩:=tL hr (hρ x (by simp[SJ,Op.operands]) x' SO) h1 e true false;exact⟨_,_,m',.inl (by simp only[execOp,SJ,Instr.box,aat,aag,h2,aaG]),h3,h4,h5⟩
 |build t ps=>
  simp only[SJ]at hc;split at hc
  case h_2=>cases hc
  rename_i z l hz hl;split at hc
  case isFalse=>cases hc
  rename_i hp;cases hc;have SI:dI (.build z.cells l) ρ h=some (v,h'):=hs;exact fu.nU hr (Et (w:=w) (σ:=σ) hz hl hp (λp hp y hy=>hρ p.2 (by simp only[SJ,Op.operands];simp only[List.mem_toArray,aaA];exact⟨p,hp,rfl⟩) y hy) SI) (λcv h=>by simp[execOp,SJ,h])
 |buildSlice t n ps=>
  simp only[SJ]at hc;split at hc
  case h_2=>cases hc
  rename_i e i hsl;split at hc
  case h_2=>cases hc
  rename_i z l hz hl;split at hc
  case isFalse=>cases hc
  rename_i S3;obtain⟨h1,h2,h3,h4⟩:=S3;cases hc;obtain⟨c,mu,tl,T8,hc1,hcl,rfl,rfl⟩:=hs;exact fu.Ae (Co (w:=w) (σ:=σ) hsl hz hl h1 h2 h3 h4 hr (λp hp y hy=>hρ p.2 (by simp only[SJ,Op.operands];simp only[List.mem_toArray,aaA];exact⟨p,hp,rfl⟩) y hy) T8 hc1 hcl mu tl) (λcv w' h=>by simp[execOp,SJ,h])
 |load t a=>
  simp only[SJ]at hc;split at hc
  case h_2=>cases hc
  rename_i n a' hn Yi;cases hc;exact fu.nU hr (Cn hn hr (hρ a (by simp[SJ,Op.operands]) a' Yi) hs) (λcv h=>by simp[execOp,SJ,h])
 |store t a x=>
  simp only[SJ]at hc;split at hc
  case h_2=>cases hc
  rename_i n a' x' hn Yi SO;cases hc;obtain⟨w',h1,rfl,h2,h3⟩:=Ep (w:=w) hn hr (hρ a (by simp[SJ,Op.operands]) a' Yi) (hρ x (by simp[SJ,Op.operands]) x' SO) hs;exact⟨undef,w',m,.inr ⟨by simp[execOp,SJ,h1],rfl⟩,ko m,h2,h3⟩
 |nilCheck x=>
  simp only[SJ,aav]at hc;obtain⟨x',SO,rfl⟩:=hc;have SI:dI (.bS x') ρ h=some (v,h'):=hs;have h1:=hρ x (by simp[SJ,Op.operands]) x' SO;simp only[dI]at SI;split at SI
  ·rename_i b o hv;cases SI;rw[hv]at h1;have h1':=h1;obtain⟨e,he,h2⟩:=h1;exact fu.same hr h1' (by simp[execOp,SJ,h2])
  ·rename_i f a c hv;exact N1
  ·rename_i f a c hv;cases SI;rw[hv]at h1;have h1':=h1;obtain⟨f',a',c',h2,h3,_⟩:=h1;obtain⟨e,he,rfl⟩:=h3;exact fu.same hr h1' (by simp[execOp,SJ,h2])
  ·rename_i t' n a c hv;exact N1
  ·rename_i t' p f q a c hv;exact N1
  ·cases SI
 |binOp op t x y ty=>
  simp only[SJ]at hc;split at hc
  case h_2=>cases hc
  rename_i x' y' SO hy';have hx:=hρ x (by simp[SJ,Op.operands]) x' SO;have hy:=hρ y (by simp[SJ,Op.operands]) y' hy';have bin:∀{op':BinOp},o.op=.binOp op' t x y ty->k=.bin op' x' y'->fu P m h w v h' ((execOp σ o).run P w):=by
   intro op' ho hk;subst hk;exact fu.Ae (LH (op:=op') (t:=t) (ox:=x) (oy:=y) hr hx hy hs) (λcv w' h=>by simp only[execOp,ho];rw[aat,h];rfl)
  have eqv:∀(neg:Bool),o.op=.binOp (if neg then .neq else .eql) t x y ty->I3 P neg t x' y' =some k->fu P m h w v h' ((execOp σ o).run P w):=by
   intro neg ho hk;have hk0:=hk;unfold I3 at hk;split at hk
   ·cases hk;exact bin ho rfl
   ·cases hk;exact bin ho rfl
   ·cases hk;exact bin ho rfl
   ·exact Ka
   ·exact Ro
   ·exact Ro
   ·exact Ka
   ·exact Ka
   ·exact Ka
   ·exact Ka
   ·cases hk
  split at hc
  ·exact eqv false SJ hc
  ·exact eqv true SJ hc
  ·cases hc;exact bin SJ rfl
 |unOp op t x=>
  simp only[SJ,aav]at hc;obtain⟨x',SO,rfl⟩:=hc;have SI:dI (.un op x') ρ h=some (v,h'):=hs;simp only[dI]at SI;split at SI
  case h_2=>cases SI
  rename_i u hu;cases SI;obtain⟨cv,h1,h2⟩:=Eu (P:=P) (w:=w) (hρ x (by simp[SJ,Op.operands]) x' SO) hu;exact fu.same hr h2 (by simp[execOp,SJ,h1])
 |convert s d x=>
  simp only[SJ]at hc;split at hc
  case h_2=>cases hc
  rename_i ck x' Ud SO;cases hc;exact fu.Ae (Ib Ud hr (hρ x (by simp[SJ,Op.operands]) x' SO) hs) (λcv w' h=>by simp[execOp,SJ,h])
 |makeInterface u x=>
  simp only[SJ]at hc;split at hc
  ·cases hc
  ·rename_i d x' hni hd SO;cases hc;have SI:dI (.conv (.vk u) x') ρ h=some (v,h'):=hs;simp only[dI,kJ,aaB,acq]at SI;obtain⟨rfl,rfl⟩:=SI;have VS:=hρ x (by simp[SJ,Op.operands]) x' SO;refine fu.same (cv:=.iface u (σ x)) hr ⟨_,rfl,VS⟩ ?_;simp only[execOp,SJ,Instr.makeInterface,aat,aas hd,aag];cases d<;>first|rfl|exact absurd rfl (hni _)
  ·cases hc
 |makeFunc fn a c=>
  simp only[SJ]at hc;split at hc
  case isFalse=>cases hc
  rename_i hfn;split at hc
  case h_2=>cases hc
  rename_i a' c' Yi Uh;cases hc;have SI:dI (.uH fn a' c') ρ h=some (v,h'):=hs;simp only[dI,aaB,acq]at SI;obtain⟨rfl,rfl⟩:=SI;have h1:=oK (m:=m) (ρ:=ρ) (σ:=σ) Yi (λx hx=>hρ x (by simp only[SJ,Op.operands];exact Array.mem_append.2 (.inl hx)));have h2:=oK (m:=m) (ρ:=ρ) (σ:=σ) Uh (λx hx=>hρ x (by simp only[SJ,Op.operands];exact Array.mem_append.2 (.inr hx)));refine fu.same (cv:=.func fn (a.map σ) (c.map σ)) hr ⟨fn,(a.map σ).toList,(c.map σ).toList,rfl,?_,h1,h2⟩ (by simp[execOp,SJ,Instr.makeFunc]);cases fn<;>first
   |rfl
   |(cases hfn;done)
 |makeMap t r=>
  simp only[SJ]at hc;cases r with
  |some _=>simp at hc
  |none=>
   simp only[aaB]at hc;subst hc;have SI:dI .oP ρ h=some (v,h'):=hs;simp only[dI,aaB,acq]at SI;obtain⟨rfl,rfl⟩:=SI;have YQ:=kL hr (.map #[] 0) (.bA []) ⟨w.heap.size,0,0,true⟩ rfl rfl (λm' _=>⟨rfl,#[],0,World.alloc_heap_new w _,rfl,λi p hp=>by simp at hp⟩);exact⟨.map (some w.heap.size),_,_,.inl (by simp[execOp,SJ,Instr.makeMap]),⟨⟨w.heap.size,0,0,true⟩,by simp[cj.add],rfl⟩,YQ.1,YQ.2⟩
 |makeSlice t l c=>
  simp only[SJ]at hc;split at hc
  case h_2=>cases hc
  rename_i e i l' c' hsl SP Uh;split at hc
  case h_2=>cases hc
  rename_i z hz;split at hc
  case isFalse=>cases hc
  rename_i S3;obtain⟨h1,h2,h3⟩:=S3;cases hc;exact fu.Ae (H6 hsl hz h1 h2 h3 hr (hρ l (by simp[SJ,Op.operands]) l' SP) (hρ c (by simp[SJ,Op.operands]) c' Uh) hs) (λcv w' h=>by simp[execOp,SJ,h])
 |slice t x lo hi mx=>
  simp only[SJ]at hc;cases mx with
  |some _=>simp at hc
  |none=>
   simp only at hc;split at hc
   case h_2=>cases hc
   rename_i x' lo' hi' SO hlo' hhi';have hx:=hρ x (by simp[SJ,Op.operands]) x' SO;have hlo:=rN (m:=m) (ρ:=ρ) (σ:=σ) hlo' (λy hy=>hρ y (by simp only[SJ,Op.operands];cases hy;simp));have hhi:=rN (m:=m) (ρ:=ρ) (σ:=σ) hhi' (λy hy=>hρ y (by simp only[SJ,Op.operands];cases hy;simp));split at hc
   ·rename_i hu;cases hc;exact fu.nU hr (LB hu hx hlo hhi hs) (λcv h=>by simp only[execOp,SJ,aco];rw[aat,h];rfl)
   ·rename_i e hu;simp only[aav]at hc;obtain⟨n,hn,rfl⟩:=hc;exact fu.nU hr (OJ hu hn hx hlo hhi hs) (λcv h=>by simp only[execOp,SJ,aco];rw[aat,h];rfl)
   ·rename_i n e hu;simp only[aav]at hc;obtain⟨es,hes,rfl⟩:=hc;exact fu.nU hr (LC hu hes hr hx hlo hhi hs) (λcv h=>by simp only[execOp,SJ,aco];rw[aat,h];rfl)
   ·cases hc
 |fieldAddr t x i=>
  simp only[SJ]at hc;split at hc
  case h_2=>cases hc
  rename_i f x' hf SO;split at hc
  case h_2=>cases hc
  rename_i n hn;split at hc
  case isFalse=>cases hc
  rename_i hpos;cases hc;exact fu.nU hr (Ia hf hn hpos (hρ x (by simp[SJ,Op.operands]) x' SO) hs) (λcv h=>by simp[execOp,SJ,h])
 |indexAddr t x i=>
  simp only[SJ]at hc;split at hc
  case h_2=>cases hc
  rename_i x' i' SO hi';have hx:=hρ x (by simp[SJ,Op.operands]) x' SO;have hi:=hρ i (by simp[SJ,Op.operands]) i' hi';split at hc
  ·rename_i e hu;simp only[aav]at hc;obtain⟨n,hn,rfl⟩:=hc;exact fu.nU hr (H8 hu hn hx hi hs) (λcv h=>by simp[execOp,SJ,h])
  ·rename_i len e hu;simp only[aav]at hc;obtain⟨n,hn,rfl⟩:=hc;exact fu.nU hr (H9 hu hn hx hi hs) (λcv h=>by simp[execOp,SJ,h])
  ·cases hc
 |field t x i=>
  simp only[SJ]at hc;split at hc
  case h_2=>cases hc
  rename_i f x' hf SO;simp only[aav]at hc;obtain⟨n,hn,rfl⟩:=hc;exact fu.nU hr (Er hf hn (hρ x (by simp[SJ,Op.operands]) x' SO) hs) (λcv h=>by simp[execOp,SJ,h])
 |index t x i=>
  simp only[SJ]at hc;split at hc
  case h_2=>cases hc
  rename_i x' i' SO hi';have hx:=hρ x (by simp[SJ,Op.operands]) x' SO;have hi:=hρ i (by simp[SJ,Op.operands]) i' hi';split at hc
  ·rename_i hu;cases hc;exact fu.nU hr (LD hu hx hi hs) (λcv h=>by simp[execOp,SJ,h])
  ·rename_i len e hu;split at hc
   case h_2=>cases hc
   rename_i n q hn hq;cases hc;exact fu.nU hr (LF hu hn hq hx hi hs) (λcv h=>by simp[execOp,SJ,h])
  ·cases hc
 |lookup t x i ok=>
  simp only[SJ]at hc;split at hc
  case h_2=>cases hc
  rename_i kt e x' i' hu SO hi';split at hc
  case h_2=>cases hc
  rename_i kk z hkk hz;cases hc;exact fu.nU hr (H7 hu hkk hz hr (hρ x (by simp[SJ,Op.operands]) x' SO) (hρ i (by simp[SJ,Op.operands]) i' hi') hs) (λcv h=>by simp[execOp,SJ,h])
 |mapUpdate t x i y=>
  exact Rx
 |insert t x i y=>
  exact Rx
 |range t x=>
  simp only[SJ]at hc;split at hc
  case h_2=>cases hc
  rename_i hu;simp only[aav]at hc;obtain⟨x',SO,rfl⟩:=hc;exact fu.Ae (H4 hu hr (hρ x (by simp[SJ,Op.operands]) x' SO) hs) (λcv w' h=>by simp[execOp,SJ,h])
 |next x isS=>
  simp only[SJ]at hc;cases isS with
  |false=>simp at hc
  |true=>
   simp only[aav]at hc;obtain⟨x',SO,rfl⟩:=hc;exact fu.Ae (Es (t:=o.type) hr (hρ x (by simp[SJ,Op.operands]) x' SO) hs) (λcv w' h=>by simp[execOp,SJ,h])
 |extract x i=>
  simp only[SJ,aav]at hc;obtain⟨x',SO,rfl⟩:=hc;have SI:dI (.ext x' i) ρ h=some (v,h'):=hs;simp only[dI]at SI;split at SI
  case h_2=>cases SI
  rename_i l hl;split at SI
  case h_2=>cases SI
  rename_i u hu;cases SI;have h1:=hρ x (by simp[SJ,Op.operands]) x' SO;rw[hl]at h1;obtain⟨l',h2,h3⟩:=h1;obtain⟨cv,UT,SL⟩:=h3.get hu;exact fu.same hr SL (by simp[execOp,SJ,Instr.extract,h2,UT])
 |call c=>
  simp only[SJ]at hc;split at hc
  case h_2=>cases hc
  rename_i l hl;have hargs:=oK (m:=m) (ρ:=ρ) (σ:=σ) hl (λx hx=>hρ x (by simp only[SJ,Op.operands,Call.operands];exact Array.mem_append.2 (.inr hx)));split at hc
  ·exact z159
  ·exact z159
  ·rename_i b hb;obtain⟨cv,w',m',h1,h2,h3,h4⟩:=th (w:=w) hc hargs hr hs o.type (c.args.map λ|.const _=>true|_=>false);refine⟨cv,w',m',.inl ?_,h2,h3,h4⟩;simp only[execOp,SJ,resolve,hb,aat,aaG,aag,invoke];exact h1
 |_=>simp[SJ]at hc
end
def Rel(P:Program)(m:cj)(h:ah)(w:World)(v:AV)(h':ah)(e:Ending)(w':World):Prop:=
 ∃cv m',e=.returned cv/\VR m' v cv/\HR P m' h' w'/\Grow m h w m' h' w'
def my(P:Program)(f:FuncId)(args:List AV)(h:ah)(v:AV)(h':ah):Prop:=
 ∀(m:cj) (w:World) (vs:List Value),HR P m h w->cL m args vs->Calls P f ⟨vs⟩ w (Rel P m h w v h')
def DY(P:Program)(R:Ending->World->Prop):Result Next->Prop
 |.ok (.value cv) w'=>R (.returned cv) w'
 |.ok (.enter f args) w'=>CallsIn Fence.wide 0 P f args w' R
 |.ok (.round l f tmps asg body) w'=>RoundIn Fence.wide 0 P l f tmps asg body w' R
 |_=>False
def fI(P:Program)(fv:AV)(args:List AV)(h:ah)(v:AV)(h':ah):Prop:=
 ∀(m:cj) (w:World) (cv:Value) (vs:List Value),HR P m h w->VR m fv cv->cL m args vs->
  ∃d,(∀w,(Deferred.ofValue cv ⟨vs⟩).run P w=.ok d w)/\DY P (Rel P m h w v h') ((invoke d.target d.args).run P w)
def ql(P:Program)(k:pI)(ρ:c7->AV)(h:ah)(v:AV)(h':ah):Prop:=
 match k with
 |.call f args=>fI P (ρ f) (args.map ρ) h v h'
 |k=>nv k ρ h v h'
abbrev Fd(ro:Option Nat):Fence:={Fence.wide with round:=ro}
def kR{P f fn args w}(hf:P.funcs[f]? =some fn)(hb:fn.body.isSome=true)(hn:(fn.name == "runtime.NumGoroutine")=false):
  (callFunc f args).run P w=.ok (.enter f args) w:=by
 have hb':fn.body≠none:=by cases h:fn.body<;>simp_all
 have XI:fn.name≠ "runtime.NumGoroutine":=by simpa using hn
 simp[callFunc,aat,run_program,hf,XI,hb',Result.andThen]
section
variable {P:Program}{m:cj}{h h':ah}{w:World}{v:AV}
def rp{ro:Option Nat}{o:Oper}{a:Act}{next:Act->World->Prop}{Q:Exit->Act->World->Prop}{r:Result Next}
  (hr:DY P (Rel P m h w v h') r) (hn:∀cv m' w',VR m' v cv->HR P m' h' w'->Grow m h w m' h' w'->next (a.put o.dst cv) w'):o.uponIn (Fd ro) 0 P a next Q r:=by
 cases r with
 |halt x w'=>exact hr.elim
 |ok x w'=>
  cases x<;>first
   |exact hr.elim
   |skip
  case value cv=>
   obtain⟨cv',m',he,h1,h2,h3⟩:=hr;cases he;exact hn cv m' w' h1 h2 h3
  case enter f args=>
   rw[Oper.uponIn_enter];refine⟨λhd=>by simp[Fd,Fence.wide]at hd,CallsIn.mono (F:=Fd ro) (show CallsIn (Fd ro) (0-1) P f args w' (Rel P m h w v h')from hr) λe w'' he=>?_⟩;exact Kv
  case round l f tmps asg body=>
   rw[Oper.uponIn_round];refine⟨λhd=>by simp[Fd,Fence.wide]at hd,RoundIn.mono (F:=Fd ro) (show RoundIn (Fd ro) (0-1) P l f tmps asg body w' (Rel P m h w v h')from hr) λe w'' he=>?_⟩;exact Kv
def vZ{o:Oper}{k:pI}{ρ:c7->AV}(hc:eO P o=some k){a:Act}(hρ:∀x∈o.op.operands,∀x',cU x=some x'->VR m (ρ x') (a.eval x))(hcst:∀z,ρ (.c z)=z)
  (hr:HR P m h w) (hs:ql P k ρ h v h') (ro:Option Nat) (next:Act->World->Prop) (Q:Exit->Act->World->Prop)
  (hn:∀cv m' w',VR m' v cv->HR P m' h' w'->Grow m h w m' h' w'->next (a.put o.dst cv) w'):o.wpIn (Fd ro) 0 P a w next Q:=by
 refine⟨λ_ _=>trivial,?_⟩;have hdef:∀c,o.op≠.defer c:=by
  intro c SJ;simp[eO,SJ]at hc
 rw[Oper.semAt_eq _ _ _ hdef];by_cases Ve:∃f args,k=.call f args
 ·obtain⟨f,args,rfl⟩:=Ve;have SI:fI P (ρ f) (args.map ρ) h v h':=hs;cases SJ:o.op with
  |call c=>
   have Uh:=hc;simp only[eO,SJ]at Uh;split at Uh
   case h_2=>cases Uh
   rename_i l hl;have hargs:=oK (m:=m) (ρ:=ρ) (σ:=a.eval) hl (λx hx=>hρ x (by simp only[SJ,Op.operands,Call.operands];exact Array.mem_append.2 (.inr hx)));split at Uh
   ·rename_i g hg;simp only[aav]at Uh;obtain⟨g',Tc,he⟩:=Uh;cases he;have hf:=hρ g (by simp[SJ,Op.operands,Call.operands,hg]) _ Tc;obtain⟨d,hd,haf⟩:=SI m w _ _ hr hf hargs;refine rp (m:=m) (h:=h) (w:=w) (v:=v) (h':=h') ?_ hn;simp only[execOp,SJ,resolve,hg,aat];have Tn:(Deferred.ofValue (a.eval g) (c.args.map a.eval)).run P w=.ok d w:=hd w;rw[Tn];exact haf
   ·rename_i r name hg;simp only[aav]at Uh;obtain⟨r',hr',he⟩:=Uh;cases he;have hrv:=hρ r (by simp[SJ,Op.operands,Call.operands,hg]) _ hr';have hf:VR m (ρ (.c (.func (.method name) [] []))) (.func (.method name) #[] #[]):=by
     rw[hcst,VR];exact⟨_,[],[],rfl,rfl,rfl,rfl⟩
    obtain⟨d,hd,haf⟩:=SI m w _ (a.eval r:: (c.args.map a.eval).toList) hr hf (aV.2 ⟨_,_,rfl,hrv,hargs⟩);refine rp (m:=m) (h:=h) (w:=w) (v:=v) (h':=h') ?_ hn;simp only[execOp,SJ,resolve,hg,aat];have Tn:=hd w;have:(#[]++(⟨a.eval r:: (c.args.map a.eval).toList⟩:Array Value))=#[a.eval r]++c.args.map a.eval:=by
     apply acz;simp
    simp only[Deferred.ofValue,this]at Tn;cases Tn;exact haf
   ·rename_i b hb;exfalso;unfold pa at Uh
    repeat' split at Uh
    all_goals first|(cases Uh;done)|(simp only[aba]at Uh;obtain⟨z,_,hz⟩:=Uh;split at hz<;>cases hz)
  |makeMap t r=>cases r<;>simp[eO,SJ]at hc
  |next x b=>
   cases b
   ·simp[eO,SJ]at hc
   ·simp[eO,SJ,aav]at hc
  |slice t x lo hi mx=>
   cases mx with
   |some _=>simp[eO,SJ]at hc
   |none=>
    exfalso;simp only[eO,SJ]at hc
    repeat' split at hc
    all_goals first
     |(cases hc;done)
     |(simp[aav]at hc;done)
  |_=>
   exfalso;simp only[eO,SJ]at hc
   repeat' split at hc
   all_goals first
    |(cases hc;done)
    |(simp[aav,aba]at hc;done)
    |(unfold I3 at hc;repeat' split at hc;all_goals first|(cases hc;done)|(simp[aav]at hc;done))
 ·have SI:nv k ρ h v h':=by
   cases k<;>first|exact hs|exact absurd ⟨_,_,rfl⟩ Ve
  obtain⟨cv,w',m',he,h1,h2,h3⟩:=x9 (w:=w) hc hρ hcst hr SI;rcases he with he|⟨he,rfl⟩
  ·rw[he];exact hn cv m' w' h1 h2 h3
  ·rw[he];exact hn undef m' w' h1 h2 h3
def GV(P:Program)(m:cj):Prop:=∀g,g<P.globals.size->∃e,m g=some e/\e.cb=g/\e.d=0
def HR.gv(hr:HR P m h w):GV P m:=λg hg=>by obtain⟨e,h1,h2,h3,_⟩:=hr.gD g hg;exact⟨e,h1,h2,h3⟩
def zF(hg:GV P m){ts:TS}{a:Act}{x:Operand}{x':c7}(hx:cU x=some x')(hok:NM P x=true)(ht:∀t,x=.tmp t->VR m (ts.getD t az) (a.tmps.getD t undef)):VR m (val ts x') (a.eval x):=by
 cases x with
 |tmp t=>cases hx;exact ht t rfl
 |const c=>
  simp only[cU,aav]at hx;obtain⟨y,hy,rfl⟩:=hx;exact rf m 4 _ _ hy
 |global g=>
  cases hx;simp only[NM,aaK]at hok;obtain⟨e,he,hcb,hd⟩:=hg g hok;exact⟨e,he,by rw[hcb,hd];rfl⟩
 |func f=>cases hx;exact⟨.func f,[],[],rfl,rfl,rfl,rfl⟩
def n8{ts:TS}{vs:Array Value}(h:cL m ts vs.toList)(t:Nat):VR m (ts.getD t az) (vs.getD t undef):=by
 have hl:=h.length;by_cases ht:t<ts.length
 ·have hx:ts[t]? =some ts[t]:=Z6 ht;obtain⟨y,hy,hr⟩:=h.get hx;have e1:ts.getD t az=ts[t]:=by simp[List.getD,hx]
  have e2:vs.getD t undef=y:=by
   simp only[abv]at hy;simp[aaR,hy]
  rw[e1,e2];exact hr
 ·have e1:ts.getD t az=az:=by simp[List.getD,abX (by omega:ts.length<=t)]
  have e2:vs.getD t undef=undef:=by
   have:vs.size<=t:=by simp at hl;omega
   simp[aaR,abz this]
  rw[e1,e2];exact ko m
def EK{ts:TS}{a:Act}(h:cL m ts a.tmps.toList){x:AV}{cv:Value}(hx:VR m x cv)(d:Option Nat):cL m (put ts d x) (a.put d cv).tmps.toList:=by
 cases d with
 |none=>exact h
 |some d=>simp only[put,Act.put,Array.toList_setIfInBounds];exact h.set d hx
def put_defers(a:Act)(d:Option Nat)(cv:Value):(a.put d cv).defers=a.defers:=by cases d<;>rfl
def rn{ts:TS}{a:Act}{ops:Array Oper}{o:Oper}{g:Option (Nat×Bool)}(hg:uK ops o.guard=some g)
  (ht:∀t b,g=some (t,b)->(t<ts.length↔t<a.tmps.size)/\VR m (ts.getD t az) (a.tmps.getD t undef)):Region.wanted o (yielded ops a.tmps)=true↔wanted g ts:=by
 unfold uK at hg;unfold Region.wanted wanted;cases Wi:o.guard with
 |none=>rw[Wi]at hg;cases hg;simp
 |some p=>
  obtain⟨j,b⟩:=p;rw[Wi]at hg;simp only[aav]at hg;obtain⟨d,hd,rfl⟩:=hg;simp only[yielded,hd,Option.bind_some,beq_iff_eq];obtain⟨hlt,SL⟩:=ht d b rfl;by_cases hdl:d<ts.length
  ·have Wl:=hlt.1 hdl;have e1:ts.getD d az=ts[d]:=by simp[List.getD,Z6 hdl]
   have e2:a.tmps.getD d undef=a.tmps[d]:=by simp[aaR,aaV Wl]
   rw[e1,e2]at SL;rw[aaV Wl,Z6 hdl];generalize a.tmps[d]=cv at SL;generalize ts[d]=av at SL;cases av with
   |bool t=>rw[VR]at SL;subst SL;simp
   |int k n=>rw[VR]at SL;subst SL;simp
   |xS k n=>rw[VR]at SL;obtain⟨_,rfl,_⟩:=SL;simp
   |xE k x y=>rw[VR]at SL;obtain⟨_,_,rfl,_⟩:=SL;simp
   |str s=>rw[VR]at SL;subst SL;simp
   |ptr b o=>rw[VR]at SL;obtain⟨_,_,rfl⟩:=SL;simp
   |nilPtr=>rw[VR]at SL;subst SL;simp
   |slice b o n e=>rw[VR]at SL;obtain⟨_,_,_,_,rfl,_⟩:=SL;simp
   |af=>rw[VR]at SL;subst SL;simp
   |map r=>rw[VR]at SL;obtain⟨_,_,rfl⟩:=SL;simp
   |dz=>rw[VR]at SL;subst SL;simp
   |func f x y=>rw[VR]at SL;obtain⟨_,_,_,rfl,_⟩:=SL;simp
   |nilFunc=>rw[VR]at SL;subst SL;simp
   |agg l=>rw[VR]at SL;obtain⟨_,rfl,_⟩:=SL;simp
   |dW l=>rw[VR]at SL;obtain⟨_,rfl,_⟩:=SL;simp
   |vk u l=>rw[VR]at SL;obtain⟨_,rfl,_⟩:=SL;simp
   |kS=>rw[VR]at SL;subst SL;simp
  ·have Wl:¬d<a.tmps.size:=λx=>hdl (hlt.2 x)
   rw[abz Om,abX Om];simp
inductive dL (P:Program) (o:bL) (ts:TS) (h:ah):TS->ah->Prop
 |run {v:AV}{h':ah}(hw:wanted o.gd ts) (hb:vj o.dst o.k ts.length) (hs:ql P o.k (val ts) h v h'):dL P o ts h (put ts o.dst v) h'
 |skip (hw:¬wanted o.gd ts):dL P o ts h (put ts o.dst az) h
def yV(P:Program):List bL->TS->ah->TS->ah->Prop
 |[],ts,h,ts',h'=>ts' =ts/\h' =h
 |o::r,ts,h,ts',h'=>∃Uy h1,dL P o ts h Uy h1/\(o.q=true->∃g,h1=h++g)/\yV P r Uy h1 ts' h'
structure St(P:Program)(m:cj)(ts:TS)(h:ah)(a:Act)(w:World):Prop where
 hr:HR P m h w
 ts:cL m ts a.tmps.toList
def ph{ρ}:¬ql P .bad ρ h v h':=λhs=>by
 have SI:dI .bad ρ h=some (v,h'):=hs;simp[dI]at SI
def fP{ops:Array Oper}{i:Nat}{o:Oper}(ho:ops[i]? =some o){q:Bool}{io:bL}(hc:bX P ops q o=some io){ts ts':TS}{a:Act}
  (hg:GV P m) (hr:HR P m h w) (hlen:a.tmps.size=ts.length)
  (ht:∀t,t∈o.looksAt ops->VR m (ts.getD t az) (a.tmps.getD t undef)) (hs:dL P io ts h ts' h') (ro:Option Nat) (K:Act->World->Prop) (Q:Exit->Act->World->Prop)
  (hn:∀cv v m' w',ts' =put ts o.dst v->VR m' v cv->HR P m' h' w'->Grow m h w m' h' w'->K (a.put o.dst cv) w'):wpOpIn (Fd ro) 0 P ops Q i K a w:=by
 unfold bX at hc;split at hc
 case h_2=>cases hc
 rename_i g Wi;cases hc;have hw:=rn (m:=m) (ts:=ts) (a:=a) Wi (λt b V3=>⟨Om,ht t (by
  unfold Oper.looksAt;refine List.mem_append_right _ ?_;unfold uK at Wi;cases hog:o.guard with
  |none=>rw[hog]at Wi;cases Wi;cases V3
  |some p=>
   obtain⟨j,b'⟩:=p;rw[hog]at Wi;simp only[aav]at Wi;obtain⟨d,hd,rfl⟩:=Wi;cases V3;simp[hd])⟩)
 unfold wpOpIn;rw[ho];cases hs with
 |run hwa hb hs=>
  clear hb;simp only;rw[aai (hw.2 hwa)];simp only at hs;split at hs
  case isFalse=>exact absurd hs ph
  rename_i hgok;cases hk:eO P o with
  |none=>rw[hk]at hs;exact absurd hs ph
  |some k=>
   rw[hk]at hs;refine vZ hk (λx hx x' SO=>?_) (λz=>rfl) hr hs ro K Q (λcv m' w' h1 h2 h3=>hn cv _ m' w' rfl h1 h2 h3);exact Rl
 |skip hwa=>
  simp only;rw[aab (λx=>hwa (hw.1 x))];exact⟨λ_ _=>trivial,hn undef _ m w rfl (ko m) hr (Grow.refl m h w hr.cO)⟩
theorem gG{α β:Type}{f:Nat->α->Option β}:∀{l:List α}{i:Nat}{r:List β},fj f l i=some r->r.length=l.length/\∀(j:Nat) (x:α),l[j]? =some x->∃y,r[j]? =some y/\f (i+j) x=some y
 |[],i,r,h=>by cases h;exact⟨rfl,λj x hx=>by simp at hx⟩
 |x::xs,i,r,h=>by
  unfold fj at h;split at h
  case h_2=>cases h
  rename_i y ys hy hys;cases h;obtain⟨h1,h2⟩:=gG hys;refine⟨by simp[h1],λj z hz=>?_⟩;cases j with
  |zero=>simp at hz;subst hz;exact⟨y,Si,hy⟩
  |succ j=>
   simp at hz;obtain⟨u,hu,hf⟩:=h2 j z hz;exact⟨u,by simpa using hu,by rw[show i+(j+1)=i+1+j from by omega];exact hf⟩
structure Row(P:Program)(l:List bL)(T:Nat->TS)(H:Nat->ah):Prop where
 step:∀i o,l[i]? =some o->dL P o (T i) (H i) (T (i+1)) (H (i+1))/\(o.q=true->∃g,H (i+1)=H i++g)
theorem yV.row:∀{l}{ts ts'}{h h'},yV P l ts h ts' h'->∃T H,T 0=ts/\H 0=h/\T l.length=ts'/\H l.length=h'/\Row P l T H
 |[],ts,ts',h,h',hs=>by
  obtain⟨rfl,rfl⟩:=hs;exact⟨λ_=>ts',λ_=>h',rfl,rfl,rfl,rfl,⟨λi o ho=>by simp at ho⟩⟩
 |o::r,ts,ts',h,h',hs=>by
  obtain⟨Uy,h1,bY,hq,hr⟩:=hs;obtain⟨T,H,hT,hH,Uj,hH',hrow⟩:=hr.row;refine⟨λi=>match i with| 0=>ts|i+1=>T i,λi=>match i with| 0=>h|i+1=>H i,rfl,rfl,Uj,hH',⟨λi x hx=>?_⟩⟩;cases i with
  |zero=>
   simp at hx;subst hx;show dL P o ts h (T 0) (H 0)/\_;rw[hT,hH];exact⟨bY,λq=>by show ∃g,H 0=h++g;rw[hH];exact hq q⟩
  |succ i=>exact hrow.step i x (by simpa using hx)
def nG(ts:TS)(d:Option Nat)(v:AV):(put ts d v).length=ts.length:=by cases d<;>simp[put]
theorem dL.put{o ts ts'}(hs:dL P o ts h ts' h'):∃v,ts' =put ts o.dst v:=by
 cases hs with
 |run=>exact⟨_,rfl⟩
 |skip=>exact⟨_,rfl⟩
def dE{ops q o io}(hc:bX P ops q o=some io):io.dst=o.dst/\io.q=q:=by
 unfold bX at hc;split at hc
 ·cases hc;exact⟨rfl,rfl⟩
 ·cases hc
def yt{ops:Array Oper}{l:List bL}(hc:cQ P ops false=some l){ts ts':TS}{h h':ah}(hs:yV P l ts h ts' h'){m:cj}{a:Act}{w:World}(st:St P m ts h a w)(ro:Option Nat)
  (Q:Exit->Act->World->Prop) (hQ:∀m' a' w',St P m' ts' h' a' w'->Grow m h w m' h' w'->a'.defers=a.defers->Q .normal a' w') (id:Nat):(Code.region id ops false).wpIn (Fd ro) 0 P Q a w:=by
 refine wpIn_region ?_;obtain⟨T,H,rfl,rfl,rfl,rfl,hrow⟩:=hs.row;obtain⟨hlen,SR⟩:=gG (show fj (λ_ o=>bX P ops false o) ops.toList 0=some l from hc);simp only[ace]at hlen;have key:∀(k j:Nat),j+k=ops.size->∀(m1:cj) (a1:Act) (w1:World),St P m1 (T j) (H j) a1 w1->Grow m (H 0) w m1 (H j) w1->a1.defers=a.defers->
   wpOpsIn (Fd ro) 0 P ops Q (List.range' j k) a1 w1:=by
  intro k
  induction k with
  |zero=>
   intro j hj m1 a1 w1 s1 g1 hd;have:j=l.length:=Om
   subst this;exact hQ m1 a1 w1 s1 g1 hd
  |succ k ih=>
   intro j hj m1 a1 w1 s1 g1 hd;rw[List.range'_succ,wpOpsIn_cons];have ZH:j<ops.size:=Om
   have ho:ops[j]? =some ops[j]:=aaV ZH;obtain⟨io,hio,SV⟩:=SR j ops[j] Si;obtain⟨bY,_⟩:=hrow.step j io hio;refine fP ho SV s1.hr.gv s1.hr (by simpa using s1.ts.length) (λt _=>n8 s1.ts t) bY ro _ Q ?_;intro cv v m' w' SH h1 h2 h3;have hle:=h3.le s1.hr.cO;exact ih (j+1) Om m' _ w' ⟨h2,by rw[SH];exact EK (cL.mono hle _ _ s1.ts) h1 _⟩ (g1.trans h3 st.hr.cO) (by rw[put_defers];exact hd)
 have:=key ops.size 0 Om m a w st (Grow.refl m _ w st.hr.cO) rfl
 rwa [<-List.range_eq_range']at this
end
end Go.Abs
