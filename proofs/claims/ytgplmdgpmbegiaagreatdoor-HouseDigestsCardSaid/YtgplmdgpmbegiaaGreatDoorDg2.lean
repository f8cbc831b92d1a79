/- A part of the proof that HouseDigests holds. No condition. -/
import Derived.Shelf.Strings.Builder1
import Derived.Shelf.Strings.Builder2
import Derived.Shelf.Strings.OnBuilder
import Derived.Test.YtgplmdgpmbegiaaGreatDoorProg
import Derived.Shelf.Strings.Repeat
import Derived.Tactics
import Derived.OrdersIn
import Derived.RangeFuncLeaves
import Derived.RangeFuncIn
import Derived.RangeFuncOwn
import Derived.Laws.Sem
import Derived.Laws.World
import Derived.Laws.Cells
import Derived.Laws.Entries
import Derived.Below
import Derived.MapKept
import Derived.Laws.Tables
import Derived.Laws.StructEq
import Derived.Test.YtgplmdgpmbegiaaGreatDoorDg0
set_option linter.all false
open Nat (reduceAdd reduceMul reduceLeDiff reduceEqDiff)
namespace Go.Proofs
open Go.Shelf
def Tryz.nI:Go.Shelf.Ren:=⟨λ| 156=>114| 165=>210| 166=>211| 169=>212| 240=>257| 241=>258| 276=>282| 277=>283|n=>n,λ| 31=>28| 9=>9| 3=>3| 4=>4| 0=>0| 20=>20| 72=>271| 76=>275| 70=>269| 37=>119| 75=>274| 127=>308| 164=>332| 5=>5| 80=>97|n=>n,λn=>n⟩
def Tryz.wm:Go.Proofs.Lays.n156 Tryz.prog Tryz.nI:={
 mixed:=by kernel_rfl
 f156:=Tryz.func114.trans (congrArg some (by kernel_rfl))
 f165:=Tryz.func210.trans (congrArg some (by kernel_rfl))
 f166:=Tryz.func211.trans (congrArg some (by kernel_rfl))
 f169:=Tryz.func212.trans (congrArg some (by kernel_rfl))
 f240:=Tryz.func257.trans (congrArg some (by kernel_rfl))
 f241:=Tryz.func258.trans (congrArg some (by kernel_rfl))
 f276:=Tryz.func282.trans (congrArg some (by kernel_rfl))
 f277:=Tryz.func283.trans (congrArg some (by kernel_rfl))
 t0:=Tryz.underlying0
 a0:=Tryz.isAgg0
 z0:=Tryz.sizeOf0
 v0:=Tryz.zeroValue0
 t3:=Tryz.underlying3
 a3:=Tryz.isAgg3
 z3:=Tryz.sizeOf3
 v3:=Tryz.zeroValue3
 t4:=Tryz.underlying4
 a4:=Tryz.isAgg4
 z4:=Tryz.sizeOf4
 v4:=Tryz.zeroValue4
 t9:=Tryz.underlying9
 a9:=Tryz.isAgg9
 z9:=Tryz.sizeOf9
 v9:=Tryz.zeroValue9
 t20:=Tryz.underlying20
 a20:=Tryz.isAgg20
 z20:=Tryz.sizeOf20
 v20:=Tryz.zeroValue20
 t31:=Tryz.underlying28
 a31:=Tryz.isAgg28
 z31:=Tryz.sizeOf28
 v31:=Tryz.zeroValue28
 t37:=Tryz.underlying119
 a37:=Tryz.isAgg119
 z37:=Tryz.sizeOf119
 v37:=Tryz.zeroValue119
 t70:=Tryz.underlying269
 a70:=Tryz.isAgg269
 z70:=Tryz.sizeOf269
 v70:=Tryz.zeroValue269
 t72:=Tryz.underlying271
 a72:=Tryz.isAgg271
 z72:=Tryz.sizeOf271
 v72:=Tryz.zeroValue271
 t75:=Tryz.underlying274
 a75:=Tryz.isAgg274
 z75:=Tryz.sizeOf274
 v75:=Tryz.zeroValue274
 t76:=Tryz.underlying275
 a76:=Tryz.isAgg275
 z76:=Tryz.sizeOf275
 v76:=Tryz.zeroValue275
 t127:=Tryz.underlying308
 a127:=Tryz.isAgg308
 z127:=Tryz.sizeOf308
 v127:=Tryz.zeroValue308
 t164:=Tryz.underlying332
 a164:=Tryz.isAgg332
 z164:=Tryz.sizeOf332
 v164:=Tryz.zeroValue332}
def Tryz.gY:Builder.Extra Tryz.prog Tryz.nI:={
 sizeBuilder:=by kernel_rfl
 liesBuilder:=by kernel_rfl
 t5:=Tryz.underlying5
 a5:=Tryz.isAgg5
 z5:=Tryz.sizeOf5
 v5:=Tryz.zeroValue5
 infoByte:=by kernel_rfl
 cellsByte:=by kernel_rfl
 sizeByte:=by kernel_rfl
 neB5:=by decide}
open Go.RowKit in
theorem Tryz.strings_Join_none(a:Option Addr)(c:Nat)(sep:ByteArray)(w:World):
  Calls Tryz.prog 114 #[.slice a 0 c,.string sep] w λe w'=>e=.returned (.string ⟨#[]⟩)/\w' =w:=Any.strings_Join_none Tryz.wm Tryz.gY a c sep w
open Go.RowKit in
theorem Tryz.strings_Join(bk o c:Nat)(xs:List ByteArray)(sep:ByteArray)(w:World)(hcells:∀(j:Nat) x,xs[j]? =some x->w.cell? ⟨bk,o+j,none⟩=some (.string x))(hbk:bk<w.heap.size)(hN:xs.length<=140737488355328)(hcap:xs.length<=c)(hlen:(Lib.join (xs.map (·.data.toList)) sep.data.toList).length<=140737488355328):
  Calls Tryz.prog 114 #[.slice (some ⟨bk,o,none⟩) xs.length c,.string sep] w λe w'=>e=.returned (.string ⟨(Lib.join (xs.map (·.data.toList)) sep.data.toList).toArray⟩)/\Below w.heap.size w w':=Any.strings_Join Tryz.wm Tryz.gY bk o c xs sep w hcells hbk hN hcap hlen
end Go.Proofs
namespace Go.Proofs
open Go.Shelf
def Tryz.nJ:Go.Shelf.Ren:=⟨λ| 105=>252| 212=>267| 99=>270| 165=>210| 166=>211| 170=>271| 169=>212| 263=>285| 264=>286| 206=>287| 240=>257| 241=>258| 276=>282| 277=>283|n=>n,λ| 9=>9| 3=>3| 4=>4| 20=>20| 0=>0| 46=>319| 109=>320| 5=>5| 72=>271| 76=>275| 51=>335| 146=>336| 53=>327| 148=>338| 70=>269| 37=>119| 75=>274| 127=>308| 164=>332| 80=>97|n=>n,λn=>n⟩
def Tryz.BP:Go.Proofs.Lays.n105 Tryz.prog Tryz.nJ:={
 mixed:=by kernel_rfl
 f99:=Tryz.func270.trans (congrArg some (by kernel_rfl))
 f105:=Tryz.func252.trans (congrArg some (by kernel_rfl))
 f165:=Tryz.func210.trans (congrArg some (by kernel_rfl))
 f166:=Tryz.func211.trans (congrArg some (by kernel_rfl))
 f169:=Tryz.func212.trans (congrArg some (by kernel_rfl))
 f170:=Tryz.func271.trans (congrArg some (by kernel_rfl))
 f206:=Tryz.func287.trans (congrArg some (by kernel_rfl))
 f212:=Tryz.func267.trans (congrArg some (by kernel_rfl))
 f240:=Tryz.func257.trans (congrArg some (by kernel_rfl))
 f241:=Tryz.func258.trans (congrArg some (by kernel_rfl))
 f263:=Tryz.func285.trans (congrArg some (by kernel_rfl))
 f264:=Tryz.func286.trans (congrArg some (by kernel_rfl))
 f276:=Tryz.func282.trans (congrArg some (by kernel_rfl))
 f277:=Tryz.func283.trans (congrArg some (by kernel_rfl))
 t0:=Tryz.underlying0
 a0:=Tryz.isAgg0
 z0:=Tryz.sizeOf0
 v0:=Tryz.zeroValue0
 t3:=Tryz.underlying3
 a3:=Tryz.isAgg3
 z3:=Tryz.sizeOf3
 v3:=Tryz.zeroValue3
 t4:=Tryz.underlying4
 a4:=Tryz.isAgg4
 z4:=Tryz.sizeOf4
 v4:=Tryz.zeroValue4
 t5:=Tryz.underlying5
 a5:=Tryz.isAgg5
 z5:=Tryz.sizeOf5
 v5:=Tryz.zeroValue5
 t9:=Tryz.underlying9
 a9:=Tryz.isAgg9
 z9:=Tryz.sizeOf9
 v9:=Tryz.zeroValue9
 t20:=Tryz.underlying20
 a20:=Tryz.isAgg20
 z20:=Tryz.sizeOf20
 v20:=Tryz.zeroValue20
 t37:=Tryz.underlying119
 a37:=Tryz.isAgg119
 z37:=Tryz.sizeOf119
 v37:=Tryz.zeroValue119
 t46:=Tryz.underlying319
 a46:=Tryz.isAgg319
 z46:=Tryz.sizeOf319
 v46:=Tryz.zeroValue319
 t51:=Tryz.underlying335
 a51:=Tryz.isAgg335
 z51:=Tryz.sizeOf335
 v51:=Tryz.zeroValue335
 t53:=Tryz.underlying327
 a53:=Tryz.isAgg327
 z53:=Tryz.sizeOf327
 v53:=Tryz.zeroValue327
 t70:=Tryz.underlying269
 a70:=Tryz.isAgg269
 z70:=Tryz.sizeOf269
 v70:=Tryz.zeroValue269
 t72:=Tryz.underlying271
 a72:=Tryz.isAgg271
 z72:=Tryz.sizeOf271
 v72:=Tryz.zeroValue271
 t75:=Tryz.underlying274
 a75:=Tryz.isAgg274
 z75:=Tryz.sizeOf274
 v75:=Tryz.zeroValue274
 t76:=Tryz.underlying275
 a76:=Tryz.isAgg275
 z76:=Tryz.sizeOf275
 v76:=Tryz.zeroValue275
 t109:=Tryz.underlying320
 a109:=Tryz.isAgg320
 z109:=Tryz.sizeOf320
 v109:=Tryz.zeroValue320
 t127:=Tryz.underlying308
 a127:=Tryz.isAgg308
 z127:=Tryz.sizeOf308
 v127:=Tryz.zeroValue308
 t146:=Tryz.underlying336
 a146:=Tryz.isAgg336
 z146:=Tryz.sizeOf336
 v146:=Tryz.zeroValue336
 t148:=Tryz.underlying338
 a148:=Tryz.isAgg338
 z148:=Tryz.sizeOf338
 v148:=Tryz.zeroValue338
 t164:=Tryz.underlying332
 a164:=Tryz.isAgg332
 z164:=Tryz.sizeOf332
 v164:=Tryz.zeroValue332}
def Tryz.mF:Builder.Extra Tryz.prog Tryz.nJ:={
 sizeBuilder:=by kernel_rfl
 liesBuilder:=by kernel_rfl
 t5:=Tryz.underlying5
 a5:=Tryz.isAgg5
 z5:=Tryz.sizeOf5
 v5:=Tryz.zeroValue5
 infoByte:=by kernel_rfl
 cellsByte:=by kernel_rfl
 sizeByte:=by kernel_rfl
 neB5:=by decide}
end Go.Proofs
namespace Go.Abs
inductive AV where
 |bool (b:Bool)
 |int (k:IntKind) (n:Int)
 |ug (k:FloatKind) (b:Nat)
 |tU (k:FloatKind) (re im:Nat)
 |str (s:By)
 |ptr (b o:Nat)
 |nilPtr
 |slice (b o n e:Nat)
 |ah
 |map (r:Nat)
 |cH
 |func (f:Fn) (a c:List AV)
 |nilFunc
 |agg (l:List AV)
 |dh (l:List AV)
 |rZ (u:TypeId) (v:AV)
 |iU
 deriving Inhabited
def ar:AV:=.dh []
def AV.cells:AV->List AV
 |.agg l=>l
 |v=>[v]
def AV.one:AV->Bool
 |.agg _=>false
 |.dh _=>false
 |.iU=>false
 |_=>true
inductive cC where
 |t (i:Nat)
 |c (v:AV)
 |g (i:Nat)
 |f (i:Nat)
 deriving Inhabited
inductive CK where
 |b
 |i
 |s
 deriving DecidableEq,Inhabited
inductive Mm where
 |one (k:CK)
 |agg (ks:List CK)
 |BI
 |BJ
 |nV
 |Ic
 deriving Inhabited
inductive xy where
 |Fo (k:IntKind)
 |Kz
 |JM
 |same
 |Lc (k:FloatKind)
 |Lt (k:IntKind)
 |Lu (k:FloatKind)
 |rZ (u:TypeId)
 deriving Inhabited
inductive LK where
 |sl
 |st
 |mp
 deriving DecidableEq,Inhabited
inductive mD where
 |dw (x:cC)
 |pick (c a b:cC)
 |box (x:cC)
 |lX (n:Nat) (x:cC)
 |build (z:List AV) (ps:List (Nat×Nat×cC))
 |aD (es:Nat) (n:Nat) (z:List AV) (ps:List (Nat×cC))
 |load (n:Option Nat) (a:cC)
 |store (n:Nat) (a x:cC)
 |bd (x:cC)
 |bin (op:BinOp) (x y:cC)
 |eqv (neg:Bool) (t:Mm) (x y:cC)
 |un (op:UnOp) (x:cC)
 |conv (k:xy) (x:cC)
 |rv (f:Fn) (a c:List cC)
 |lL
 |tn (es w:Nat) (z:List AV) (l c:cC)
 |sl (es:Nat) (x:cC) (lo hi:Option cC)
 |Gu (x:cC) (lo hi:Option cC)
 |JI (n es:Nat) (x:cC) (lo hi:Option cC)
 |bK (off:Nat) (x:cC)
 |bU (es:Nat) (x i:cC)
 |pZ (len es:Nat) (x i:cC)
 |part (n:Option Nat) (off:Nat) (x:cC)
 |Gx (len es:Nat) (n:Option Nat) (x i:cC)
 |Gw (x i:cC)
 |look (kk:CK) (z:AV) (ok:Bool) (m k:cC)
 |eO (kk:CK) (m k x:cC)
 |zk (x:cC)
 |o8 (x:cC)
 |ext (x:cC) (i:Nat)
 |call (f:cC) (args:List cC)
 |len (lk:LK) (x:cC)
 |xR (n:Nat)
 |app (es w:Nat) (x y:cC)
 |wL (es:Nat) (x y:cC)
 |mx (x:cC) (l:List cC)
 |mn (x:cC) (l:List cC)
 |bad
 deriving Inhabited
structure aZ where
 dst:Option Nat
 k:mD
 gd:Option (Nat×Bool)
 q:Bool
 deriving Inhabited
def zX(d:Option Nat)(k:mD)(n:Nat):Prop:=
 match k,d with
 |.lX _ _,some d=>d<n
 |_,_=>True
inductive aj where
 |skip
 |ops (l:List aZ)
 |pX (l:List aZ)
 |lI (l:List aZ)
 |seq (a b:aj)
 |cond (c:cC) (a b:aj)
 |block (id:Nat) (a:aj)
 |loop (a:aj)
 |exit (id:Nat)
 |ret
 |eM (g:cC) (ps:List Nat) (asg body:aj)
 |bad
 deriving Inhabited
inductive Ex where
 |normal
 |exit (id:Nat)
 |ret
 deriving DecidableEq,Inhabited
def Ex.Ap:Ex->Exit
 |.normal=>.normal
 |.exit id=>.exit id
 |.ret=>.ret
def Ex.jump:Ex->Option Code
 |.normal=>none
 |.exit id=>some (.exit id)
 |.ret=>some .ret
inductive ai where
 |cells (c:List AV) (mu tl:Bool)
 |dead
 |aK (es:List (AV×AV))
 |iter (s:By) (pos:Nat)
 |loop (st:LoopState) (ex:Ex) (ts:List AV) (ps:List Nat) (asg body:aj)
 deriving Inhabited
abbrev af:=List ai
abbrev TS:=List AV
structure qc where
 cb:Nat
 d:Nat
 sz:Nat
 own:Bool
abbrev bA:=Nat->Option qc
def bA.le(m m':bA):Prop:=∀b e,m b=some e->m' b=some e
def bA.le_trans{a b c:bA}(h:a.le b)(k:b.le c):a.le c:=λx e hx=>k x e (h x e hx)
def BL(k:FloatKind)(b:Nat):Bool:=(k.format.order b b).isNone
def FR(k:FloatKind)(b b':Nat):Prop:=b' =b\/(BL k b=true/\BL k b' =true)
def yv(m:bA):Fn->Fn->Prop
 |.yield l,g=>∃e,m l=some e/\g=.yield e.cb
 |f,g=>g=f
mutual
def VR(m:bA):AV->Value->Prop
 |.bool b,v=>v=.bool b
 |.int k n,v=>v=.int k n
 |.ug k b,v=>∃b',v=.float k b'/\FR k b b'
 |.tU k x y,v=>∃x' y',v=.complex k x' y'/\FR k x x'/\FR k y y'
 |.str s,v=>v=.string ⟨⟨s⟩⟩
 |.ptr b o,v=>∃e,m b=some e/\v=.pointer (some ⟨e.cb,o+e.d,none⟩)
 |.nilPtr,v=>v=.pointer none
 |.slice b o n es,v=>∃e ca cap,m b=some e/\v=.slice (some ca) n cap/\n<=cap/\(0<cap->ca=⟨e.cb,o+e.d,none⟩)/\o+e.d+cap*es<=e.sz
 |.ah,v=>v=.slice none 0 0
 |.map r,v=>∃e,m r=some e/\v=.map (some e.cb)
 |.cH,v=>v=.map none
 |.func f a c,v=>∃f' a' c',v=.func f' ⟨a'⟩ ⟨c'⟩/\yv m f f'/\bY m a a'/\bY m c c'
 |.nilFunc,v=>v=.nilFunc
 |.agg l,v=>∃l',v=.agg ⟨l'⟩/\bY m l l'
 |.dh l,v=>∃l',v=.tuple ⟨l'⟩/\bY m l l'
 |.rZ u a,v=>∃v',v=.iface u v'/\VR m a v'
 |.iU,v=>v=.nilIface
def bY(m:bA):List AV->List Value->Prop
 |[],vs=>vs=[]
 |x::xs,vs=>∃y ys,vs=y::ys/\VR m x y/\bY m xs ys
end
def yv.mono{m m'}(h:m.le m'):∀{f g},yv m f g->yv m' f g:=by
 intro f g hf;cases f<;>simp only[yv]at hf ⊢<;>try exact hf
 obtain⟨e,he,hg⟩:=hf;exact⟨e,h _ _ he,hg⟩
mutual
theorem VR.mono{m m'}(h:m.le m'):∀(a:AV) (v:Value),VR m a v->VR m' a v
 |.bool _,v,hv=>hv
 |.int _ _,v,hv=>hv
 |.ug _ _,v,hv=>hv
 |.tU _ _ _,v,hv=>hv
 |.str _,v,hv=>hv
 |.ptr b o,v,hv=>by
  obtain⟨e,he,hv⟩:=(show ∃e,m b=some e/\v=.pointer (some ⟨e.cb,o+e.d,none⟩)from hv);exact⟨e,h _ _ he,hv⟩
 |.nilPtr,v,hv=>hv
 |.slice b o n es,v,hv=>by
  obtain⟨e,ca,cap,he,hr⟩:=(show ∃e ca cap,m b=some e/\v=.slice (some ca) n cap/\n<=cap/\(0<cap->ca=⟨e.cb,o+e.d,none⟩)/\o+e.d+cap*es<=e.sz from hv);exact⟨e,ca,cap,h _ _ he,hr⟩
 |.ah,v,hv=>hv
 |.map r,v,hv=>by
  obtain⟨e,he,hv⟩:=(show ∃e,m r=some e/\v=.map (some e.cb)from hv);exact⟨e,h _ _ he,hv⟩
 |.cH,v,hv=>hv
 |.func f a c,v,hv=>by
  obtain⟨f',a',c',hv,hf,ha,hc⟩:=(show ∃f' a' c',v=.func f' ⟨a'⟩ ⟨c'⟩/\yv m f f'/\bY m a a'/\bY m c c' from hv);exact⟨f',a',c',hv,hf.mono h,bY.mono h a a' ha,bY.mono h c c' hc⟩
 |.nilFunc,v,hv=>hv
 |.agg l,v,hv=>by
  obtain⟨l',hv,hl⟩:=(show ∃l',v=.agg ⟨l'⟩/\bY m l l' from hv);exact⟨l',hv,bY.mono h l l' hl⟩
 |.dh l,v,hv=>by
  obtain⟨l',hv,hl⟩:=(show ∃l',v=.tuple ⟨l'⟩/\bY m l l' from hv);exact⟨l',hv,bY.mono h l l' hl⟩
 |.rZ u a,v,hv=>by
  obtain⟨v',hv,ha⟩:=(show ∃v',v=.iface u v'/\VR m a v' from hv);exact⟨v',hv,VR.mono h a v' ha⟩
 |.iU,v,hv=>hv
theorem bY.mono{m m'}(h:m.le m'):∀(l:List AV) (vs:List Value),bY m l vs->bY m' l vs
 |[],_,hv=>hv
 |x::xs,vs,hv=>by
  obtain⟨y,ys,hv,hx,PO⟩:=(show ∃y ys,vs=y::ys/\VR m x y/\bY m xs ys from hv);exact⟨y,ys,hv,VR.mono h x y hx,bY.mono h xs ys PO⟩
end
def aP{m vs}:bY m [] vs↔vs=[]:=Iff.rfl
def aF{m x xs vs}:bY m (x::xs) vs↔∃y ys,vs=y::ys/\VR m x y/\bY m xs ys:=Iff.rfl
theorem bY.length{m}:∀{l}{vs},bY m l vs->vs.length=l.length
 |[],_,h=>by rw[aP]at h;simp[h]
 |x::xs,vs,h=>by
  obtain⟨y,ys,rfl,_,PO⟩:=aF.1 h;simp[bY.length PO]
theorem bY.get{m:bA}:∀{l:List AV}{vs:List Value},bY m l vs->∀{i:Nat}{x:AV},l[i]? =some x->∃y,vs[i]? =some y/\VR m x y
 |[],_,_,i,x,h=>by simp at h
 |z::zs,vs,h,i,x,hx=>by
  obtain⟨y,ys,rfl,hy,hys⟩:=aF.1 h;cases i with
  |zero=>simp at hx;subst hx;exact⟨y,Si,hy⟩
  |succ i=>simp at hx;simpa using bY.get hys hx
theorem bY.fF{m}:∀{l}{vs},vs.length=l.length->(∀(i:Nat) (x:AV),l[i]? =some x->∃y,vs[i]? =some y/\VR m x y)->bY m l vs
 |[],vs,hl,_=>by rw[aP];exact Uk.1 (by simpa using hl)
 |x::xs,[],hl,_=>by simp at hl
 |x::xs,v::vs,hl,h=>by
  refine aF.2 ⟨v,vs,rfl,?_,bY.fF (by simpa using hl) λi z hz=>?_⟩
  ·obtain⟨y,hy,hr⟩:=h 0 x Si;simp at hy;subst hy;exact hr
  ·obtain⟨y,hy,hr⟩:=h (i+1) z (by simpa using hz);exact⟨y,by simpa using hy,hr⟩
theorem bY.append{m}:∀{a b}{va vb},bY m a va->bY m b vb->bY m (a++b) (va++vb)
 |[],b,va,vb,ha,hb=>by rw[aP]at ha;subst ha;simpa using hb
 |x::xs,b,va,vb,ha,hb=>by
  obtain⟨y,ys,rfl,hy,hys⟩:=aF.1 ha;exact aF.2 ⟨y,ys++vb,Si,hy,bY.append hys hb⟩
theorem bY.set{m:bA}{l:List AV}{vs:List Value}(h:bY m l vs)(i:Nat){x:AV}{v:Value}(hx:VR m x v):bY m (l.set i x) (vs.set i v):=by
 refine bY.fF (by simp[h.length]) λj z hz=>?_
 rw[List.getElem?_set]at hz ⊢;by_cases hij:i=j
 ·simp only[hij,TQ]at hz ⊢;split at hz
  ·simp only[TG]at hz;subst hz;rename_i hlt;exact⟨v,by simp[h.length,hlt],hx⟩
  ·simp at hz
 ·simp only[hij,TT]at hz ⊢;exact h.get hz
theorem bY.take{m}:∀{l}{vs}(n:Nat),bY m l vs->bY m (l.take n) (vs.take n)
 |[],vs,n,h=>by rw[aP]at h;subst h;simp[aP]
 |x::xs,vs,0,h=>by simp[aP]
 |x::xs,vs,n+1,h=>by
  obtain⟨y,ys,rfl,hy,hys⟩:=aF.1 h;exact aF.2 ⟨y,ys.take n,Si,hy,bY.take n hys⟩
theorem bY.drop{m}:∀{l}{vs}(n:Nat),bY m l vs->bY m (l.drop n) (vs.drop n)
 |[],vs,n,h=>by rw[aP]at h;subst h;simp[aP]
 |x::xs,vs,0,h=>by simpa using h
 |x::xs,vs,n+1,h=>by
  obtain⟨y,ys,rfl,hy,hys⟩:=aF.1 h
  simpa using bY.drop n hys
theorem VR.one{m x v}(h:VR m x v)(hx:x.one=true):v.cells=#[v]:=by
 exact MY
def VR.rn{m x v}(h:VR m x v)(hx:x.one=true):v.oneCell' =true:=by
 exact MY
theorem VR.cells{m x v}(h:VR m x v):bY m x.cells v.cells.toList:=by
 by_cases hx:x.one=true
 ·have hc:x.cells=[x]:=by cases x<;>first|rfl|cases hx
  rw[h.one hx,hc];exact aF.2 ⟨v,[],rfl,h,aP.2 rfl⟩
 ·cases x with
  |agg l=>rw[VR]at h;obtain⟨l',rfl,hl⟩:=h;exact hl
  |dh l=>exact aF.2 ⟨v,[],by rw[VR]at h;obtain⟨l',rfl,hl⟩:=h;rfl,h,aP.2 rfl⟩
  |iU=>exact aF.2 ⟨v,[],by rw[VR]at h;subst h;rfl,h,aP.2 rfl⟩
  |_=>exact absurd rfl hx
def val(ts:TS):cC->AV
 |.t i=>ts.getD i ar
 |.c v=>v
 |.g i=>.ptr i 0
 |.f i=>.func (.func i) [] []
def put(ts:TS)(d:Option Nat)(v:AV):TS:=
 match d with
 |some d=>ts.set d v
 |none=>ts
def wanted(g:Option (Nat×Bool))(ts:TS):Prop:=
 match g with
 |none=>True
 |some (t,b)=>ts[t]? =some (.bool b)
def dt(h:af)(b:Nat):Bool:=
 match h[b]? with
 |some (.cells _ _ tl)=>tl
 |_=>false
def kj:Nat->Value->Option AV
 | 0,_=>none
 |n+1,v=>
  match v with
  |.bool b=>some (.bool b)
  |.int k i=>some (.int k i)
  |.float k b=>some (.ug k b)
  |.complex k x y=>some (.tU k x y)
  |.string s=>some (.str s.data.toList)
  |.pointer none=>some .nilPtr
  |.slice none 0 0=>some .ah
  |.map none=>some .cH
  |.nilFunc=>some .nilFunc
  |.agg cs=>(cs.toList.mapM (kj n)).map .agg
  |.tuple cs=>(cs.toList.mapM (kj n)).map .dh
  |_=>none
def cw:Operand->Option cC
 |.tmp t=>some (.t t)
 |.const v=>(kj 4 v).map .c
 |.global g=>some (.g g)
 |.func f=>some (.f f)
def BC:Operand->Option cC
 |.global _=>none
 |x=>cw x
def wa(l:Array Operand):Option (List cC):=l.toList.mapM cw
def sY:Option Operand->Option (Option cC)
 |none=>some none
 |some x=>(cw x).map some
def hP:TypeDesc->Bool
 |.struct _=>true
 |.array _ _=>true
 |_=>false
def yA(P:Program)(t:TypeId):Option (Option Nat):=
 match P.underlying t with
 |some d=>if hP d then(P.info? t).map λi=>some i.size else some none
 |none=>none
def c8(P:Program)(t:TypeId):Option Nat:=(P.info? t).map (·.size)
def gO(P:Program)(t:TypeId):Option AV:=(P.info? t).bind λi=>i.zero.bind (kj 4)
def tN(P:Program)(F:TypeId->Option (List CK)):List Field->Nat->Option (List CK)
 |[],_=>some []
 |f::fs,off=>
  match F f.type,P.info? f.type with
  |some ks,some i=>
   if f.name≠ "_"/\f.offset=off/\i.size=ks.length/\0<ks.length then
    match tN P F fs (off+ks.length)with
    |some r=>some (ks++r)
    |none=>none
   else none
  |_,_=>none
def flat(P:Program):Nat->TypeId->Option (List CK)
 | 0,_=>none
 |d+1,t=>
  match P.underlying t with
  |some .bool=>some [.b]
  |some (.int _)=>some [.i]
  |some .string=>some [.s]
  |some (.struct fs)=>if P.stoodInHeld t=false then tN P (flat P d) fs.toList 0 else none
  |some (.array len e)=>
   match flat P d e,P.info? e with
   |some ks,some i=>if i.size=ks.length/\0<ks.length then some (List.replicate len ks).flatten else none
   |_,_=>none
  |_=>none
def Fz(P:Program)(neg:Bool)(t:TypeId)(x y:cC):Option mD:=
 match P.underlying t with
 |some (.int _)=>some (.bin (if neg then .neq else .eql) x y)
 |some .string=>some (.bin (if neg then .neq else .eql) x y)
 |some (.float _)=>some (.bin (if neg then .neq else .eql) x y)
 |some .bool=>some (.eqv neg (.one .b) x y)
 |some (.struct _)=>if P.eqGuardType P.depth t=false then(flat P 20 t).map λks=>.eqv neg (.agg ks) x y else none
 |some (.array _ _)=>if P.eqGuardType P.depth t=false then(flat P 20 t).map λks=>.eqv neg (.agg ks) x y else none
 |some (.slice _)=>some (.eqv neg .BI x y)
 |some (.pointer _)=>some (.eqv neg .BJ x y)
 |some (.func _ _ _)=>some (.eqv neg .nV x y)
 |some (.map _ _)=>some (.eqv neg .Ic x y)
 |_=>none
def B0(P:Program)(e:TypeId):Bool:=
 match P.underlying e with
 |some (.int .u8)=>true
 |_=>false
def Ao(P:Program)(s d:TypeId):Option xy:=
 match P.underlying s,P.underlying d with
 |some (.int _),some (.int k)=>some (.Fo k)
 |some (.int _),some (.float k)=>some (.Lc k)
 |some (.float _),some (.int k)=>some (.Lt k)
 |some (.float _),some (.float k)=>some (.Lu k)
 |some .string,some .string=>some .same
 |some .string,some (.slice e)=>if B0 P e=true then some .Kz else none
 |some (.slice e),some .string=>if B0 P e=true then some .JM else none
 |_,_=>none
def fieldAt(P:Program)(t:TypeId)(i:Nat):Option Field:=
 match P.underlying t with
 |some (.struct fs)=>fs[i]?
 |_=>none
def gQ(P:Program)(t:TypeId)(i:Nat):Option (Nat×Nat):=
 match P.underlying t with
 |some (.struct fs)=>
  match fs.toList.mapM (λf=>(P.info? f.type).map λi=>(f.offset,i.size))with
  |some places=>places[i]?
  |none=>none
 |some (.array _ e)=>(P.info? e).map λie=>(i*ie.size,ie.size)
 |_=>none
def lG(P:Program)(t:TypeId):Bool:=
 match P.underlying t with
 |some (.struct fs)=>(fs.toList.mapM (λf=>(P.info? f.type).map λi=>(f.offset,i.size))).isSome
 |some (.array _ e)=>(P.info? e).isSome
 |_=>false
def ka(P:Program)(t:TypeId):List (Nat×Operand)->Option (List (Nat×Nat×cC))
 |[]=>some []
 |(i,x)::r=>
  match gQ P t i,cw x,ka P t r with
  |some (off,n),some y,some r=>some ((off,n,y)::r)
  |_,_,_=>none
def c9(P:Program)(t:TypeId):Option (TypeId×TypeInfo):=
 match P.underlying t with
 |some (.slice e)=>(P.info? e).map λi=>(e,i)
 |_=>none
def lU(P:Program)(b:Builtin)(ts:Array TypeId)(args:List cC):Option mD:=
 match b,args with
 |.len,[x]=>
  match (ts[0]?).bind P.underlying with
  |some (.slice _)=>some (.len .sl x)
  |some .string=>some (.len .st x)
  |some (.map _ _)=>some (.len .mp x)
  |some (.array n _)=>some (.xR n)
  |_=>none
 |.append,[x,y]=>
  match (ts[0]?).bind (c9 P),(ts[1]?).bind P.underlying with
  |some (_,i),some (.slice _)=>if 0<i.size/\0<i.bytes/\i.bytes<=2^20 then(i.zero.bind (kj 4)).bind λz=>if z.cells.length=i.size then some (.app i.size i.bytes x y)else none else none
  |some (_,i),some .string=>if 0<i.size/\0<i.bytes/\i.bytes<=2^20 then(i.zero.bind (kj 4)).bind λz=>if z.cells.length=i.size then some (.app i.size i.bytes x y)else none else none
  |_,_=>none
 |.copy,[x,y]=>
  match (ts[0]?).bind (c9 P)with
  |some (_,i)=>if 0<i.size then some (.wL i.size x y)else none
  |_=>none
 |.max,x::l=>some (.mx x l)
 |.min,x::l=>some (.mn x l)
 |_,_=>none
def uR(P:Program)(t:TypeId):Option CK:=
 match P.underlying t with
 |some (.int _)=>some .i
 |some .string=>some .s
 |some .bool=>some .b
 |_=>none
def zG:Fn->Bool
 |.yield _=>false
 |_=>true
def de(P:Program)(o:Oper):Option mD:=
 match o.op with
 |.move x=>(cw x).map .dw
 |.assign x=>(cw x).map .dw
 |.pick c a b=>
  match cw c,cw a,cw b with
  |some c,some a,some b=>some (.pick c a b)
  |_,_,_=>none
 |.alloc e=>
  match gO P e with
  |some z=>if z.cells.all AV.one then some (.box (.c z))else none
  |none=>none
 |.box _ x=>(cw x).map .box
 |.build t ps=>
  match gO P t,ka P t ps.toList with
  |some z,some l=>if lG P t=true then some (.build z.cells l)else none
  |_,_=>none
 |.buildSlice t n ps=>
  match c9 P t with
  |some (e,i)=>
   match gO P e,ps.toList.mapM λp=>(cw p.2).map λy=>(p.1*i.size,y)with
   |some z,some l=>if 0<i.size/\z.cells.length=i.size/\z.cells.all AV.one/\n*i.size<=2^24 then some (.aD i.size n z.cells l)else none
   |_,_=>none
  |none=>none
 |.load t a=>
  match yA P t,cw a with
  |some n,some a=>some (.load n a)
  |_,_=>none
 |.store t a x=>
  match c8 P t,cw a,cw x with
  |some n,some a,some x=>some (.store n a x)
  |_,_,_=>none
 |.nilCheck x=>(cw x).map .bd
 |.binOp op t x y _=>
  match cw x,cw y with
  |some x,some y=>
   match op with
   |.eql=>Fz P false t x y
   |.neq=>Fz P true t x y
   |_=>some (.bin op x y)
  |_,_=>none
 |.unOp op _ x=>(cw x).map (.un op)
 |.convert s d x=>
  match Ao P s d,cw x with
  |some k,some x=>some (.conv k x)
  |_,_=>none
 |.makeInterface t x=>
  match P.underlying t,cw x with
  |some (.interface _),_=>none
  |some _,some x=>some (.conv (.rZ t) x)
  |_,_=>none
 |.makeFunc fn a c=>
  if zG fn=true then
   match wa a,wa c with
   |some a,some c=>some (.rv fn a c)
   |_,_=>none
  else none
 |.makeMap _ none=>some .lL
 |.makeSlice t l c=>
  match c9 P t,cw l,cw c with
  |some (e,i),some l,some c=>
   match gO P e with
   |some z=>if 0<i.size/\z.cells.length=i.size/\z.cells.all AV.one then some (.tn i.size i.bytes z.cells l c)else none
   |none=>none
  |_,_,_=>none
 |.slice t x lo hi none=>
  match cw x,sY lo,sY hi with
  |some x,some lo,some hi=>
   match P.underlying t with
   |some .string=>some (.Gu x lo hi)
   |some (.slice e)=>(c8 P e).map λn=>.sl n x lo hi
   |some (.array k e)=>(c8 P e).map λn=>.JI k n x lo hi
   |_=>none
  |_,_,_=>none
 |.fieldAddr t x i=>
  match fieldAt P t i,cw x with
  |some f,some x=>
   match c8 P f.type with
   |some n=>if 0<n then some (.bK f.offset x)else none
   |none=>none
  |_,_=>none
 |.indexAddr t x i=>
  match cw x,cw i with
  |some x,some i=>
   match P.underlying t with
   |some (.slice e)=>(c8 P e).map λn=>.bU n x i
   |some (.array k e)=>(c8 P e).map λn=>.pZ k n x i
   |_=>none
  |_,_=>none
 |.field t x i=>
  match fieldAt P t i,cw x with
  |some f,some x=>(yA P f.type).map λn=>.part n f.offset x
  |_,_=>none
 |.index t x i=>
  match cw x,cw i with
  |some x,some i=>
   match P.underlying t with
   |some .string=>some (.Gw x i)
   |some (.array k e)=>
    match c8 P e,yA P e with
    |some n,some q=>some (.Gx k n q x i)
    |_,_=>none
   |_=>none
  |_,_=>none
 |.lookup t m k ok=>
  match P.underlying t,cw m,cw k with
  |some (.map kt e),some m,some k=>
   match uR P kt,gO P e with
   |some kk,some z=>some (.look kk z ok m k)
   |_,_=>none
  |_,_,_=>none
 |.mapUpdate t m k x=>
  match P.underlying t,cw m,cw k,cw x with
  |some (.map kt _),some m,some k,some x=>(uR P kt).map λkk=>.eO kk m k x
  |_,_,_,_=>none
 |.insert t m k x=>
  match P.underlying t,cw m,cw k,cw x with
  |some (.map kt _),some m,some k,some x=>(uR P kt).map λkk=>.eO kk m k x
  |_,_,_,_=>none
 |.range t x=>
  match P.underlying t with
  |some .string=>(cw x).map .zk
  |_=>none
 |.next x true=>(cw x).map .o8
 |.extract x i=>(cw x).map λx=>.ext x i
 |.call c=>
  match wa c.args with
  |some l=>
   match c.callee with
   |.value f=>(cw f).map λf=>.call f l
   |.invoke r name=>(cw r).map λr=>.call (.c (.func (.method name) [] [])) (r::l)
   |.builtin b=>lU P b c.argTypes l
  |none=>none
 |_=>none
def rz(ops:Array Oper)(g:Option (Nat×Bool)):Option (Option (Nat×Bool)):=
 match g with
 |none=>some none
 |some (j,b)=>((ops[j]?).bind (·.dst)).map λd=>some (d,b)
def JK(P:Program):Operand->Bool
 |.global g=>decide (g<P.globals.size)
 |_=>true
def bj(P:Program)(ops:Array Oper)(q:Bool)(o:Oper):Option aZ:=
 match rz ops o.guard with
 |some g=>some {dst:=o.dst,k:=if o.op.operands.toList.all (JK P)then(de P o).getD .bad else .bad,gd:=g,q:=q}
 |none=>none
def ahead(M:Array Nat)(i j:Nat):Bool:=(M.getD j 0).testBit i
def jd(M:Array Nat)(ops:Array Oper):Bool:=
 (List.range ops.size).all λj=>
  match ops[j]? with
  |none=>true
  |some o=>
   (o.after.toList.all λe=>!Region.binds .any e||decide (e.on<j)) &&
   ((List.range ops.size).all λi=>!ahead M i j||o.after.toList.any λe=>Region.binds .any e&&(e.on==i||ahead M i e.on))
def jV(M:Array Nat)(ops:Array Oper):Bool:=
 (List.range ops.size).all λj=>
  (List.range j).all λi=>
   match ops[i]?,ops[j]? with
   |some x,some y=>
    (match x.dst with
     |some d=>y.dst !=some d&&(!(y.looksAt ops).contains d||ahead M i j)
     |none=>true) &&
    (match y.dst with
     |some d=>!(x.looksAt ops).contains d||ahead M i j
     |none=>true)
   |_,_=>true
def fw(M:Array Nat)(n j:Nat):Bool:=
 (List.range n).all λi=>i==j||(if i<j then ahead M i j else ahead M j i)
def dC{α β:Type}(f:Nat->α->Option β):List α->Nat->Option (List β)
 |[],_=>some []
 |x::xs,i=>
  match f i x,dC f xs (i+1)with
  |some y,some ys=>some (y::ys)
  |_,_=>none
def vk:AV->Bool
 |.bool _=>true
 |.int _ _=>true
 |.ug _ _=>true
 |.tU _ _ _=>true
 |.str _=>true
 |.nilPtr=>true
 |.ah=>true
 |.cH=>true
 |.nilFunc=>true
 |_=>false
def jU(o:aZ):Option (Nat×Nat×cC):=
 match o.dst,o.k,o.gd,o.q with
 |none,.store n (.t t) x,none,true=>some (n,t,x)
 |_,_,_,_=>none
def qP(o:aZ):Option (Nat×AV):=
 match o.dst,o.k,o.gd,o.q with
 |some t,.box (.c z),none,true=>some (t,z)
 |_,_,_,_=>none
def ep(ops:Array Oper)(j t:Nat):Bool:=
 match ops[j]? with
 |some o=>(o.looksAt ops).contains t
 |none=>false
def mO(ops:Array Oper)(l:List aZ)(k s:Nat):Bool:=
 match (l[k]?).bind qP,(l[s]?).bind jU with
 |some (t,z),some (n,t',x)=>
  t==t'&&z.cells.length==n&&z.cells.all vk&&(match x with|.t u=>u !=t&&ep ops s u|_=>true)&&ep ops s t&&(List.range ops.size).all λj=>j==s || !ep ops j t
 |_,_=>false
def Lb(ops:Array Oper)(l:List aZ)(s:Nat):Option Nat:=(List.range s).find? λk=>mO ops l k s
def Kx(ops:Array Oper)(l:List aZ)(k:Nat):Option Nat:=(List.range l.length).find? λs=>decide (k<s)&&mO ops l k s
def qJ(ops:Array Oper)(l:List aZ)(j:Nat)(o:aZ):aZ:=
 match jU o with
 |some (n,t,x)=>
  match Lb ops l j with
  |some _=>{dst:=some t,k:=.lX n x,gd:=none,q:=true}
  |none=>o
 |none=>
  match qP o with
  |some _=>
   match Kx ops l j with
   |some _=>{dst:=none,k:=.dw (.c (.bool false)),gd:=none,q:=true}
   |none=>o
  |none=>o
def nM(ops:Array Oper)(l:List aZ):Nat->List aZ->List aZ
 |_,[]=>[]
 |j,o::r=>qJ ops l j o::nM ops l (j+1) r
def cg(P:Program)(ops:Array Oper)(draw:Bool):Option (List aZ):=
 if draw then
  let M:=Region.before ops
  if jd M ops&&jV M ops then
   (dC (λi o=>bj P ops (!fw M ops.size i) o) ops.toList 0).map λl=>nM ops l 0 l
  else none
 else dC (λ_ o=>bj P ops false o) ops.toList 0
def ec:mD->Bool
 |.dw _=>true
 |.pick _ _ _=>true
 |.bin _ _ _=>true
 |.eqv _ _ _ _=>true
 |.un _ _=>true
 |.conv (.Fo _) _=>true
 |.bK _ _=>true
 |.pZ _ _ _ _=>true
 |.bU _ _ _=>true
 |.part _ _ _=>true
 |.Gx _ _ _ _ _=>true
 |.Gw _ _=>true
 |.ext _ _=>true
 |.bd _=>true
 |.mx _ _=>true
 |.mn _ _=>true
 |.build _ _=>true
 |.Gu _ _ _=>true
 |.sl _ _ _ _=>true
 |.xR _=>true
 |.rv _ _ _=>true
 |.len .sl _=>true
 |.len .st _=>true
 |_=>false
def bO:mD->Bool
 |.load _ _=>true
 |k=>ec k
def AF:mD->Bool
 |.box _=>true
 |.aD _ _ _ _=>true
 |.lL=>true
 |_=>false
def B3:mD->Bool
 |.call _ _=>true
 |_=>false
def jk(o:aZ):Bool:=AF o.k||(o.q&&B3 o.k)
def B2(o:Oper):Bool:=
 match o.op with
 |.call c=>
  match c.callee with
  |.builtin _=>false
  |_=>true
 |_=>false
def B1(o:Oper):Bool:=
 o.guard.isNone&&match o.op with
 |.load _ _=>true
 |_=>false
def pY(c:Nat)(o:Oper):Bool:=(decide (1<=c)&&B2 o)||(decide (2<=c)&&B1 o)
def kC(o:aZ):Bool:=
 o.q&&match o.k with
 |.load _ _=>true
 |_=>false
def lM(M:Array Nat)(l:List aZ):Bool:=
 (List.range l.length).all λj=>
  (List.range j).all λi=>
   match l[i]?,l[j]? with
   |some x,some y=>ec x.k||ec y.k||kC x||kC y||(bO x.k&&(bO y.k||jk y))||(jk x&&bO y.k)||ahead M i j
   |_,_=>true
def vY(o:aZ):Bool:=
 o.q&&match o.k with
  |.store _ _ _=>true
  |_=>false
def IM(o:aZ):Bool:=
 o.q&&match o.k with
  |.store _ _ _=>true
  |.app _ _ _ _=>true
  |.wL _ _ _=>true
  |.eO _ _ _ _=>true
  |_=>false
def zP(o:aZ):Bool:=ec o.k||match o.k with
 |.store _ _ _=>true
 |_=>false
def IE(o:aZ):Bool:=match o.k with
 |.store _ _ _=>true
 |_=>false
def iW(l:List aZ):Bool:=l.all zP&&decide ((l.filter IE).length<=2)
def cV:List aZ->Nat
 |[]=>0
 |o::r=>if iW (o::r)=true then 0 else cV r+1
def kU(M:Array Nat)(l:List aZ):Bool:=
 (List.range l.length).all λi=>
  match l[i]? with
  |some x=>!kC x||(List.range l.length).all λj=>
    match l[j]? with
    |some y=>bO y.k||decide (j<cV l)||ahead M i j
    |none=>true
  |none=>true
def pf(M:Array Nat)(l:List aZ)(f:Nat):Bool:=
 (List.range l.length).all λj=>
  (List.range j).all λi=>
   match l[i]?,l[j]? with
   |some x,some y=>ec x.k||ec y.k||kC x||kC y||decide (j=f)||ahead M i j
   |_,_=>true
def tM(ops:Array Oper)(l:List aZ)(f:Nat):Bool:=
 match l[f]? with
 |some {dst:=some d,k:=.aD _ _ z ps,gd:=none,q:=_}=>z.all vk&&ps.all (λp=>match p.2 with|.t u=>ep ops f u|_=>false)&&(List.range l.length).all λj=>
   match l[j]? with
   |some o=>!bO o.k||((ec o.k||kC o) && !ep ops j d)
   |none=>true
 |_=>false
def DP(M:Array Nat)(ops:Array Oper)(l:List aZ):Option Nat:=(List.range l.length).find? λf=>tM ops l f&&pf M l f
def Jl(l:List aZ):Bool:=l.any λo=>o.q&&match o.k with
 |.app _ _ (.t d) _=>l.any λp=>p.dst==some d&&match p.k with
  |.app _ _ _ _=>true
  |_=>false
 |_=>false
def k5(P:Program)(ops:Array Oper)(draw:Bool):Option aj:=
 match cg P ops draw with
 |none=>none
 |some l=>
  if l.any IM=true/\draw=true then
   match dC (λ_ o=>bj P ops (pY 0 o) o) ops.toList 0,dC (λ_ o=>bj P ops (pY 1 o) o) ops.toList 0,dC (λ_ o=>bj P ops (pY 2 o) o) ops.toList 0 with
   |some l',some l2,some l3=>if(lM (Region.before ops) l' && !l'.any kC)=true then some (.ops l')else if(lM (Region.before ops) l2 && !l2.any kC)=true then some (.ops l2)else if(l.any vY&&(DP (Region.before ops) ops l3).isSome&&kU (Region.before ops) l3)=true then some (.lI l3)else if l.any vY=true then(if(decide (2<(l.filter IE).length)&&lM (Region.before ops) l3&&kU (Region.before ops) l3)=true then some (.lI l3)else some (.pX l'))else if(lM (Region.before ops) l3&&kU (Region.before ops) l3)=true then some (.lI l3)else if(Jl l&&(DP (Region.before ops) ops l3).isSome&&kU (Region.before ops) l3)=true then some (.lI l3)else some (.ops l)
   |_,_,_=>none
  else some (.ops l)
def compile(P:Program):Code->Option aj
 |.skip=>some .skip
 |.region _ ops draw=>k5 P ops draw
 |.seq a b=>
  match compile P a,compile P b with
  |some x,some y=>some (.seq x y)
  |_,_=>none
 |.cond c a b=>
  match BC c,compile P a,compile P b with
  |some c,some x,some y=>some (.cond c x y)
  |_,_,_=>none
 |.block id a=>(compile P a).map (.block id)
 |.loop a=>(compile P a).map .loop
 |.exit id=>some (.exit id)
 |.ret=>some .ret
 |.label _=>some .skip
 |.scope a=>compile P a
 |.rangeFunc g ps asg body=>
  match BC g,compile P asg,compile P body with
  |some g,some x,some y=>some (.eM g ps.toList x y)
  |_,_,_=>none
 |.goto _=>some .bad
 |.refuse _=>some .bad
structure ak where
 nt:Nat
 np:Nat
 rs:List (Nat×Option (Option Nat))
 body:aj
def rk(P:Program):ResultVar->Option (Nat×Option (Option Nat))
 |.tmp t=>some (t,none)
 |.cell a t=>(yA P t).map λn=>(a,some n)
def bf(P:Program)(f:FuncId):Option ak:=
 match P.funcs[f]? with
 |none=>none
 |some fn=>
  match fn.body with
  |none=>none
  |some c=>
   match compile P c,fn.results.toList.mapM (rk P)with
   |some b,some rs=>if fn.name == "runtime.NumGoroutine" then none else some {nt:=fn.ntmps,np:=fn.params.size,rs:=rs,body:=b}
   |_,_=>none
def B5(P:Program)(g:Nat):Nat:=
 match P.globals[g]? with
 |some G=>
  match P.info? G.type with
  |some i=>i.size
  |none=>0
 |none=>0
def BR(P:Program)(m:bA)(w:World)(e:qc):ai->Prop
 |.cells c mu tl=>∃cc el fz,w.heap[e.cb]? =some (.cells cc el fz)/\(e.d+c.length<=cc.size/\e.d+c.length<=e.sz/\cc.size=e.sz)/\
   (∀(i:Nat) (x:AV),c[i]? =some x->x.one=true/\∃v,cc[e.d+i]? =some v/\VR m x v)/\
   (e.own=true->cc.size=e.sz/\∀i,i<cc.size->¬(fz.1<=i/\i<fz.2))/\((mu=true\/tl=true)->e.own=true/\(tl=false->e.sz=e.d+c.length))
 |.dead=>True
 |.aK es=>e.own=true/\∃Pp clock,w.heap[e.cb]? =some (.map Pp clock)/\Pp.size=es.length/\
   ∀(i:Nat) (p:AV×AV),es[i]? =some p->∃q,Pp[i]? =some q/\VR m p.1 q.key/\VR m p.2 q.val
 |.iter s pos=>e.own=true/\e.d=0/\w.heap[e.cb]? =some (.stringIter ⟨⟨s⟩⟩ pos)
 |.loop st ex ts ps asg body=>e.own=true/\∃fn tmps Ov N3 df,w.heap[e.cb]? =some (.loop {state:=st,pending:=ex.jump,fn:=fn,tmps:=tmps,params:=⟨ps⟩,assign:=Ov,body:=N3,defers:=df})/\
   bY m ts tmps.toList/\compile P Ov=some asg/\compile P N3=some body
def ai.live:ai->Bool
 |.dead=>false
 |_=>true
def nA(e1 e2:qc):ai->ai->Prop
 |.cells c1 mu1 tl1,.cells c2 mu2 tl2=>mu1=false/\mu2=false/\(tl1=true->tl2=false/\e2.d+c2.length<=e1.d+c1.length)
 |.dead,_=>True
 |_,.dead=>True
 |_,_=>False
structure HR(P:Program)(m:bA)(h:af)(w:World):Prop where
 bZ:∀b e,m b=some e->b<h.length
 dx:∀b e k,m b=some e->h[b]? =some k->BR P m w e k
 sep:∀b1 b2 e1 e2 k1 k2,b1≠b2->m b1=some e1->m b2=some e2->h[b1]? =some k1->h[b2]? =some k2->e1.cb=e2.cb->nA e1 e2 k1 k2
 eZ:∀g,g<P.globals.size->∃e,m g=some e/\e.cb=g/\e.d=0/\e.own=false/\e.sz=B5 P g
 lt:∀b e,m b=some e->e.cb<w.heap.size
structure Grow(m:bA)(h:af)(w:World)(m':bA)(h':af)(w':World):Prop where
 ext:∀b,b<h.length->m' b=m b
 len:h.length<=h'.length
 new:∀b e,h.length<=b->m' b=some e->e.own=true/\(w.heap.size<=e.cb\/∃b0 e0,m b0=some e0/\e0.cb=e.cb/\e0.own=true/\dt h b0=true/\dt h' b0=false)
 tl:∀b,b<h.length->dt h' b=true->dt h b=true
 size:w.heap.size<=w'.heap.size
 os:w'.os=w.os
 out:w'.output=w.output
 tape:w'.tape=w.tape
 frame:∀i,i<w.heap.size->(∀b e,m b=some e->e.own=true->e.cb≠i)->w'.heap[i]? =w.heap[i]?
def Grow.refl(m:bA)(h:af)(w:World)(hd:∀b e,m b=some e->b<h.length):Grow m h w m h w where
 ext:=λ_ _=>rfl
 len:=Ts _
 new:=λb e hb he=>absurd (hd b e he) Om
 tl:=λ_ _ h=>h
 size:=Ts _
 os:=rfl
 out:=rfl
 tape:=rfl
 frame:=λ_ _ _=>rfl
theorem Grow.le{m m' h h' w w'}(g:Grow m h w m' h' w')(hd:∀b e,m b=some e->b<h.length):m.le m':=
 λb e he=>by rw[g.ext b (hd b e he)];exact he
theorem Grow.trans{m m1 m2 h h1 h2 w w1 w2}(a:Grow m h w m1 h1 w1)(b:Grow m1 h1 w1 m2 h2 w2)
  (hd:∀b e,m b=some e->b<h.length):Grow m h w m2 h2 w2 where
 ext:=λi hi=>(b.ext i (Uh hi a.len)).trans (a.ext i hi)
 len:=Ur a.len b.len
 new:=by
  intro i e hi he;by_cases h1i:h1.length<=i
  ·obtain⟨ho,hc⟩:=b.new i e h1i he;refine⟨ho,?_⟩;rcases hc with hc|⟨b0,e0,O8,hcb,ho0,Pu,Rq⟩
   ·exact .inl (Ur a.size hc)
   ·by_cases hb:h.length<=b0
    ·obtain⟨_,hc0⟩:=a.new b0 e0 hb O8;rcases hc0 with hc0|⟨b00,e00,hb00,S5,ho00,ht00,R1⟩
     ·exact .inl (hcb▸hc0)
     ·refine .inr ⟨b00,e00,hb00,S5.trans hcb,ho00,ht00,?_⟩;cases hx:dt h2 b00 with
      |false=>rfl
      |true=>
       have hlt:=hd _ _ hb00;rw[b.tl b00 (Uh hlt a.len) hx]at R1;cases R1
    ·have hlt:b0<h.length:=Om
     rw[a.ext b0 hlt]at O8;exact .inr ⟨b0,e0,O8,hcb,ho0,a.tl b0 hlt Pu,Rq⟩
  ·have hi1:i<h1.length:=Om
   rw[b.ext i hi1]at he;obtain⟨ho,hc⟩:=a.new i e hi he;refine⟨ho,?_⟩;rcases hc with hc|⟨b0,e0,O8,hcb,ho0,Pu,Rq⟩
   ·exact .inl hc
   ·refine .inr ⟨b0,e0,O8,hcb,ho0,Pu,?_⟩;cases hx:dt h2 b0 with
    |false=>rfl
    |true=>
     have hlt:=hd _ _ O8;rw[b.tl b0 (Uh hlt a.len) hx]at Rq;cases Rq
 tl:=λi hi ht=>a.tl i hi (b.tl i (Uh hi a.len) ht)
 size:=Ur a.size b.size
 os:=b.os.trans a.os
 out:=b.out.trans a.out
 tape:=b.tape.trans a.tape
 frame:=by
  intro i hi hno;refine(b.frame i (Uh hi a.size) ?_).trans (a.frame i hi hno);intro j e he ho hcb;by_cases hj:h.length<=j
  ·obtain⟨_,hc⟩:=a.new j e hj he;rcases hc with hc|⟨b0,e0,O8,S5,ho0,_,_⟩
   ·omega
   ·exact hno b0 e0 O8 ho0 (S5.trans hcb)
  ·rw[a.ext j Om]at he;exact hno j e he ho hcb
theorem BR.heap{P m w w' e k}(h:BR P m w e k)(hw:w'.heap[e.cb]? =w.heap[e.cb]?):BR P m w' e k:=by
 cases k<;>simp only[BR,hw]at h ⊢<;>exact h
theorem BR.mono{P m m' w e k}(hm:m.le m')(h:BR P m w e k):BR P m' w e k:=by
 cases k with
 |cells c mu tl=>
  obtain⟨cc,el,fz,h1,h2,h3,h4⟩:=h;exact⟨cc,el,fz,h1,h2,λi x hx=>by obtain⟨ho,v,hv,hr⟩:=h3 i x hx;exact⟨ho,v,hv,VR.mono hm _ _ hr⟩,h4⟩
 |dead=>trivial
 |aK es=>
  obtain⟨ho,Pp,clock,h1,h2,h3⟩:=h;exact⟨ho,Pp,clock,h1,h2,λi p hp=>by obtain⟨q,hq,ha,hb⟩:=h3 i p hp;exact⟨q,hq,VR.mono hm _ _ ha,VR.mono hm _ _ hb⟩⟩
 |iter s pos=>exact h
 |loop st ex ts ps asg body=>
  obtain⟨ho,fn,tmps,Ov,N3,df,h1,h2,h3,h4⟩:=h;exact⟨ho,fn,tmps,Ov,N3,df,h1,bY.mono hm _ _ h2,h3,h4⟩
theorem HR.drew{P m h w}(hr:HR P m h w):HR P m h w.drew where
 bZ:=hr.bZ
 dx:=λb e k hb hk=>(hr.dx b e k hb hk).heap rfl
 sep:=hr.sep
 eZ:=hr.eZ
 lt:=hr.lt
theorem Grow.drew{m h w m' h' w'}(g:Grow m h w m' h' w'):Grow m h w m' h' w'.drew:=
 ⟨g.ext,g.len,g.new,g.tl,g.size,g.os,g.out,g.tape,g.frame⟩
def Grow.Ah{m h w m' h' w'}(g:Grow m h w.drew m' h' w'):Grow m h w m' h' w':=
 ⟨g.ext,g.len,g.new,g.tl,g.size,g.os,g.out,g.tape,g.frame⟩
def BR.lt{P m w e k}(h:BR P m w e k)(hl:k.live=true):e.cb<w.heap.size:=by
 cases k with
 |cells c mu tl=>obtain⟨cc,el,fz,h1,_⟩:=h;exact(Tw.1 h1).1
 |dead=>cases hl
 |aK es=>obtain⟨_,Pp,clock,h1,_⟩:=h;exact(Tw.1 h1).1
 |iter s pos=>exact(Tw.1 h.2.2).1
 |loop st ex ts ps asg body=>obtain⟨_,fn,tmps,Ov,N3,df,h1,_⟩:=h;exact(Tw.1 h1).1
def bA.add(m:bA)(b:Nat)(e:qc):bA:=λx=>if x=b then some e else m x
def bA.pK{m:bA}{b:Nat}(e:qc)(h:m b=none):m.le (m.add b e):=by
 intro x y hx;unfold bA.add;by_cases hb:x=b
 ·subst hb;rw[h]at hx;cases hx
 ·rw[Tt hb];exact hx
def eE{h k b}(hb:b<h.length):dt (h++[k]) b=dt h b:=by
 unfold dt;rw[Tj hb]
def iK{P:Program}{m:bA}{h:af}{w:World}(hr:HR P m h w)(o:Obj)(k:ai)(e:qc)(he:e.cb=w.heap.size)(ho:e.own=true)
  (hk:∀m':bA,m.le m'->BR P m' (w.alloc o) e k):
  HR P (m.add h.length e) (h++[k]) (w.alloc o)/\Grow m h w (m.add h.length e) (h++[k]) (w.alloc o):=by
 have OA:m h.length=none:=by
  exact JF
 have hle:=bA.pK e OA;have hold:∀b x,m b=some x->(m.add h.length e) b=some x:=hle;have hheap:∀i,i<w.heap.size->(w.alloc o).heap[i]? =w.heap[i]? :=λi hi=>Go.RowKit.Below.heap_alloc w o i hi
 have QR:∀b x k',m b=some x->h[b]? =some k'->k'.live=true->x.cb<w.heap.size:=λb x k' hb hk' hl=>(hr.dx b x k' hb hk').lt hl
 refine⟨⟨?_,?_,?_,?_,?_⟩,⟨?_,Si,?_,?_,Si,rfl,rfl,rfl,λi hi _=>hheap i hi⟩⟩
 ·intro b x hb;unfold bA.add at hb;by_cases hbl:b=h.length
  ·subst hbl;simp
  ·rw[Tt hbl]at hb;have:=hr.bZ _ _ hb;simp;omega
 ·intro b x k' hb hk';unfold bA.add at hb;by_cases hbl:b=h.length
  ·subst hbl;rw[Ty rfl]at hb;cases hb;simp at hk';subst hk';exact hk _ hle
  ·rw[Tt hbl]at hb;have hlt:=hr.bZ _ _ hb;rw[Tj hlt]at hk';have h0:=hr.dx b x k' hb hk';by_cases hl:k'.live=true
   ·exact(h0.mono hle).heap (hheap _ (h0.lt hl))
   ·cases k'<;>first|trivial|exact absurd rfl hl
 ·intro b1 b2 e1 e2 k1 k2 hne h1 h2 hk1 NG hcb;unfold bA.add at h1 h2;by_cases On:b1=h.length
  ·subst On;rw[Ty rfl]at h1;cases h1;have Ol:b2≠h.length:=λx=>hne x.symm
   rw[Tt Ol]at h2;have hlt:=hr.bZ _ _ h2;rw[Tj hlt]at NG;by_cases hl:k2.live=true
   ·have:=QR _ _ _ h2 NG hl;omega
   ·cases k2<;>first|(cases k1<;>trivial)|exact absurd rfl hl
  ·rw[Tt On]at h1;have hlt1:=hr.bZ _ _ h1;rw[Tj hlt1]at hk1;by_cases Ol:b2=h.length
   ·subst Ol;rw[Ty rfl]at h2;cases h2;by_cases hl:k1.live=true
    ·have:=QR _ _ _ h1 hk1 hl;omega
    ·cases k1<;>first|trivial|exact absurd rfl hl
   ·rw[Tt Ol]at h2;have PV:=hr.bZ _ _ h2;rw[Tj PV]at NG;exact hr.sep b1 b2 e1 e2 k1 k2 hne h1 h2 hk1 NG hcb
 ·intro g hg;obtain⟨x,hx,h1⟩:=hr.eZ g hg;exact⟨x,hold _ _ hx,h1⟩
 ·intro b x hb;unfold bA.add at hb;simp only[World.size_alloc];by_cases hbl:b=h.length
  ·rw[Ty hbl]at hb;cases hb;omega
  ·rw[Tt hbl]at hb;have:=hr.lt _ _ hb;omega
 ·intro b hb;unfold bA.add;rw[Tt Om]
 ·intro b x hb hx;unfold bA.add at hx;by_cases hbl:b=h.length
  ·rw[Ty hbl]at hx;cases hx;exact⟨ho,.inl Om⟩
  ·rw[Tt hbl]at hx;exact absurd (hr.bZ _ _ hx) Om
 ·intro b hb ht
  rwa [eE hb]at ht
def rY{P:Program}{m:bA}{w:World}{c:List AV}{vs:List Value}(hc:bY m c vs)(h1:c.all AV.one=true)(el:TypeId)(mu tl:Bool)(m':bA)(hm:m.le m'):
  BR P m' (w.alloc (.cells ⟨vs⟩ el)) ⟨w.heap.size,0,vs.length,true⟩ (.cells c mu tl):=by
 refine⟨⟨vs⟩,el,(0,0),World.alloc_heap_new w _,⟨by simp[hc.length],by simp[hc.length]⟩,?_,?_,λ_=>⟨rfl,λ_=>by simp[hc.length]⟩⟩
 ·intro i x hx;obtain⟨v,hv,hr⟩:=hc.get hx;exact⟨TM.1 h1 x (T6 hx),v,by simpa using hv,VR.mono hm _ _ hr⟩
 ·intro _;exact⟨Si,λi _=>by simp⟩
def jP{P m h w}(hr:HR P m h w){c vs}(hc:bY m c vs)(h1:c.all AV.one=true)(el:TypeId)(mu tl:Bool):
  ∃m',m' h.length=some ⟨w.heap.size,0,vs.length,true⟩/\HR P m' (h++[.cells c mu tl]) (w.alloc (.cells ⟨vs⟩ el))/\Grow m h w m' (h++[.cells c mu tl]) (w.alloc (.cells ⟨vs⟩ el)):=
 ⟨_,by simp[bA.add],iK hr (.cells ⟨vs⟩ el) (.cells c mu tl) ⟨w.heap.size,0,vs.length,true⟩ rfl rfl (λm' hm=>rY hc h1 el mu tl m' hm)⟩
def fx(b o n:Nat):(⟨b,o,none⟩:Addr).add n=⟨b,o+n,none⟩:=by
 unfold Addr.add;by_cases h:n=0
 ·simp[h]
 ·simp[h]
def cell_of{P m h w}(hr:HR P m h w){b e c mu tl}(he:m b=some e)(hb:h[b]? =some (.cells c mu tl))
  {i}{x}(hx:c[i]? =some x):x.one=true/\∃v,w.cell? ⟨e.cb,i+e.d,none⟩=some v/\VR m x v:=by
 obtain⟨cc,el,fz,h1,_,h3,_⟩:=hr.dx b e _ he hb;obtain⟨ho,v,hv,NH⟩:=h3 i x hx;exact⟨ho,v,by simp only[World.cell?,h1];rw[Nat.add_comm];simpa using hv,NH⟩
def kS{P m h w}(hr:HR P m h w){b e c mu tl}(he:m b=some e)(hb:h[b]? =some (.cells c mu tl))
  (o n:Nat) (hn:o+n<=c.length):∃vs,(loadCells ⟨e.cb,o+e.d,none⟩ n).run P w=.ok ⟨vs⟩ w/\bY m ((c.drop o).take n) vs/\((c.drop o).take n).all AV.one=true:=by
 have NO:∀j,j<n->∃x,c[o+j]? =some x:=λj hj=>⟨c[o+j],Tk Om⟩
 have Ok:∀j,j<n->∃v,w.cell? ⟨e.cb,o+e.d+j,none⟩=some v/\∃x,c[o+j]? =some x/\VR m x v:=by
  intro j hj;obtain⟨x,hx⟩:=NO j hj;obtain⟨_,v,hv,NH⟩:=cell_of hr he hb hx;exact⟨v,by rw[show o+e.d+j=o+j+e.d from by omega];exact hv,x,hx,NH⟩
 obtain⟨f,hf⟩:∃f:Nat->Value,∀j,j<n->w.cell? ⟨e.cb,o+e.d+j,none⟩=some (f j):=
  ⟨λj=>(w.cell? ⟨e.cb,o+e.d+j,none⟩).getD default,λj hj=>by obtain⟨v,hv,_⟩:=Ok j hj;simp[hv]⟩
 have Oq:bY m ((c.drop o).take n) ((List.range n).map f):=by
  refine bY.fF (by simp;omega) λi x hx=>?_
  have hi:i<n:=by
   have:=(Th.1 hx).1;simp at this;omega
  rw[Vc hi,Vm]at hx;obtain⟨v,hv,y,hy,NH⟩:=Ok i hi;rw[hx]at hy;cases hy;refine⟨f i,by simp[hi],?_⟩;have:=hf i hi;rw[hv]at this;cases this;exact NH
 refine⟨(List.range n).map f,?_,Oq,?_⟩
 ·have:=run_loadCells_list (P:=P) (w:=w) ⟨e.cb,o+e.d,none⟩ ((List.range n).map f) (λj v hj=>by
   have hi:j<n:=by
    have:=(Th.1 hj).1
    simpa using this
   rw[fx];simp[hi]at hj;rw[<-hj];exact hf j hi)
  simpa using this
 ·rw[TM];intro x hx;have NL:x∈c:=List.mem_of_mem_drop (Ut hx);obtain⟨i,hi,rfl⟩:=VA NL;exact(cell_of hr he hb (Tk hi)).1
def eJ(c:List AV)(o:Nat):List AV->List AV
 |[]=>c
 |x::xs=>eJ (c.set o x) (o+1) xs
def aS(h:af)(b b':Nat)(k:ai)(hb:b<h.length):(h.set b k)[b']? =if b' =b then some k else h[b']? :=by
 rw[List.getElem?_set];by_cases e:b=b'
 ·subst e;simp[hb]
 ·have e':¬b' =b:=λx=>e x.symm
  rw[Tt e,Tt e']
def lS{w:World}{cb i:Nat}{cc:Array Value}{el:TypeId}{fz:Nat×Nat}(h1:w.heap[cb]? =some (.cells cc el fz))(h:¬(fz.1<=i/\i<fz.2)):w.frozen? ⟨cb,i,none⟩=false:=by
 obtain⟨lo,hi⟩:=fz;simp only[World.frozen?,h1];simp only[Bool.and_eq_false_iff,UY];simp only at h;omega
def heap_setCell_same{w:World}{cb i:Nat}{cc:Array Value}{el:TypeId}{fz:Nat×Nat}(h1:w.heap[cb]? =some (.cells cc el fz))(v:Value):
  (w.setCell ⟨cb,i,none⟩ v).heap[cb]? =some (.cells (cc.setIfInBounds i v) el fz):=by
 obtain⟨hlt,hk⟩:=Tw.1 h1;simp only[World.setCell];rw[T4 (by rw[Array.size_modify];exact hlt),Array.getElem_modify_self,hk];simp
def xC{P:Program}{m:bA}{h:af}{w:World}(hr:HR P m h w){b:Nat}{e:qc}{c:List AV}{tl:Bool}(he:m b=some e)(hb:h[b]? =some (.cells c true tl))
  {i:Nat}(hi:i<c.length) {x:AV}{v:Value}(hx:x.one=true) (hv:VR m x v):
  (store ⟨e.cb,i+e.d,none⟩ v).run P w=.ok () (w.setCell ⟨e.cb,i+e.d,none⟩ v)/\
  HR P m (h.set b (.cells (c.set i x) true tl)) (w.setCell ⟨e.cb,i+e.d,none⟩ v)/\Grow m h w m (h.set b (.cells (c.set i x) true tl)) (w.setCell ⟨e.cb,i+e.d,none⟩ v):=by
 obtain⟨cc,el,fz,h1,⟨h2,h2'⟩,h3,h4,h5⟩:=hr.dx b e _ he hb;have hown:e.own=true:=(h5 (.inl rfl)).1;obtain⟨dq,hfz⟩:=h4 hown;have hbl:b<h.length:=hr.bZ _ _ he;have Ok:∃u,w.cell? ⟨e.cb,i+e.d,none⟩=some u:=⟨cc[i+e.d]'Om,by simp only[World.cell?,h1];exact T4 Om⟩;obtain⟨u,hu⟩:=Ok;have hfr:w.frozen? ⟨e.cb,i+e.d,none⟩=false:=lS h1 (hfz _ Om);have hother:∀k,k≠e.cb->(w.setCell ⟨e.cb,i+e.d,none⟩ v).heap[k]? =w.heap[k]? :=λk hk=>Go.RowKit.Below.heap_setCell w _ v k hk
 have QH:=heap_setCell_same (i:=i+e.d) h1 v;refine⟨?_,⟨?_,?_,?_,hr.eZ,λb' e' hb'=>by simpa using hr.lt b' e' hb'⟩,⟨λ_ _=>rfl,Si,?_,?_,Si,rfl,rfl,rfl,?_⟩⟩
 ·rw[run_store P w _ v .plain (hv.rn hx),hu];simp[hfr]
 ·intro b' e' hb';simpa using hr.bZ b' e' hb'
 ·intro b' e' k Ox hk;rw[aS h b b' _ hbl]at hk;by_cases hbb:b' =b
  ·subst hbb;rw[Ty rfl]at hk;cases hk;rw[he]at Ox;cases Ox;refine⟨_,el,fz,QH,⟨by simpa using h2,by simpa using h2'⟩,?_,λho=>⟨by simpa using dq,λj hj=>hfz j (by simpa using hj)⟩,λz=>⟨hown,λy=>by rw[Um];exact(h5 (.inl rfl)).2 y⟩⟩;intro j y hy;rw[List.getElem?_set]at hy;by_cases hij:i=j
   ·subst hij;rw[Ty rfl,Ty hi]at hy;cases hy;refine⟨hx,v,?_,hv⟩;rw[show e.d+i=i+e.d from by omega];rw[Uv Om]
   ·rw[Tt hij]at hy;obtain⟨ho,u',QF,hr'⟩:=h3 j y hy;refine⟨ho,u',?_,hr'⟩;rw[US Om];exact QF
  ·rw[Tt hbb]at hk;have h0:=hr.dx b' e' k Ox hk;by_cases hl:k.live=true
   ·refine h0.heap (hother _ ?_);intro hcb;have:=hr.sep b b' e e' _ k (λx=>hbb x.symm) he Ox hb hk hcb.symm;cases k<;>first|(cases hl;done)|exact absurd this.1 Si|exact this
   ·cases k<;>first|trivial|exact absurd rfl hl
 ·intro b1 b2 e1 e2 k1 k2 hne O5 NV hk1 NG hcb;rw[aS h b _ _ hbl]at hk1 NG;by_cases On:b1=b
  ·subst On;rw[Ty rfl]at hk1;cases hk1;rw[Tt (λx=>hne x.symm)]at NG;have:=hr.sep b1 b2 e1 e2 _ k2 hne O5 NV hb NG hcb;cases k2<;>first|trivial|exact absurd this.1 Si|exact this.elim
  ·rw[Tt On]at hk1;by_cases Ol:b2=b
   ·subst Ol;rw[Ty rfl]at NG;cases NG;have:=hr.sep b1 b2 e1 e2 k1 _ hne O5 NV hk1 hb hcb;cases k1<;>first|trivial|exact absurd this.2.1 Si|exact this.elim
   ·exact z53
 ·intro b' e' hb' Ox;exact absurd (hr.bZ _ _ Ox) Om
 ·intro b' hb' ht;unfold dt at ht ⊢;rw[aS h b b' _ hbl]at ht;by_cases hbb:b' =b
  ·subst hbb;rw[Ty rfl]at ht;rw[hb];exact ht
  ·exact Ba
 ·intro k hk hno;exact hother k (λhcb=>hno b e he hown hcb.symm)
theorem mK{P m}:∀(xs:List AV) (vs:List Value) {h}{w}(_:HR P m h w) {b}{e}{c}{tl}(_:m b=some e) (_:h[b]? =some (.cells c true tl))
  (a j:Nat) (_:a+j+xs.length<=c.length) (_:xs.all AV.one=true) (_:bY m xs vs),
  ∃w',(storeCells ⟨e.cb,a+e.d,none⟩ vs j).run P w=.ok () w'/\HR P m (h.set b (.cells (eJ c (a+j) xs) true tl)) w'/\Grow m h w m (h.set b (.cells (eJ c (a+j) xs) true tl)) w'
 |[],vs,h,w,hr,b,e,c,tl,he,hb,a,j,hlen,h1,hv=>by
  rw[aP]at hv;subst hv;have hbl:b<h.length:=hr.bZ _ _ he;have bo:h.set b (.cells (eJ c (a+j) []) true tl)=h:=by
   simp only[eJ]
   apply Vt
   intro i;rw[aS h b i _ hbl];by_cases hi:i=b
   ·subst hi;simp[hb]
   ·simp[hi]
  exact⟨w,rfl,by rw[bo];exact hr,by rw[bo];exact Grow.refl m h w hr.bZ⟩
 |x::xs,vs,h,w,hr,b,e,c,tl,he,hb,a,j,hlen,h1,hv=>by
  obtain⟨v,vs',rfl,hxv,Oq⟩:=aF.1 hv;simp only[Vu,TL]at h1;simp only[Tl]at hlen;obtain⟨NM,hr1,hg1⟩:=xC hr he hb (i:=a+j) Om h1.1 hxv;have hbl:b<h.length:=hr.bZ _ _ he;have On:(h.set b (.cells (c.set (a+j) x) true tl))[b]? =some (.cells (c.set (a+j) x) true tl):=by rw[aS h b b _ hbl,Ty rfl]
  obtain⟨w',hrun',hr',NY⟩:=mK xs vs' hr1 he On a (j+1) (by simp;omega) h1.2 Oq;have bo:(h.set b (.cells (c.set (a+j) x) true tl)).set b (.cells (eJ (c.set (a+j) x) (a+(j+1)) xs) true tl)=h.set b (.cells (eJ c (a+j) (x::xs)) true tl):=by
   rw[List.set_set];rfl
  rw[bo]at hr' NY;refine⟨w',?_,hr',Grow.trans hg1 NY hr.bZ⟩;simp only[storeCells,TA];rw[fx,show a+e.d+j=a+j+e.d from by omega,NM];exact hrun'
def eP(op:BinOp)(k:IntKind)(a b:Int):Option AV:=
 match op with
 |.add=>some (.int k (k.wrap (a+b)))
 |.sub=>some (.int k (k.wrap (a-b)))
 |.mul=>some (.int k (k.wrap (a*b)))
 |.quo=>if b=0 then none else some (.int k (k.wrap (a.tdiv b)))
 |.rem=>if b=0 then none else some (.int k (a.tmod b))
 |.and=>some (.int k (k.wrap (BitVec.ofInt k.bits a &&& BitVec.ofInt k.bits b).toNat))
 |.or=>some (.int k (k.wrap (BitVec.ofInt k.bits a |||BitVec.ofInt k.bits b).toNat))
 |.xor=>some (.int k (k.wrap (BitVec.ofInt k.bits a^^^BitVec.ofInt k.bits b).toNat))
 |.andNot=>some (.int k (k.wrap (BitVec.ofInt k.bits a &&& ~~~ (BitVec.ofInt k.bits b)).toNat))
 |.eql=>some (.bool (a==b))
 |.neq=>some (.bool (a !=b))
 |.lss=>some (.bool (decide (a<b)))
 |.leq=>some (.bool (decide (a<=b)))
 |.gtr=>some (.bool (decide (a > b)))
 |.geq=>some (.bool (decide (a>=b)))
 |_=>none
def oG(op:BinOp)(x y:By):Option AV:=
 match op with
 |.add=>if x.length+y.length<2^62 then some (.str (x++y))else none
 |.eql=>some (.bool (x==y))
 |.neq=>some (.bool !(x==y))
 |.lss=>some (.bool (Op.bytesLess x y))
 |.leq=>some (.bool (Op.bytesLess x y||x==y))
 |.gtr=>some (.bool !(Op.bytesLess x y||x==y))
 |.geq=>some (.bool !(Op.bytesLess x y))
 |_=>none
def uv(op:BinOp)(k:IntKind)(a b:Int):Option AV:=
 if b<0 then none
 else match op with
  |.shl=>some (.int k (k.wrap (a*2^(min b.toNat k.bits))))
  |.shr=>some (.int k (a.fdiv (2^(min b.toNat k.bits))))
  |_=>none
def dE:BinOp->Bool
 |.shl=>true
 |.shr=>true
 |_=>false
def dm(op:BinOp):AV->AV->Option AV
 |.int k a,.int k' b=>if dE op then uv op k a b else if k=k' then eP op k a b else none
 |.str a,.str b=>oG op a b
 |_,_=>none
def um(op:UnOp):AV->Option AV
 |.int k n=>
  match op with
  |.neg=>some (.int k (k.wrap (0-n)))
  |.xor=>eP .xor k (if k.signed then -1 else k.max) n
  |_=>none
 |.bool b=>
  match op with
  |.not=>some (.bool !b)
  |_=>none
 |_=>none
def cJ:CK->AV->AV->Option Bool
 |.b,.bool a,.bool b=>some (a==b)
 |.i,.int k a,.int k' b=>if k=k' then some (a==b)else none
 |.s,.str a,.str b=>some (a==b)
 |_,_,_=>none
def cL:List CK->List AV->List AV->Option Bool
 |[],[],[]=>some true
 |k::ks,x::xs,y::ys=>
  match cJ k x y with
  |some true=>cL ks xs ys
  |some false=>some false
  |none=>none
 |_,_,_=>none
def wC(ks:List CK):AV->AV->Option Bool
 |.agg xs,.agg ys=>if xs.length=ks.length/\ys.length=ks.length then cL ks xs ys else none
 |_,_=>none
def Lv:AV->AV->Option Bool
 |.ah,.ah=>some true
 |.ah,.slice _ _ _ _=>some false
 |.slice _ _ _ _,.ah=>some false
 |_,_=>none
def Lw:AV->AV->Option Bool
 |.nilPtr,.nilPtr=>some true
 |.nilPtr,.ptr _ _=>some false
 |.ptr _ _,.nilPtr=>some false
 |_,_=>none
def Ly:AV->AV->Option Bool
 |.nilFunc,.nilFunc=>some true
 |.nilFunc,.func _ _ _=>some false
 |.func _ _ _,.nilFunc=>some false
 |_,_=>none
def Lx:AV->AV->Option Bool
 |.cH,.cH=>some true
 |.cH,.map _=>some false
 |.map _,.cH=>some false
 |_,_=>none
def kY(t:Mm)(x y:AV):Option Bool:=
 match t with
 |.one k=>cJ k x y
 |.agg ks=>wC ks x y
 |.BI=>Lv x y
 |.BJ=>Lw x y
 |.nV=>Ly x y
 |.Ic=>Lx x y
def byteOf:AV->Option UInt8
 |.int .u8 n=>some (UInt8.ofNat n.toNat)
 |_=>none
def cellsIn(es:Nat)(h:af):AV->Option (List AV×Nat)
 |.ah=>some ([],0)
 |.slice b o n es'=>
  if es' =es then
   match h[b]? with
   |some (.cells c _ _)=>if o+n*es<=c.length then some ((c.drop o).take (n*es),n)else none
   |_=>none
  else none
 |.str s=>if es=1 then some (s.map λb=>.int .u8 b.toNat,s.length)else none
 |_=>none
def iI(k:xy)(x:AV)(h:af):Option (AV×af):=
 match k with
 |.Fo k=>
  match x with
  |.int _ n=>some (.int k (k.wrap n),h)
  |_=>none
 |.same=>
  match x with
  |.str s=>some (.str s,h)
  |_=>none
 |.Lc k=>
  match x with
  |.int _ n=>some (.ug k (k.nearest n),h)
  |_=>none
 |.Lt k=>
  match x with
  |.ug s b=>
   match (s.decode b).toInt .zero with
   |some n=>if BL s b=false/\k.min<=n/\n<=k.max then some (.int k n,h)else none
   |none=>none
  |_=>none
 |.Lu k=>
  match x with
  |.ug s b=>if s=k then some (.ug k b,h)else none
  |_=>none
 |.rZ u=>some (.rZ u x,h)
 |.JM=>
  match x with
  |.ah=>some (.str [],h)
  |.slice b o n es=>
   match cellsIn 1 h (.slice b o n es)with
   |some (l,_)=>
    match l.mapM byteOf with
    |some r=>some (.str r,h)
    |none=>none
   |none=>none
  |_=>none
 |.Kz=>
  match x with
  |.str s=>some (.slice h.length 0 s.length 1,h++[.cells (s.map λb=>.int .u8 b.toNat) true true])
  |_=>none
def cZ(n:Nat)(z:List AV):List AV:=(List.replicate n z).flatten
def dA(c:List AV):List (Nat×Nat×AV)->Option (List AV)
 |[]=>some c
 |(off,n,v)::r=>if v.cells.length=n/\off+n<=c.length then dA (eJ c off v.cells) r else none
def E6:Option AV->Option Int
 |none=>some 0
 |some (.int _ i)=>some i
 |_=>none
def DM(n:Nat):Option AV->Option Int
 |none=>some n
 |some (.int _ i)=>some i
 |_=>none
def gj(lo hi:Option AV)(n:Nat):Option (Nat×Nat):=
 match E6 lo,DM n hi with
 |some l,some h=>if 0<=l/\l<=h/\h<=n then some (l.toNat,h.toNat)else none
 |_,_=>none
def gF(kk:CK)(k:AV):List (AV×AV)->Option (Option AV)
 |[]=>some none
 |(a,v)::r=>
  match cJ kk k a with
  |some true=>some (some v)
  |some false=>gF kk k r
  |none=>none
def mI(kk:CK)(k v:AV):List (AV×AV)->Option (List (AV×AV))
 |[]=>some [(k,v)]
 |(a,u)::r=>
  match cJ kk k a with
  |some true=>some ((k,v)::r)
  |some false=>(mI kk k v r).map ((a,u)::·)
  |none=>none
def nH:AV->AV->Option AV
 |.int k a,.int k' b=>if k=k' then some (.int k (if b > a then b else a))else none
 |_,_=>none
def nG:AV->AV->Option AV
 |.int k a,.int k' b=>if k=k' then some (.int k (if b<a then b else a))else none
 |_,_=>none
def fL(f:AV->AV->Option AV):AV->List AV->Option AV
 |x,[]=>some x
 |x,y::r=>
  match f x y with
  |some z=>fL f z r
  |none=>none
def xS(lk:LK)(h:af):AV->Option Nat
 |.str s=>if lk=.st then some s.length else none
 |.slice _ _ n _=>if lk=.sl then some n else none
 |.ah=>if lk=.sl then some 0 else none
 |.map r=>
  match h[r]? with
  |some (.aK es)=>if lk=.mp then some es.length else none
  |_=>none
 |.cH=>if lk=.mp then some 0 else none
 |_=>none
def cN(k:mD)(ρ:cC->AV)(h:af):Option (AV×af):=
 match k with
 |.dw x=>some (ρ x,h)
 |.pick c a b=>
  match ρ c with
  |.bool t=>some (if t then ρ a else ρ b,h)
  |_=>none
 |.box x=>if(ρ x).cells.all AV.one then some (.ptr h.length 0,h++[.cells (ρ x).cells true false])else none
 |.lX n x=>if(ρ x).cells.all AV.one=true/\(ρ x).cells.length=n then some (.ptr h.length 0,h++[.cells (ρ x).cells true false])else none
 |.build z ps=>
  match dA z (ps.map λp=>(p.1,p.2.1,ρ p.2.2))with
  |some c=>some (.agg c,h)
  |none=>none
 |.load n a=>
  match ρ a with
  |.ptr b o=>
   match h[b]? with
   |some (.cells c _ _)=>
    match n with
    |none=>
     match c[o]? with
     |some x=>some (x,h)
     |none=>none
    |some n=>if o+n<=c.length then some (.agg ((c.drop o).take n),h)else none
   |_=>none
  |_=>none
 |.store n a x=>
  match ρ a with
  |.ptr b o=>
   match h[b]? with
   |some (.cells c true tl)=>
    if(ρ x).cells.length=n/\(ρ x).cells.all AV.one=true/\o+n<=c.length then some (ar,h.set b (.cells (eJ c o (ρ x).cells) true tl))else none
   |_=>none
  |_=>none
 |.bd x=>
  match ρ x with
  |.ptr b o=>some (.ptr b o,h)
  |.func (.func f) a c=>some (.func (.func f) a c,h)
  |.func (.yield f) a c=>some (.func (.yield f) a c,h)
  |.func (.methodOf t n) a c=>some (.func (.methodOf t n) a c,h)
  |.func (.via t p f q) a c=>some (.func (.via t p f q) a c,h)
  |_=>none
 |.bin op x y=>
  match dm op (ρ x) (ρ y)with
  |some v=>some (v,h)
  |none=>none
 |.eqv neg t x y=>
  match kY t (ρ x) (ρ y)with
  |some b=>some (.bool (if neg then !b else b),h)
  |none=>none
 |.un op x=>
  match um op (ρ x)with
  |some v=>some (v,h)
  |none=>none
 |.conv k x=>iI k (ρ x) h
 |.rv f a c=>some (.func f (a.map ρ) (c.map ρ),h)
 |.lL=>some (.map h.length,h++[.aK []])
 |.tn es w z l c=>
  match ρ l,ρ c with
  |.int _ l,.int _ c=>
   if 0<=l/\l<=c/\(w:Int)*c<=2^48/\c<2^63 then some (.slice h.length 0 l.toNat es,h++[.cells (cZ l.toNat z) true true])else none
  |_,_=>none
 |.sl es x lo hi=>
  match ρ x with
  |.slice b o n es'=>
   if es' =es then
    match gj (lo.map ρ) (hi.map ρ) n with
    |some (l,h')=>some (.slice b (o+l*es) (h'-l) es,h)
    |none=>none
   else none
  |.ah=>
   match gj (lo.map ρ) (hi.map ρ) 0 with
   |some _=>some (.ah,h)
   |none=>none
  |_=>none
 |.Gu x lo hi=>
  match ρ x with
  |.str s=>
   match gj (lo.map ρ) (hi.map ρ) s.length with
   |some (l,h')=>some (.str ((s.drop l).take (h'-l)),h)
   |none=>none
  |_=>none
 |.JI k es x lo hi=>
  match ρ x with
  |.ptr b o=>
   match h[b]? with
   |some (.cells c _ _)=>
    if o+k*es<=c.length then
     match gj (lo.map ρ) (hi.map ρ) k with
     |some (l,h')=>some (.slice b (o+l*es) (h'-l) es,h)
     |none=>none
    else none
   |_=>none
  |_=>none
 |.bK off x=>
  match ρ x with
  |.ptr b o=>some (.ptr b (o+off),h)
  |_=>none
 |.bU es x i=>
  match ρ x,ρ i with
  |.slice b o n es',.int _ i=>if es' =es/\0<=i/\i<n then some (.ptr b (o+i.toNat*es),h)else none
  |_,_=>none
 |.pZ len es x i=>
  match ρ x,ρ i with
  |.ptr b o,.int _ i=>if 0<=i/\i<len then some (.ptr b (o+i.toNat*es),h)else none
  |_,_=>none
 |.part n off x=>
  match ρ x with
  |.agg cs=>
   match n with
   |none=>
    match cs[off]? with
    |some v=>some (v,h)
    |none=>none
   |some n=>some (.agg ((cs.drop off).take n),h)
  |_=>none
 |.Gx len es n x i=>
  match ρ x,ρ i with
  |.agg cs,.int _ i=>
   if 0<=i/\i<len then
    match n with
    |none=>
     match cs[i.toNat*es]? with
     |some v=>some (v,h)
     |none=>none
    |some n=>some (.agg ((cs.drop (i.toNat*es)).take n),h)
   else none
  |_,_=>none
 |.Gw x i=>
  match ρ x,ρ i with
  |.str s,.int _ i=>
   if 0<=i then
    match s[i.toNat]? with
    |some b=>some (.int .u8 b.toNat,h)
    |none=>none
   else none
  |_,_=>none
 |.look kk z ok m k=>
  match ρ m with
  |.cH=>some (if ok then .dh [z,.bool false]else z,h)
  |.map r=>
   match h[r]? with
   |some (.aK es)=>
    match gF kk (ρ k) es with
    |some (some v)=>some (if ok then .dh [v,.bool true]else v,h)
    |some none=>some (if ok then .dh [z,.bool false]else z,h)
    |none=>none
   |_=>none
  |_=>none
 |.eO kk m k x=>
  match ρ m with
  |.map r=>
   match h[r]? with
   |some (.aK es)=>
    match mI kk (ρ k) (ρ x) es with
    |some es'=>some (ar,h.set r (.aK es'))
    |none=>none
   |_=>none
  |_=>none
 |.zk x=>
  match ρ x with
  |.str s=>some (.ptr h.length 0,h++[.iter s 0])
  |_=>none
 |.o8 x=>
  match ρ x with
  |.ptr b 0=>
   match h[b]? with
   |some (.iter s pos)=>
    if pos<s.length then
     let d:=Utf8.decode ⟨⟨s⟩⟩ pos
     some (.dh [.bool true,.int .i64 pos,.int .i32 d.1],h.set b (.iter s (pos+d.2)))
    else some (.dh [.bool false],h)
   |_=>none
  |_=>none
 |.ext x i=>
  match ρ x with
  |.dh l=>
   match l[i]? with
   |some v=>some (v,h)
   |none=>none
  |_=>none
 |.len lk x=>
  match xS lk h (ρ x)with
  |some n=>some (.int .i64 n,h)
  |none=>none
 |.xR n=>some (.int .i64 n,h)
 |.wL es x y=>
  match ρ x,cellsIn es h (ρ y)with
  |.slice b o n es',some (ys,k)=>
   if es' =es then
    if min k n=0 then some (.int .i64 0,h)
    else
     match h[b]? with
     |some (.cells c true tl)=>if o+min k n*es<=c.length then some (.int .i64 (min k n:Nat),h.set b (.cells (eJ c o (ys.take (min k n*es))) true tl))else none
     |_=>none
   else none
  |.ah,some _=>some (.int .i64 0,h)
  |_,_=>none
 |.mx x l=>
  match fL nH (ρ x) (l.map ρ)with
  |some v=>some (v,h)
  |none=>none
 |.mn x l=>
  match fL nG (ρ x) (l.map ρ)with
  |some v=>some (v,h)
  |none=>none
 |_=>none
inductive ud (es w:Nat) (s y:AV) (h:af):AV->af->Prop
 |none (hy:cellsIn es h y=some ([],0)) (hs:s=.ah\/∃b o n,s=.slice b o n es):ud es w s y h s h
 |new (ys:List AV) (k:Nat) (mu:Bool) (hy:cellsIn es h y=some (ys,k)) (hk:0<k) (hb:k*w<=2^46) (hs:s=.ah):
   ud es w s y h (.slice h.length 0 k es) (h++[.cells ys mu true])
 |on (ys:List AV) (k b o n:Nat) (c:List AV) (mu:Bool) (hy:cellsIn es h y=some (ys,k)) (hk:0<k) (hb:(n+k)*w<=2^46) (hs:s=.slice b o n es)
   (hc:h[b]? =some (.cells c mu true)) (hl:o+n*es=c.length):
   ud es w s y h (.slice h.length 0 (n+k) es) (h.set b (.cells c false false)++[.cells (c.drop o++ys) false true])
 |over (ys:List AV) (k b o n:Nat) (c:List AV) (mu:Bool) (hy:cellsIn es h y=some (ys,k)) (hk:0<k) (hb:(n+k)*w<=2^46) (hs:s=.slice b o n es)
   (hc:h[b]? =some (.cells c true true)) (hl:o+n*es<=c.length):
   ud es w s y h (.slice h.length 0 (n+k) es) (h.set b .dead++[.cells ((c.drop o).take (n*es)++ys) mu true])
 |full (ys:List AV) (k b o n:Nat) (c:List AV) (hy:cellsIn es h y=some (ys,k)) (hk:0<k) (hb:(n+k)*w<=2^46) (hs:s=.slice b o n es)
   (hc:h[b]? =some (.cells c true false)) (hl:o+n*es=c.length):
   ud es w s y h (.slice h.length 0 (n+k) es) (h++[.cells (c.drop o++ys) true true])
def wrap64{n}(h0:-9223372036854775808<=n)(h1:n<9223372036854775808):IntKind.i64.wrap n=n:=by
 show(if(true&&decide (n%(18446744073709551616:Int)>=(9223372036854775808:Int)))=true then n%(18446744073709551616:Int)-18446744073709551616 else n%(18446744073709551616:Int))=n;simp only[Vv,T3];split<;>omega
def Ej{n}(h0:0<=n)(h1:n<256):IntKind.u8.wrap n=n:=by
 show(if(false&&decide (n%(256:Int)>=(128:Int)))=true then n%(256:Int)-256 else n%(256:Int))=n;exact z159
def vF{n}(h0:0<=n)(h1:n<18446744073709551616):IntKind.u64.wrap n=n:=by
 show(if(false&&decide (n%(18446744073709551616:Int)>=(9223372036854775808:Int)))=true then n%(18446744073709551616:Int)-18446744073709551616 else n%(18446744073709551616:Int))=n;exact z159
def dF(P:Program)(m:bA)(h:af)(w:World)(v:AV)(h':af)(r:Result Next):Prop:=
 ∃cv w' m',(r=.ok (.value cv) w'\/(r=.ok .skip w'/\cv=undef))/\VR m' v cv/\HR P m' h' w'/\Grow m h w m' h' w'
def dF.same{P m h w v cv r}(hr:HR P m h w)(hv:VR m v cv)(e:r=.ok (.value cv) w):dF P m h w v h r:=
 ⟨cv,w,m,.inl e,hv,hr,Grow.refl m h w hr.bZ⟩
def iv(m:bA):VR m ar undef:=⟨[],rfl,rfl⟩
theorem tr(m:bA)(n:Nat)(ih:∀v a,kj n v=some a->VR m a v):∀(l:List Value) (r:List AV),l.mapM (kj n)=some r->bY m r l
 |[],r,h=>by simp at h;subst h;exact aP.2 rfl
 |v::l,r,h=>by
  simp only[Vx,Ve,VG]at h;cases hv:kj n v with
  |none=>simp[hv]at h
  |some a=>
   cases hl:l.mapM (kj n)with
   |none=>simp[hv,hl]at h
   |some r'=>
    simp[hv,hl]at h;subst h;exact aF.2 ⟨v,l,rfl,ih v a hv,tr m n ih l r' hl⟩
def om(m:bA):∀(n:Nat) (v:Value) (a:AV),kj n v=some a->VR m a v
 | 0,v,a,h=>by simp[kj]at h
 |n+1,v,a,h=>by
  unfold kj at h;split at h
  ·cases h;rfl
  ·cases h;rfl
  ·cases h;exact⟨_,rfl,.inl rfl⟩
  ·cases h;exact⟨_,_,rfl,.inl rfl,.inl rfl⟩
  ·cases h;rfl
  ·cases h;rfl
  ·cases h;rfl
  ·cases h;rfl
  ·cases h;rfl
  ·exact MH
  ·exact MH
  ·cases h
def bD{P}{t:TypeId}{n}(h:c8 P t=some n)(w:World):(sizeOf t).run P w=.ok n w:=by
 unfold c8 at h;cases hi:P.info? t with
 |none=>simp[hi]at h
 |some i=>simp[hi]at h;subst h;simp[sizeOf,typeInfo,hi]
def jW{P}{t:TypeId}{d:TypeDesc}(h:P.underlying t=some d)(w:World):(isAgg t).run P w=.ok (hP d) w:=by
 cases d<;>simp[isAgg,Tz h,hP]
def tg{P}{t:TypeId}{n}(h:yA P t=some (some n))(w:World):(isAgg t).run P w=.ok true w/\c8 P t=some n:=by
 unfold yA at h;split at h
 case h_2=>cases h
 rename_i d hu;split at h
 case isFalse=>simp at h
 rename_i hd;refine⟨by rw[jW hu,hd],?_⟩;cases hi:P.info? t with
 |none=>simp[hi]at h
 |some i=>simp[hi]at h;simp[c8,hi,h]
def th{P}{t:TypeId}(h:yA P t=some none)(w:World):(isAgg t).run P w=.ok false w:=by
 unfold yA at h;split at h
 case h_2=>cases h
 rename_i d hu;split at h
 case isTrue=>cases hi:P.info? t<;>simp[hi]at h
 rename_i hd;rw[jW hu];simp at hd;rw[hd]
def iu{P}{t:TypeId}{z}(h:gO P t=some z)(w:World)(m:bA):∃cz,(zeroValue t).run P w=.ok cz w/\VR m z cz:=by
 unfold gO at h;cases hi:P.info? t with
 |none=>simp[hi]at h
 |some i=>
  cases hz:i.zero with
  |none=>simp[hi,hz]at h
  |some cz=>
   simp[hi,hz]at h;exact⟨cz,by simp[zeroValue,typeInfo,hi,hz],om m 4 cz z h⟩
section
variable {P:Program}{m:bA}{h h':af}{w:World}{v:AV}{ρ:cC->AV}{hr:HR P m h w}
def qw(hr:HR P m h w){x cx}(hx:VR m x cx)(h1:x.cells.all AV.one=true)(t:TypeId)(mu tl:Bool):
  ∃m',(newVar t cx).run P w=.ok ⟨w.heap.size,0,none⟩ (w.alloc (.cells cx.cells t))/\VR m' (.ptr h.length 0) (.pointer (some ⟨w.heap.size,0,none⟩))/\
   HR P m' (h++[.cells x.cells mu tl]) (w.alloc (.cells cx.cells t))/\Grow m h w m' (h++[.cells x.cells mu tl]) (w.alloc (.cells cx.cells t)):=by
 obtain⟨m',h0,h2,h3⟩:=jP hr hx.cells h1 t mu tl;refine⟨m',by simp[newVar,newRow],⟨_,h0,rfl⟩,h2,h3⟩
def zh{t:TypeId}{n a ca}(hn:yA P t=some n)(hr:HR P m h w)(ha:VR m (ρ a) ca)(hf:cN (.load n a) ρ h=some (v,h')):
  ∃cv,(Instr.loadAt t ca).run P w=.ok cv w/\VR m v cv/\h' =h:=by
 simp only[cN]at hf;split at hf
 case h_2=>cases hf
 rename_i b o hρ;rw[hρ]at ha;obtain⟨e,he,rfl⟩:=ha;split at hf
 case h_2=>cases hf
 rename_i c mu tl hb;cases n with
 |none=>
  simp only at hf;split at hf
  case h_2=>cases hf
  rename_i x hx;cases hf;obtain⟨_,cv,Pk,NH⟩:=cell_of hr he hb hx;exact⟨cv,by simp[Instr.loadAt,Instr.sureAddr,loadVar,th hn,Pk],NH,rfl⟩
 |some n=>
  simp only at hf;split at hf
  case isFalse=>cases hf
  rename_i hle;cases hf;obtain⟨hagg,dq⟩:=tg hn w;obtain⟨vs,NM,Oq,_⟩:=kS hr he hb o n hle;exact⟨.agg ⟨vs⟩,by simp[Instr.loadAt,Instr.sureAddr,loadVar,hagg,bD dq,NM],⟨vs,rfl,Oq⟩,rfl⟩
def Bo{t:TypeId}{n a x ca cx}(hn:c8 P t=some n)(hr:HR P m h w)(ha:VR m (ρ a) ca)(hx:VR m (ρ x) cx)(hf:cN (.store n a x) ρ h=some (v,h')):
  ∃w',(Instr.storeAt t ca cx).run P w=.ok () w'/\v=ar/\HR P m h' w'/\Grow m h w m h' w':=by
 simp only[cN]at hf;split at hf
 case h_2=>cases hf
 rename_i b o hρ;rw[hρ]at ha;obtain⟨e,he,rfl⟩:=ha;split at hf
 case h_2=>cases hf
 rename_i c tl hb;split at hf
 case isFalse=>cases hf
 rename_i hc;cases hf;obtain⟨h1,h2,h3⟩:=hc;have hcl:=hx.cells;obtain⟨w',NM,hr',NY⟩:=mK (ρ x).cells cx.cells.toList hr he hb o 0 Om h2 hcl;have hlen:cx.cells.size=n:=by have:=hcl.length;simp at this;omega
 refine⟨w',?_,rfl,hr',NY⟩;simp only[Instr.storeAt,Instr.sureAddr,storeVar,TA,TN,Tp,bD hn];simp[hlen,NM]
def sH(c:List Value)(o:Nat):List Value->List Value
 |[]=>c
 |x::xs=>sH (c.set o x) (o+1) xs
theorem ql{m}:∀{xs}{vs},bY m xs vs->∀{c}{cv}(o:Nat),bY m c cv->bY m (eJ c o xs) (sH cv o vs)
 |[],vs,hx,c,cv,o,hc=>by rw[aP]at hx;subst hx;exact hc
 |x::xs,vs,hx,c,cv,o,hc=>by
  obtain⟨v,vs',rfl,hv,Oq⟩:=aF.1 hx;exact ql Oq (o+1) (hc.set o hv)
theorem qK(off:Nat):∀(xs:List Value) (k:Nat) (cs:Array Value),(List.foldl (λcs (p:Value×Nat)=>cs.setIfInBounds (off+p.2) p.1) cs (xs.zipIdx k)).toList=sH cs.toList (off+k) xs
 |[],k,cs=>rfl
 |x::xs,k,cs=>by
  simp only[List.zipIdx_cons,List.foldl_cons,sH];rw[qK off xs (k+1)];simp[Nat.add_assoc]
theorem oa{m}(place:Nat->Option (Nat×Nat)):∀(ps:List (Nat×Value)) (qs:List (Nat×Nat×AV)) (c:List AV) (cc:Array Value) (c':List AV),
  ps.length=qs.length->(∀(i:Nat) p q,ps[i]? =some p->qs[i]? =some q->place p.1=some (q.1,q.2.1)/\VR m q.2.2 p.2)->bY m c cc.toList->dA c qs=some c'->
  ∃Oc,Instr.fill place cc ps=some Oc/\bY m c' Oc.toList
 |[],[],c,cc,c',_,_,hc,hf=>by simp[dA]at hf;subst hf;exact⟨cc,rfl,hc⟩
 |[],q::qs,c,cc,c',hl,_,_,_=>by simp at hl
 |p::ps,[],c,cc,c',hl,_,_,_=>by simp at hl
 |(i,x)::ps,(off,n,y)::qs,c,cc,c',hl,hp,hc,hf=>by
  obtain⟨Qg,hxy⟩:=hp 0 (i,x) (off,n,y) Si Si;simp only at Qg hxy;simp only[dA]at hf;split at hf
  case isFalse=>cases hf
  rename_i NX;obtain⟨hlen,hle⟩:=NX;have hcells:=hxy.cells;have dq:x.cells.size=n:=by have:=hcells.length;simp at this;omega
  have PK:cc.size=c.length:=by have:=hc.length;simpa using this
  have hfold:(x.cells.zipIdx.foldl (λcs (p:Value×Nat)=>cs.setIfInBounds (off+p.2) p.1) cc).toList=sH cc.toList off x.cells.toList:=by
   rw[<-Array.foldl_toList];have:=qK off x.cells.toList 0 cc
   simpa using this
  obtain⟨Oc,h1,h2⟩:=oa place ps qs (eJ c off y.cells) (x.cells.zipIdx.foldl (λcs (p:Value×Nat)=>cs.setIfInBounds (off+p.2) p.1) cc) c' (by simpa using hl)
   (λj p q hj hq=>hp (j+1) p q (by simpa using hj) (by simpa using hq)) (by rw[hfold];exact ql hcells off hc) hf
  refine⟨Oc,?_,h2⟩;simp only[Instr.fill,Qg];rw[Tt (by simp;omega)];exact h1
theorem nT{P}{t:TypeId}:∀{ps}{l},ka P t ps=some l->ps.length=l.length/\
  ∀(i:Nat) p q,ps[i]? =some p->l[i]? =some q->gQ P t p.1=some (q.1,q.2.1)/\cw p.2=some q.2.2
 |[],l,h=>by simp[ka]at h;subst h;exact⟨rfl,λi p q hp=>by simp at hp⟩
 |(i,x)::ps,l,h=>by
  simp only[ka]at h;split at h
  case h_2=>cases h
  rename_i off n y r h1 h2 h3;cases h;obtain⟨hl,hp⟩:=nT h3;refine⟨by simp[hl],λj p q hj hq=>?_⟩;cases j with
  |zero=>simp at hj hq;subst hj;subst hq;exact⟨h1,h2⟩
  |succ j=>exact hp j p q (by simpa using hj) (by simpa using hq)
def Ar{t:TypeId}{z:AV}{ps:List (Nat×Value)}{cz:Value}{Oc:Array Value}(hz:(P.info? t).bind (·.zero)=some cz)(hp:lG P t=true)(hf:Instr.fill (gQ P t) cz.cells ps=some Oc):
  P.built t ps=some Oc:=by
 unfold Program.built;cases hi:P.info? t with
 |none=>simp[hi]at hz
 |some it=>
  simp[hi]at hz;unfold lG at hp;split at hp
  ·rename_i fs hu;obtain⟨places,hpls⟩:=Option.isSome_iff_exists.1 hp;have Qg:gQ P t=λi=>places[i]? :=by
    funext i;simp only[gQ,hu,hpls]
   rw[Qg]at hf;simp only[hu,hz,hpls]
   simpa using hf
  ·rename_i n e hu;obtain⟨ie,hie⟩:=Option.isSome_iff_exists.1 hp;have Qg:gQ P t=λi=>some (i*ie.size,ie.size):=by
    funext i;simp only[gQ,hu,hie];rfl
   rw[Qg]at hf;simp only[hu,hz,hie];exact hf
  ·cases hp
def Br{t:TypeId}{z:AV}{ps:Array (Nat×Operand)}{l:List (Nat×Nat×cC)}{σ:Operand->Value}(hz:gO P t=some z)(hl:ka P t ps.toList=some l)(hp:lG P t=true)
  (hρ:∀p∈ps.toList,∀y,cw p.2=some y->VR m (ρ y) (σ p.2)) (hf:cN (.build z.cells l) ρ h=some (v,h')):
  ∃cv,(Instr.build t (ps.map λ(i,x)=>(i,σ x))).run P w=.ok cv w/\VR m v cv/\h' =h:=by
 simp only[cN]at hf;split at hf
 case h_2=>cases hf
 rename_i c hc;cases hf;obtain⟨hlen,SO⟩:=nT hl;have SF:∃cz,(P.info? t).bind (·.zero)=some cz/\VR m z cz:=by
  unfold gO at hz;cases hi:P.info? t with
  |none=>simp[hi]at hz
  |some i=>
   cases hzz:i.zero with
   |none=>simp[hi,hzz]at hz
   |some cz=>simp[hi,hzz]at hz;exact⟨cz,by simp[hzz],om m 4 cz z hz⟩
 obtain⟨cz,PZ,Qs⟩:=SF;obtain⟨Oc,OL,Oq⟩:=oa (m:=m) (gQ P t) (ps.toList.map λp=>(p.1,σ p.2)) (l.map λp=>(p.1,p.2.1,ρ p.2.2)) z.cells cz.cells c (by simp[hlen])
  (λi p q R6 hq=>by
   simp only[UG,TB]at R6 hq;obtain⟨p0,hp0,rfl⟩:=R6;obtain⟨q0,hq0,rfl⟩:=hq;obtain⟨h1,h2⟩:=SO i p0 q0 hp0 hq0;exact⟨h1,hρ p0 (T6 hp0) _ h2⟩) Qs.cells hc
 refine⟨.agg Oc,run_build w t _ Oc ?_,⟨Oc.toList,rfl,Oq⟩,rfl⟩;have:=Ar (z:=z) PZ hp OL
 simpa using this
def zg{t:TypeId}{n off l l'}(hn:yA P t=some n)(hl:bY m l l')
  (hf:(match n with|none=>(match l[off]? with|some v=>some (v,h)|none=>none)|some n=>some (.agg ((l.drop off).take n),h))=some (v,h')):
  ∃cv,(part t ⟨l'⟩ off).run P w=.ok cv w/\VR m v cv/\h' =h:=by
 cases n with
 |none=>
  simp only at hf;split at hf
  case h_2=>cases hf
  rename_i x hx;cases hf;obtain⟨cv,Pk,NH⟩:=hl.get hx;exact⟨cv,by simp[part,th hn,Pk],NH,rfl⟩
 |some n=>
  cases hf;obtain⟨h1,h2⟩:=tg hn w;refine⟨.agg ⟨(l'.drop off).take n⟩,?_,⟨_,rfl,(hl.drop off).take n⟩,rfl⟩;simp only[part,TA,h1,Tp,TQ,bD h2,TN];simp[List.extract_eq_take_drop]
end
section
variable {P:Program}{m:bA}{h h':af}{w:World}
def uz{op k a b v}(hs:dE op=false)(hf:eP op k a b=some v)(t:TypeId):
  ∃cv,(binOp op t (.int k a) (.int k b)).run P w=.ok cv w/\VR m v cv:=by
 cases op<;>simp only[eP,dE]at hf hs<;>first
  |(cases hs;done)
  |(cases hf;done)
  |skip
 all_goals first
  |(cases hf;exact⟨_,by simp[binOp,Op.intArith,Op.intBits,Op.intCmp],rfl⟩)
  |(split at hf
    ·cases hf
    ·rename_i hb;cases hf;exact⟨_,by simp[binOp,Op.intDiv,hb],rfl⟩)
def ux{op k k' a b v}(hs:dE op=true)(hf:uv op k a b=some v)(t:TypeId):
  ∃cv,(binOp op t (.int k a) (.int k' b)).run P w=.ok cv w/\VR m v cv:=by
 unfold uv at hf;split at hf
 ·cases hf
 ·rename_i hb;cases op<;>first
   |(cases hs;done)
   |(cases hf;exact⟨_,by simp[binOp,Op.shift,hb],rfl⟩)
def toList_mk(l:By):(⟨⟨l⟩⟩:ByteArray).toList=l:=by rw[ByteArray.toList_eq]
def yj(a b:By):(⟨⟨a⟩⟩:ByteArray)++⟨⟨b⟩⟩=⟨⟨a++b⟩⟩:=by
 apply ByteArray.ext
 rw[ByteArray.data_append];simp
def uw{op a b v}(hf:oG op a b=some v)(t:TypeId):
  ∃cv,(binOp op t (.string ⟨⟨a⟩⟩) (.string ⟨⟨b⟩⟩)).run P w=.ok cv w/\VR m v cv:=by
 cases op<;>simp only[oG]at hf<;>first
  |(cases hf;done)
  |skip
 all_goals first
  |(cases hf;exact⟨_,by simp[binOp,Op.stringOp,toList_mk],rfl⟩)
  |(split at hf
    ·rename_i hlen;cases hf;refine⟨.string ⟨⟨a++b⟩⟩,?_,rfl⟩;have hn:¬(IntKind.i64.max<(((⟨⟨a⟩⟩:ByteArray).size+(⟨⟨b⟩⟩:ByteArray).size:Nat):Int)):=by
      show ¬((9223372036854775807:Int)<((a.length+b.length:Nat):Int));omega
     simp only[binOp,Op.stringOp,GT.gt,Tt hn,yj,TN]
    ·cases hf)
def Bs{op x v cx}(hx:VR m x cx)(hf:um op x=some v):∃cv,(Op.unary op cx).run P w=.ok cv w/\VR m v cv:=by
 cases x with
 |int k n=>
  rw[VR]at hx;subst hx;cases op with
  |neg=>simp only[um,TG]at hf;subst hf;exact⟨_,rfl,rfl⟩
  |xor=>simp only[um,eP,TG]at hf;subst hf;exact⟨_,rfl,rfl⟩
  |not=>simp[um]at hf
  |plus=>simp[um]at hf
 |bool b=>
  rw[VR]at hx;subst hx;cases op<;>simp only[um]at hf<;>first
   |(cases hf;done)
   |(cases hf;exact⟨_,by simp[Op.unary],rfl⟩)
 |_=>cases op<;>simp[um]at hf
def oQ{t:TypeId}{k}(ht:match k with|.b=>P.underlying t=some .bool|.i=>∃k,P.underlying t=some (.int k)|.s=>P.underlying t=some .string)
  {x y}{cx cy}{b}(hx:VR m x cx) (hy:VR m y cy) (hf:cJ k x y=some b) (d:Nat):(Op.equalIn (d+1) t cx cy).run P w=.ok b w:=by
 unfold cJ at hf;split at hf
 ·rw[VR]at hx hy;subst hx;subst hy;cases hf;exact run_equalIn_bool' w d t _ _ ht
 ·split at hf
  ·rename_i hk;rw[VR]at hx hy;subst hx;subst hy;subst hk;cases hf;obtain⟨k',hu⟩:=ht;exact run_equalIn_int w d t _ k' _ _ hu
  ·cases hf
 ·rw[VR]at hx hy;subst hx;subst hy;cases hf;rw[run_equalIn_string w d t _ _ ht,toList_mk,toList_mk]
 ·cases hf
theorem gG:∀(ks ks':List CK) (xs ys xs' ys':List AV) (b:Bool),xs.length=ks.length->ys.length=ks.length->cL (ks++ks') (xs++xs') (ys++ys')=some b->
  (∃c,cL ks xs ys=some c/\((c=true/\cL ks' xs' ys' =some b)\/(c=false/\b=false)))
 |[],ks',[],[],xs',ys',b,_,_,h=>⟨true,rfl,.inl ⟨rfl,h⟩⟩
 |k::ks,ks',x::xs,y::ys,xs',ys',b,hx,hy,h=>by
  simp only[Uu,cL]at h ⊢;cases hc:cJ k x y with
  |none=>simp[hc]at h
  |some c=>
   cases c with
   |false=>simp[hc]at h;subst h;exact⟨false,Si,.inr ⟨rfl,rfl⟩⟩
   |true=>
    simp only[hc]at h;obtain⟨c,h1,h2⟩:=gG ks ks' xs ys xs' ys' b (by simpa using hx) (by simpa using hy) h;exact⟨c,by simpa using h1,h2⟩
 |[],_,_::_,_,_,_,_,h,_,_=>by simp at h
 |[],_,_,_::_,_,_,_,_,h,_=>by simp at h
 |_::_,_,[],_,_,_,_,h,_,_=>by simp at h
 |_::_,_,_,[],_,_,_,_,h,_=>by simp at h
def fX(d:TypeDesc)(l:List Value):Value:=if hP d then .agg ⟨l⟩else l.headD default
def lC{t:TypeId}{d:TypeDesc}{n}(hd:P.underlying t=some d)(hn:c8 P t=some n)(h1:hP d=false->n=1){l off}(hl:off+n<=l.length):
  (part t ⟨l⟩ off).run P w=.ok (fX d ((l.drop off).take n)) w:=by
 unfold fX;cases ha:hP d with
 |true=>
  simp only[part,TA,jW hd,ha,Tp,TQ,bD hn,TN];simp[List.extract_eq_take_drop]
 |false=>
  have:=h1 ha;subst this;have hlt:off<l.length:=Om
  simp only[part,TA,jW hd,ha,Tp];have e:(l.drop off).take 1=[l[off]]:=by
   rw[U9 hlt,Vf,List.take_zero]
  simp[e,hlt]
def qL{d}{t:TypeId}{ks}(hf:flat P d t=some ks):∃ds,P.underlying t=some ds/\(hP ds=false->ks.length=1):=by
 cases d with
 |zero=>simp[flat]at hf
 |succ d=>
  unfold flat at hf;split at hf
  ·exact Ei
  ·exact Ei
  ·exact Ei
  ·rename_i hu;exact⟨_,hu,λh=>by cases h⟩
  ·rename_i hu;exact⟨_,hu,λh=>by cases h⟩
  ·cases hf
def nQ{t:TypeId}{fs}(hu:P.underlying t=some (.struct fs)):P.fieldsOf t=fs:=by simp[Program.fieldsOf,hu]
def zj:∀(d:Nat) (t:TypeId) (ks:List CK),flat P d t=some ks->∀(D:Nat),d<=D->∀(ds:TypeDesc),P.underlying t=some ds->
  ∀(xs ys:List AV) (vx vy:List Value) (b:Bool),xs.length=ks.length->ys.length=ks.length->bY m xs vx->bY m ys vy->cL ks xs ys=some b->
  ∀w:World,(Op.equalIn D t (fX ds vx) (fX ds vy)).run P w=.ok b w:=by
 intro d
 induction d with
 |zero=>intro t ks hf;simp[flat]at hf
 |succ d ih=>
  intro t ks hf D hD ds Qx xs ys vx vy b P8 P7 hx hy he w;obtain⟨D,rfl⟩:∃D',D=D'+1:=⟨D-1,Om⟩;have hone:∀{k:CK},ks=[k]->hP ds=false->(match k with|.b=>P.underlying t=some .bool|.i=>∃k,P.underlying t=some (.int k)|.s=>P.underlying t=some .string)->(Op.equalIn (D+1) t (fX ds vx) (fX ds vy)).run P w=.ok b w:=by
   intro k hk hd ht;subst hk
   match xs,ys,P8,P7 with
   |[x],[y],_,_=>
    obtain⟨cx,_,rfl,RI,h2⟩:=aF.1 hx;obtain⟨cy,_,rfl,hcy,h3⟩:=aF.1 hy;rw[aP]at h2 h3;subst h2;subst h3;simp only[cL]at he;have Ox:cJ k x y=some b:=by
     cases hc:cJ k x y with
     |none=>simp[hc]at he
     |some c=>cases c<;>simp[hc]at he<;>simp[he]
    simp only[fX,hd,List.headD_cons,T8,TT];exact oQ ht RI hcy Ox D
  unfold flat at hf;split at hf
  ·exact z143
  ·rename_i hu;rw[hu]at Qx;cases Qx;cases hf;exact hone rfl rfl ⟨_,hu⟩
  ·exact z143
  ·rename_i fs hu;rw[hu]at Qx;cases Qx;split at hf
   case isFalse=>cases hf
   rename_i bp;simp only[fX,hP,TQ];rw[run_equalIn_struct w D t ⟨vx⟩ ⟨vy⟩ (by rw[nQ hu];exact hu) bp,nQ hu];have key:∀(fl:List Field) (off:Nat) (ks:List CK) (xs ys:List AV) (b:Bool),tN P (flat P d) fl off=some ks->xs.length=ks.length->ys.length=ks.length->
     bY m xs (vx.drop off)->bY m ys (vy.drop off)->cL ks xs ys=some b->(Op.eqFields D ⟨vx⟩ ⟨vy⟩ fl).run P w=.ok b w:=by
    intro fl
    induction fl with
    |nil=>
     intro off ks xs ys b Of P8 P7 hx hy he;simp only[tN,TG]at Of;subst Of
     match xs,ys,P8,P7 with
     |[],[],_,_=>cases he;rfl
    |cons f fl ihf=>
     intro off ks xs ys b Of P8 P7 hx hy he;simp only[tN]at Of;split at Of
     case h_2=>cases Of
     rename_i k1 i hk1 hi;split at Of
     case isFalse=>cases Of
     rename_i NX;obtain⟨hname,hoff,dq,hpos⟩:=NX;split at Of
     case h_2=>cases Of
     rename_i k2 NG;cases Of;subst hoff;obtain⟨ds',PY,h1'⟩:=qL hk1;have Oe:c8 P f.type=some k1.length:=by simp[c8,hi,dq]
     have SW:xs=xs.take k1.length++xs.drop k1.length:=(Uz _ _).symm;have SV:ys=ys.take k1.length++ys.drop k1.length:=(Uz _ _).symm;simp only[Tg]at P8 P7;rw[SW,SV]at he;obtain⟨c,hc1,S7⟩:=gG k1 k2 _ _ _ _ b (by simp;omega) (by simp;omega) he;have Qd:f.offset+k1.length<=vx.length:=by have:=hx.length;simp at this;omega
     have hvy:f.offset+k1.length<=vy.length:=by have:=hy.length;simp at this;omega
     simp only[Op.eqFields,Ty hname,TA,lC PY Oe (λh=>h1' h) Qd,lC PY Oe (λh=>h1' h) hvy,Tp];rw[ih f.type k1 hk1 D Om ds' PY _ _ _ _ c (by simp;omega) (by simp;omega) (hx.take k1.length) (hy.take k1.length) hc1 w];rcases S7 with⟨rfl,hr⟩|⟨rfl,rfl⟩
     ·simp only[Tp,TU,T8,TT];exact ihf (f.offset+k1.length) k2 _ _ b NG (by simp;omega) (by simp;omega) (by have:=hx.drop k1.length;rwa [UL]at this) (by have:=hy.drop k1.length;rwa [UL]at this) hr
     ·simp
   exact key fs.toList 0 ks xs ys b hf P8 P7 (by simpa using hx) (by simpa using hy) he
  ·rename_i len e hu;rw[hu]at Qx;cases Qx;split at hf
   case h_2=>cases hf
   rename_i k1 i hk1 hi;split at hf
   case isFalse=>cases hf
   rename_i NX;obtain⟨dq,hpos⟩:=NX;cases hf;obtain⟨ds',PY,h1'⟩:=qL hk1;have Oe:c8 P e=some k1.length:=by simp[c8,hi,dq]
   simp only[fX,hP,TQ];have key:∀(n j:Nat) (xs ys:List AV) (b:Bool),j+n=len->xs.length=(List.replicate n k1).flatten.length->ys.length=(List.replicate n k1).flatten.length->
     bY m xs (vx.drop (j*k1.length))->bY m ys (vy.drop (j*k1.length))->cL (List.replicate n k1).flatten xs ys=some b->
     (forIn (m:=Sem) (List.range' j n) ((none,()):Option Bool×Unit) λ(i:Nat) (_:Option Bool×Unit)=>do
      let a <-part e ⟨vx⟩ (i*k1.length)
      let c <-part e ⟨vy⟩ (i*k1.length)
      let r <-Op.equalIn D e a c
      if(!r)=true then pure (ForInStep.done (some false,()))else pure (ForInStep.yield (none,()))).run P w=.ok (if b then(none,())else(some false,())) w:=by
    intro n
    induction n with
    |zero=>
     intro j xs ys b _ P8 P7 _ _ he;simp only[VB,List.flatten_nil,Tr]at P8 P7 he
     match xs,ys,P8,P7 with
     |[],[],_,_=>cases he;rfl
    |succ n ihn=>
     intro j xs ys b hj P8 P7 hx hy he;simp only[UN,Ul,Tg]at P8 P7 he;have SW:xs=xs.take k1.length++xs.drop k1.length:=(Uz _ _).symm;have SV:ys=ys.take k1.length++ys.drop k1.length:=(Uz _ _).symm;rw[SW,SV]at he;obtain⟨c,hc1,S7⟩:=gG k1 _ _ _ _ _ b (by simp;omega) (by simp;omega) he;have Qd:j*k1.length+k1.length<=vx.length:=by have:=hx.length;simp at this;omega
     have hvy:j*k1.length+k1.length<=vy.length:=by have:=hy.length;simp at this;omega
     simp only[List.range'_succ,List.forIn_cons,TA,lC PY Oe (λh=>h1' h) Qd,lC PY Oe (λh=>h1' h) hvy,Tp];rw[ih e k1 hk1 D Om ds' PY _ _ _ _ c (by simp;omega) (by simp;omega) (hx.take k1.length) (hy.take k1.length) hc1 w];rcases S7 with⟨rfl,hr⟩|⟨rfl,rfl⟩
     ·simp only[Tp,TU,T8,TT,TN];exact ihn (j+1) _ _ b Om (by rw[Vy];omega) (by rw[Vy];omega) (by have:=hx.drop k1.length;rw[UL]at this;rwa [Uw]) (by have:=hy.drop k1.length;rw[UL]at this;rwa [Uw]) hr
     ·simp
   have hk:=key len 0 xs ys b Om P8 P7 (by simpa using hx) (by simpa using hy) he;simp only[Op.equalIn,TA,Tz hu,Tp,bD Oe,Std.Legacy.Range.forIn_eq_forIn_range',Std.Legacy.Range.size];simp only[Nat.sub_zero,Nat.add_one_sub_one,Nat.div_one];rw[hk];cases b<;>rfl
  ·cases hf
end
def mC(m:bA)(ρ:cC->AV):Option cC->Option Value->Prop
 |none,none=>True
 |some x,some cx=>VR m (ρ x) cx
 |_,_=>False
section
variable {P:Program}{m:bA}{h h':af}{w:World}{ρ:cC->AV}{v:AV}
def dX{t e:TypeId}{i:TypeInfo}(hs:c9 P t=some (e,i)):P.underlying t=some (.slice e)/\P.info? e=some i:=by
 unfold c9 at hs;split at hs
 ·rename_i e' hu;cases hi:P.info? e' with
  |none=>simp[hi]at hs
  |some i'=>simp[hi]at hs;obtain⟨rfl,rfl⟩:=hs;exact⟨hu,hi⟩
 ·cases hs
def gN(n:Nat)(z:List AV):(cZ n z).length=n*z.length:=by simp[cZ]
def qd{z:List AV}{cz:Array Value}(hz:bY m z cz.toList)(hpos:0<z.length)(n k:Nat)(hk:k<=n):
  bY m (cZ k z) (((Array.range (n*cz.size)).map (cz[·% cz.size]!)).toList.take (k*z.length)):=by
 have dq:cz.size=z.length:=by have:=hz.length;simpa using this
 refine bY.fF ?_ ?_
 ·rw[gN];simp[dq,U3 hk]
 ·intro i x hx;have hi:i<k*z.length:=by have:=(Th.1 hx).1;rw[gN]at this;exact this
  have hmod:i%z.length<z.length:=Nat.mod_lt _ hpos;have NO:(cZ k z)[i]? =z[i%z.length]? :=by
   clear hx hk;unfold cZ
   induction k generalizing i with
   |zero=>omega
   |succ k ih=>
    rw[UN,Ul];by_cases hlt:i<z.length
    ·rw[Tj hlt,Nat.mod_eq_of_lt hlt]
    ·rw[To Om,ih (i-z.length) (by rw[Uw]at hi;omega) (Nat.mod_lt _ hpos)];congr 1;rw[<-Nat.mod_eq_sub_mod Om]
  rw[NO]at hx;obtain⟨y,hy,hr⟩:=hz.get hx;refine⟨y,?_,hr⟩;have hin:i<n*z.length:=Uh hi (Uj _ hk);rw[Vc hi,UD,Array.getElem?_map,Array.getElem?_range,dq,Ty hin];simp only[U4,TG];rw[getElem!_pos cz _ Om];have:=(Th.1 hy).2
  simpa using this
def yF{z}(hz:z.all AV.one=true)(n:Nat):(cZ n z).all AV.one=true:=by
 rw[TM]at hz ⊢;intro x hx;simp only[cZ,List.mem_flatten,List.mem_replicate]at hx;obtain⟨l,⟨_,rfl⟩,hx⟩:=hx;exact hz x hx
def EB{t e:TypeId}{i:TypeInfo}{z:AV}{l c:cC}{cl cc:Value}(hs:c9 P t=some (e,i))(hz:gO P e=some z)(hpos:0<i.size)(hzl:z.cells.length=i.size)(h1:z.cells.all AV.one=true)
  (hr:HR P m h w) (hl:VR m (ρ l) cl) (hc:VR m (ρ c) cc) (hf:cN (.tn i.size i.bytes z.cells l c) ρ h=some (v,h')):
  ∃cv w' m',(Instr.makeSlice t cl cc).run P w=.ok cv w'/\VR m' v cv/\HR P m' h' w'/\Grow m h w m' h' w':=by
 obtain⟨hu,hi⟩:=dX hs;simp only[cN]at hf;split at hf
 case h_2=>cases hf
 rename_i kl l' kc c' hρl hρc;rw[hρl,VR]at hl;rw[hρc,VR]at hc;subst hl;subst hc;split at hf
 case isFalse=>cases hf
 rename_i NX;obtain⟨h0,hlc,hb,hc63⟩:=NX;cases hf;obtain⟨cz,PZ,Qs⟩:=iu hz w m;have hzc:=Qs.cells;obtain⟨n,rfl⟩:=Int.eq_ofNat_of_zero_le (Int.le_trans h0 hlc);obtain⟨k,rfl⟩:=Int.eq_ofNat_of_zero_le h0;have hkn:k<=n:=Om
 have hwl:IntKind.i64.wrap (k:Int)=k:=wrap64 Om Om;have hwc:IntKind.i64.wrap (n:Int)=n:=wrap64 Om Om;have dq:cz.cells.size=z.cells.length:=by have:=hzc.length;simpa using this
 let row:Array Value:=(Array.range (n*cz.cells.size)).map (cz.cells[·% cz.cells.size]!)
 have hrow:bY m (cZ k z.cells) (row.toList.take (k*z.cells.length)):=qd hzc Om n k hkn;have hrs:row.size=n*i.size:=by simp[row,dq,hzl]
 let e':qc:=⟨w.heap.size,0,row.size,true⟩
 have Sh:=iK hr (.cells row e) (.cells (cZ k z.cells) true true) e' rfl rfl (λm' hm=>by
  refine⟨row,e,(0,0),World.alloc_heap_new w _,⟨?_,?_,rfl⟩,?_,λ_=>⟨rfl,λi _=>by simp⟩,λ_=>⟨rfl,λx=>by cases x⟩⟩
  ·exact Mr
  ·exact Mr
  ·intro j x hx;obtain⟨y,hy,NH⟩:=hrow.get hx;have hj:j<k*z.cells.length:=by have:=(Th.1 hx).1;rw[gN]at this;exact this
   rw[Vc hj]at hy;refine⟨TM.1 (yF h1 k) x (T6 hx),y,?_,VR.mono hm _ _ NH⟩;show row[0+j]? =some y;rw[TZ,<-UD];exact hy)
 refine⟨.slice (some ⟨w.heap.size,0,none⟩) k n,w.alloc (.cells row e),m.add h.length e',?_,⟨e',⟨w.heap.size,0,none⟩,n,by simp[bA.add],rfl,hkn,λ_=>rfl,?_⟩,Sh.1,Sh.2⟩
 ·have NU:(sizeOf e).run P w=.ok i.size w:=bD (by simp[c8,hi]) w;have Pv:¬((i.bytes:Int)*n > 2^48):=Om
  have QV:(typeInfo e).run P w=.ok i w:=by simp[typeInfo,hi]
  have SR:¬((n:Int)<0):=Om
  have hk0:¬((k:Int)<0):=Om
  have hkn':¬((k:Int)> (n:Int)):=Om
  simp only[Instr.makeSlice,TA,Tz hu,Tp,asInt,asIntOf,TN,QV,hwl,hwc,SR,hk0,hkn',Pv];simp only[Uq,Bool.or_self,T8,TT,run_askRoom,Tp,NU,U0,TA,Sem.run_ite,TN,PZ];by_cases SF:n*i.size=0
  ·simp only[SF,TQ,Tp,newRow,run_newObj,TA,TN];have:row=#[]:=by apply Array.eq_empty_of_size_eq_zero;omega
   have e0:(Array.range 0).map (λx=>(#[] :Array Value)[x%(#[] :Array Value).size]!)=#[]:=Si
   rw[this,e0];rfl
  ·simp only[SF,TT,Tp,newRow,run_newObj,TA,TN];have:row=(Array.range (n*i.size)).map (cz.cells[·% cz.cells.size]!):=by show(Array.range (n*cz.cells.size)).map _=_;rw[dq,hzl]
   rw[this];rfl
 ·show 0+0+n*i.size<=row.size;omega
def ke{lo hi}{n l u:Nat}(hb:gj lo hi n=some (l,u)):l<=u/\u<=n/\E6 lo=some (l:Int)/\DM n hi=some (u:Int):=by
 unfold gj at hb;split at hb
 case h_2=>cases hb
 rename_i a b ha hb';split at hb
 case isFalse=>cases hb
 rename_i hc;obtain⟨h0,h1,h2⟩:=hc;simp only[TG,Vs]at hb;obtain⟨rfl,rfl⟩:=hb;exact⟨Om,Om,by rw[ha];congr 1;omega,by rw[hb'];congr 1;omega⟩
def eU{lo hi Qo P5}(hlo:mC m ρ lo Qo)
  (hhi:mC m ρ hi P5) {n l u}(hb:gj (lo.map ρ) (hi.map ρ) n=some (l,u)) (isSlice:Bool) (cap:Nat) (hcap:n<=cap):
  (Instr.sliceBounds isSlice n cap Qo P5 none).run P w=.ok (l,u,cap) w:=by
 obtain⟨RD,hun,h1,h2⟩:=ke hb;have hh:∀(x:cC) (cx:Value),VR m (ρ x) cx->DM n (some (ρ x))=some (u:Int)->∃k,cx=.int k u:=by
  intro x cx hx hu;cases hρ:ρ x<;>simp[DM,hρ]at hu;subst hu;rw[hρ,VR]at hx;exact⟨_,hx⟩
 have hl:∀(x:cC) (cx:Value),VR m (ρ x) cx->E6 (some (ρ x))=some (l:Int)->∃k,cx=.int k l:=by
  intro x cx hx hu;cases hρ:ρ x<;>simp[E6,hρ]at hu;subst hu;rw[hρ,VR]at hx;exact⟨_,hx⟩
 have hcu:(u:Int)<=cap:=Om
 have hlu':(l:Int)<=u:=Om
 have hbu:∀(k:IntKind) (code:BoundsCode) (w:World),(Instr.sliceBound (.int k u) cap code).run P w=.ok u w:=by
  intro k code w;simp[Instr.sliceBound,asIntOf,hcu]<;>omega
 have hbl:∀(k:IntKind) (code:BoundsCode) (w:World),(Instr.sliceBound (.int k l) u code).run P w=.ok l w:=by
  intro k code w;simp[Instr.sliceBound,asIntOf]<;>omega
 cases lo with
 |none=>
  cases Qo with
  |some _=>exact hlo.elim
  |none=>
   simp only[Vp,E6,TG]at h1;cases hi with
   |none=>
    cases P5 with
    |some _=>exact hhi.elim
    |none=>
     simp only[Vp,DM,TG]at h2;have hn:u=n:=Om
     have hl0:l=0:=Om
     subst hn;subst hl0;simp[Instr.sliceBounds]
   |some y=>
    cases P5 with
    |none=>exact hhi.elim
    |some cy=>
     obtain⟨k,rfl⟩:=hh y cy hhi h2;have hl0:l=0:=Om
     subst hl0;simp[Instr.sliceBounds,hbu]
 |some x=>
  cases Qo with
  |none=>exact hlo.elim
  |some cx=>
   obtain⟨kx,rfl⟩:=hl x cx hlo h1;cases hi with
   |none=>
    cases P5 with
    |some _=>exact hhi.elim
    |none=>
     simp only[Vp,DM,TG]at h2;have hn:u=n:=Om
     subst hn;simp[Instr.sliceBounds,hbl]
   |some y=>
    cases P5 with
    |none=>exact hhi.elim
    |some cy=>
     obtain⟨k,rfl⟩:=hh y cy hhi h2;simp[Instr.sliceBounds,hbu,hbl]
def extract_mk(s:By)(l u:Nat):(⟨⟨s⟩⟩:ByteArray).extract l u=⟨⟨(s.drop l).take (u-l)⟩⟩:=by
 apply ByteArray.ext
 simp[ByteArray.data_extract,List.extract_eq_take_drop]
def Kw{t:TypeId}{es x lo hi cx Qo P5}{e:TypeId}(hu:P.underlying t=some (.slice e))(hes:c8 P e=some es)
  (hx:VR m (ρ x) cx) (hlo:mC m ρ lo Qo)
  (hhi:mC m ρ hi P5) (hf:cN (.sl es x lo hi) ρ h=some (v,h')):
  ∃cv,(Instr.sliceAt t cx Qo P5 none).run P w=.ok cv w/\VR m v cv/\h' =h:=by
 simp only[cN]at hf;split at hf
 ·rename_i b o n es' hρ;rw[hρ]at hx;obtain⟨en,ca,cap,N9,rfl,N2,Oa,hroom⟩:=hx;split at hf
  case isFalse=>cases hf
  rename_i hees;subst hees;split at hf
  case h_2=>cases hf
  rename_i l u hb;cases hf;obtain⟨RD,hun,_,_⟩:=ke hb;refine⟨.slice (some (if cap=l then ca else ca.add (l*es'))) (u-l) (cap-l),?_,⟨en,_,cap-l,N9,rfl,Om,?_,?_⟩,rfl⟩
  ·simp only[Instr.sliceAt,TA,Tz hu,Tp,Instr.slice,eU hlo hhi hb true cap N2,bD hes,TN];by_cases hcl:cap=l<;>simp[hcl]
  ·intro hpos;rw[Tt Om,Oa Om,fx];simp only[Addr.mk.injEq,VJ,and_true];omega
  ·have:cap=l+(cap-l):=Om
   rw[this,Vo]at hroom;omega
 ·rename_i hρ;rw[hρ,VR]at hx;subst hx;split at hf
  case h_2=>cases hf
  rename_i p hb;obtain⟨l,u⟩:=p;cases hf;obtain⟨RD,hun,_,_⟩:=ke hb;have hl0:l=0:=Om
  have Qt:u=0:=Om
  subst hl0;subst Qt;refine⟨.slice none 0 0,?_,rfl,rfl⟩;simp only[Instr.sliceAt,TA,Tz hu,Tp,Instr.slice,eU hlo hhi hb true 0 (Ts _),bD hes,TN];simp
 ·cases hf
def HE{t:TypeId}{x lo hi cx Qo P5}(hu:P.underlying t=some .string)
  (hx:VR m (ρ x) cx) (hlo:mC m ρ lo Qo)
  (hhi:mC m ρ hi P5) (hf:cN (.Gu x lo hi) ρ h=some (v,h')):
  ∃cv,(Instr.sliceAt t cx Qo P5 none).run P w=.ok cv w/\VR m v cv/\h' =h:=by
 simp only[cN]at hf;split at hf
 case h_2=>cases hf
 rename_i s hρ;rw[hρ,VR]at hx;subst hx;split at hf
 case h_2=>cases hf
 rename_i l u hb;cases hf;refine⟨.string ((⟨⟨s⟩⟩:ByteArray).extract l u),?_,by rw[extract_mk];rfl,rfl⟩;have hs:(⟨⟨s⟩⟩:ByteArray).size=s.length:=rfl;simp only[Instr.sliceAt,TA,Tz hu,Tp,Instr.slice];simp[hs,eU hlo hhi hb false s.length (Ts _)]
def HF{t:TypeId}{k es x lo hi cx Qo P5}{e:TypeId}(hu:P.underlying t=some (.array k e))(hes:c8 P e=some es)(hr:HR P m h w)
  (hx:VR m (ρ x) cx) (hlo:mC m ρ lo Qo)
  (hhi:mC m ρ hi P5) (hf:cN (.JI k es x lo hi) ρ h=some (v,h')):
  ∃cv,(Instr.sliceAt t cx Qo P5 none).run P w=.ok cv w/\VR m v cv/\h' =h:=by
 simp only[cN]at hf;split at hf
 case h_2=>cases hf
 rename_i b o hρ;rw[hρ]at hx;obtain⟨en,N9,rfl⟩:=hx;split at hf
 case h_2=>cases hf
 rename_i c mu tl hbk;split at hf
 case isFalse=>cases hf
 rename_i hle;split at hf
 case h_2=>cases hf
 rename_i l u hb;cases hf;obtain⟨RD,hun,_,_⟩:=ke hb;obtain⟨_,_,_,_,⟨_,dq⟩,_⟩:=hr.dx b en _ N9 hbk;refine⟨.slice (some (if k=l then⟨en.cb,o+en.d,none⟩else(⟨en.cb,o+en.d,none⟩:Addr).add (l*es))) (u-l) (k-l),?_,⟨en,_,k-l,N9,rfl,Om,?_,?_⟩,rfl⟩
 ·simp only[Instr.sliceAt,TA,Tz hu,Tp,Instr.sureAddr,TN,eU hlo hhi hb false k (Ts _),bD hes]
 ·intro hpos;rw[Tt Om,fx];simp only[Addr.mk.injEq,VJ,and_true];omega
 ·have:k=l+(k-l):=Om
  rw[this,Vo]at hle;omega
def oP{a f n}(hn:c8 P f.type=some n)(hpos:0<n):(fieldPlace a f).run P w=.ok (a.add f.offset) w:=by
 have:n≠0:=Om
 simp[fieldPlace,bD hn,this]
def EF{t:TypeId}{i n f x cx}(hfa:fieldAt P t i=some f)(hn:c8 P f.type=some n)(hpos:0<n)(hx:VR m (ρ x) cx)(hf:cN (.bK f.offset x) ρ h=some (v,h')):
  ∃cv,(Instr.fieldAt t cx i).run P w=.ok cv w/\VR m v cv/\h' =h:=by
 unfold Abs.fieldAt at hfa;split at hfa
 case h_2=>cases hfa
 rename_i fs hu;simp only[cN]at hf;split at hf
 case h_2=>cases hf
 rename_i b o hρ;cases hf;rw[hρ]at hx;obtain⟨e,he,rfl⟩:=hx;refine⟨_,?_,⟨e,he,rfl⟩,rfl⟩;simp only[Instr.fieldAt,TA,Tz hu,Tp,hfa,Instr.sureAddr,TN,oP hn hpos,fx];rw[Nat.add_right_comm]
def ED{t e:TypeId}{es x i cx ci}(hu:P.underlying t=some (.slice e))(hes:c8 P e=some es)(hx:VR m (ρ x) cx)(hi:VR m (ρ i) ci)(hf:cN (.bU es x i) ρ h=some (v,h')):
  ∃cv,(Instr.indexAt t cx ci).run P w=.ok cv w/\VR m v cv/\h' =h:=by
 simp only[cN]at hf;split at hf
 case h_2=>cases hf
 rename_i b o n es' k j Oo PM;rw[Oo]at hx;rw[PM,VR]at hi;subst hi;obtain⟨en,ca,cap,N9,rfl,N2,Oa,hroom⟩:=hx;split at hf
 case isFalse=>cases hf
 rename_i hc;obtain⟨rfl,h0,h1⟩:=hc;cases hf;refine⟨_,?_,⟨en,N9,rfl⟩,rfl⟩;simp only[Instr.indexAt,asIntOf,TA,TN,Tp,Tz hu];rw[Ty ⟨h0,h1⟩];simp only[TA,bD hes,Tp,TN,Oa Om,fx];rw[Nat.add_right_comm]
def EE{t e:TypeId}{len es x i cx ci}(hu:P.underlying t=some (.array len e))(hes:c8 P e=some es)(hx:VR m (ρ x) cx)(hi:VR m (ρ i) ci)(hf:cN (.pZ len es x i) ρ h=some (v,h')):
  ∃cv,(Instr.indexAt t cx ci).run P w=.ok cv w/\VR m v cv/\h' =h:=by
 simp only[cN]at hf;split at hf
 case h_2=>cases hf
 rename_i b o k j Oo PM;rw[Oo]at hx;rw[PM,VR]at hi;subst hi;obtain⟨en,N9,rfl⟩:=hx;split at hf
 case isFalse=>cases hf
 rename_i hc;obtain⟨h0,h1⟩:=hc;cases hf;refine⟨_,?_,⟨en,N9,rfl⟩,rfl⟩;simp only[Instr.indexAt,asIntOf,TA,TN,Tp,Tz hu,Instr.sureAddr];rw[Ty ⟨h0,h1⟩];simp only[TA,bD hes,Tp,TN,fx];rw[Nat.add_right_comm]
def Bp{t:TypeId}{i f n x cx}(hfa:fieldAt P t i=some f)(hn:yA P f.type=some n)(hx:VR m (ρ x) cx)(hf:cN (.part n f.offset x) ρ h=some (v,h')):
  ∃cv,(Instr.field t cx i).run P w=.ok cv w/\VR m v cv/\h' =h:=by
 unfold Abs.fieldAt at hfa;split at hfa
 case h_2=>cases hfa
 rename_i fs hu;simp only[cN]at hf;split at hf
 case h_2=>cases hf
 rename_i cs hρ;rw[hρ]at hx;obtain⟨l',rfl,hl⟩:=hx;obtain⟨cv,h1,h2,h3⟩:=zg (w:=w) hn hl (by cases n<;>exact hf);exact⟨cv,by simp only[Instr.field,TA,Tz hu,Tp,hfa,asAgg,TN,h1],h2,h3⟩
def HH{t e:TypeId}{len es n x i cx ci}(hu:P.underlying t=some (.array len e))(hes:c8 P e=some es)(hn:yA P e=some n)(hx:VR m (ρ x) cx)(hi:VR m (ρ i) ci)
  (hf:cN (.Gx len es n x i) ρ h=some (v,h')):∃cv,(Instr.index t cx ci).run P w=.ok cv w/\VR m v cv/\h' =h:=by
 simp only[cN]at hf;split at hf
 case h_2=>cases hf
 rename_i cs k j Oo PM;rw[Oo]at hx;rw[PM,VR]at hi;subst hi;obtain⟨l',rfl,hl⟩:=hx;split at hf
 case isFalse=>cases hf
 rename_i hc;obtain⟨cv,h1,h2,h3⟩:=zg (w:=w) (off:=j.toNat*es) hn hl (by cases n<;>exact hf);refine⟨cv,?_,h2,h3⟩;simp only[Instr.index,asIntOf,TA,TN,Tp,Tz hu];rw[Ty hc];simp only[TA,bD hes,Tp,h1]
def HG{t:TypeId}{x i cx ci}(hu:P.underlying t=some .string)(hx:VR m (ρ x) cx)(hi:VR m (ρ i) ci)
  (hf:cN (.Gw x i) ρ h=some (v,h')):∃cv,(Instr.index t cx ci).run P w=.ok cv w/\VR m v cv/\h' =h:=by
 simp only[cN]at hf;split at hf
 case h_2=>cases hf
 rename_i s k j Oo PM;rw[Oo,VR]at hx;rw[PM,VR]at hi;subst hi;subst hx;split at hf
 case isFalse=>cases hf
 rename_i h0;split at hf
 case h_2=>cases hf
 rename_i b hb;cases hf;refine⟨.int .u8 b.toNat,?_,rfl,rfl⟩;have hb':(⟨⟨s⟩⟩:ByteArray)[j.toNat]? =some b:=by
  show(if h:j.toNat<s.length then some (s[j.toNat])else none)=some b;obtain⟨hlt,he⟩:=Th.1 hb;rw[dif_pos hlt,he]
 simp only[Instr.index,asIntOf,TA,TN,Tp,Tz hu,Ty h0,hb']
end
def ai.isObj:ai->Bool
 |.aK _=>true
 |.iter _ _=>true
 |.loop _ _ _ _ _ _=>true
 |_=>false
section
variable {P:Program}{m:bA}{h h':af}{w:World}{ρ:cC->AV}{v:AV}
def iA(hr:HR P m h w){b e k k' o}(he:m b=some e)(hb:h[b]? =some k)(hk:k.isObj=true)(hk':k'.isObj=true\/k' =.dead)
  (hnew:BR P m (w.putObj e.cb o) e k'):HR P m (h.set b k') (w.putObj e.cb o)/\Grow m h w m (h.set b k') (w.putObj e.cb o):=by
 have hbl:b<h.length:=hr.bZ _ _ he;have QR:k.live=true:=by cases k<;>first|rfl|cases hk
 have hown:e.own=true:=by
  have:=hr.dx b e k he hb;cases k<;>first|exact this.1|(cases hk;done)
 have hother:∀i,i≠e.cb->(w.putObj e.cb o).heap[i]? =w.heap[i]? :=λi hi=>World.putObj_heap_other hi
 have hsep:∀b' e' k2,b'≠b->m b' =some e'->h[b']? =some k2->k2.live=true->e'.cb≠e.cb:=by
  intro b' e' k2 hne Ox NG hl hcb;have:=hr.sep b' b e' e k2 k hne Ox he NG hb hcb;cases k<;>cases k2<;>first|exact this|(cases hk;done)|(cases hl;done)
 refine⟨⟨?_,?_,?_,hr.eZ,λb' e' hb'=>by simpa using hr.lt b' e' hb'⟩,⟨λ_ _=>rfl,Si,?_,?_,Si,rfl,rfl,rfl,?_⟩⟩
 ·intro b' e' hb';simpa using hr.bZ b' e' hb'
 ·intro b' e' k2 Ox NG;rw[aS h b b' _ hbl]at NG;by_cases hbb:b' =b
  ·subst hbb;rw[Ty rfl]at NG;cases NG;rw[he]at Ox;cases Ox;exact hnew
  ·rw[Tt hbb]at NG;have h0:=hr.dx b' e' k2 Ox NG;by_cases hl:k2.live=true
   ·exact h0.heap (hother _ (hsep b' e' k2 hbb Ox NG hl))
   ·exact Eh
 ·intro b1 b2 e1 e2 k1 k2 hne O5 NV hk1 NG hcb;rw[aS h b _ _ hbl]at hk1 NG;by_cases On:b1=b
  ·subst On;rw[Ty rfl]at hk1;cases hk1;rw[Tt (λx=>hne x.symm)]at NG;rw[he]at O5;cases O5;by_cases hl:k2.live=true
   ·exact absurd hcb.symm (hsep b2 e2 k2 (λx=>hne x.symm) NV NG hl)
   ·cases k2<;>first|(cases k'<;>trivial)|exact absurd rfl hl
  ·rw[Tt On]at hk1;by_cases Ol:b2=b
   ·subst Ol;rw[Ty rfl]at NG;cases NG;rw[he]at NV;cases NV;by_cases hl:k1.live=true
    ·exact absurd hcb (hsep b1 e1 k1 hne O5 hk1 hl)
    ·cases k1<;>first|trivial|exact absurd rfl hl
   ·exact z53
 ·intro b' e' hb' Ox;exact absurd (hr.bZ _ _ Ox) Om
 ·intro b' hb' ht;unfold dt at ht ⊢;rw[aS h b b' _ hbl]at ht;by_cases hbb:b' =b
  ·subst hbb;rw[Ty rfl]at ht;rcases hk' with hk'|hk'
   ·cases k'<;>first|(cases hk';done)|(cases ht;done)
   ·subst hk';cases ht
  ·exact Ba
 ·intro i hi hno;exact hother i (λhcb=>hno b e he hown hcb.symm)
def iS{r o}(ho:w.heap[r]? =some o)(hc:o.isCells=false):(getObj r).run P w=.ok o w:=by
 cases o<;>first|(cases hc;done)|simp[getObj,Sem.run,ho]
def kM{r o o'}(ho:w.heap[r]? =some o)(hc:o.isCells=false):(setObj r o').run P w=.ok () (w.putObj r o'):=by
 cases o<;>first|(cases hc;done)|simp[setObj,Sem.run,ho,World.putObj]
def Ez{t:TypeId}{x cx}(hu:P.underlying t=some .string)(hr:HR P m h w)(hx:VR m (ρ x) cx)(hf:cN (.zk x) ρ h=some (v,h')):
  ∃cv w' m',(Instr.range t cx).run P w=.ok cv w'/\VR m' v cv/\HR P m' h' w'/\Grow m h w m' h' w':=by
 simp only[cN]at hf;split at hf
 case h_2=>cases hf
 rename_i s hρ;rw[hρ,VR]at hx;subst hx;cases hf;have Sh:=iK hr (.stringIter ⟨⟨s⟩⟩ 0) (.iter s 0) ⟨w.heap.size,0,0,true⟩ rfl rfl (λm' _=>⟨rfl,rfl,World.alloc_heap_new w _⟩);exact⟨.pointer (some ⟨w.heap.size,0,none⟩),_,_,by simp[Instr.range,Tz hu],⟨⟨w.heap.size,0,0,true⟩,by simp[bA.add],rfl⟩,Sh.1,Sh.2⟩
def Bq{t:TypeId}{x cx}(hr:HR P m h w)(hx:VR m (ρ x) cx)(hf:cN (.o8 x) ρ h=some (v,h')):
  ∃cv w' m',(Instr.next cx true t).run P w=.ok cv w'/\VR m' v cv/\HR P m' h' w'/\Grow m h w m' h' w':=by
 simp only[cN]at hf;split at hf
 case h_2=>cases hf
 rename_i b hρ;rw[hρ]at hx;obtain⟨e,he,rfl⟩:=hx;split at hf
 case h_2=>cases hf
 rename_i s pos hb;obtain⟨hown,hd0,hheap⟩:=hr.dx b e _ he hb;have hg:=iS (P:=P) hheap rfl;have dq:(⟨⟨s⟩⟩:ByteArray).size=s.length:=rfl;split at hf
 ·rename_i hlt;cases hf;have hbl:e.cb<w.heap.size:=(Tw.1 hheap).1;obtain⟨h1,h2⟩:=iA hr he hb rfl (k':=.iter s (pos+(Utf8.decode ⟨⟨s⟩⟩ pos).2)) (o:=.stringIter ⟨⟨s⟩⟩ (pos+(Utf8.decode ⟨⟨s⟩⟩ pos).2)) (.inl rfl) ⟨hown,hd0,World.putObj_heap_same hbl⟩;refine⟨.tuple #[.bool true,goInt pos,.int .i32 (Utf8.decode ⟨⟨s⟩⟩ pos).1],_,m,?_,⟨_,rfl,?_⟩,h1,h2⟩
  ·simp[Instr.next,hd0,hg,dq,hlt,kM hheap rfl]
  ·exact⟨_,_,rfl,rfl,_,_,rfl,rfl,_,_,rfl,rfl,rfl⟩
 ·rename_i hlt;cases hf;refine⟨.tuple #[.bool false],w,m,?_,⟨_,rfl,_,_,rfl,rfl,rfl⟩,hr,Grow.refl m h w hr.bZ⟩;simp[Instr.next,hd0,hg,dq,hlt]
def xV(kk:CK)(d:TypeDesc):Prop:=
 match kk with
 |.b=>d=.bool
 |.i=>∃i,d=.int i
 |.s=>d=.string
def qG{t:TypeId}{kk}(hk:uR P t=some kk):∃d,P.underlying t=some d/\xV kk d:=by
 unfold uR at hk;split at hk
 ·rename_i k hu;cases hk;exact⟨_,hu,k,rfl⟩
 ·rename_i hu;cases hk;exact⟨_,hu,rfl⟩
 ·rename_i hu;cases hk;exact⟨_,hu,rfl⟩
 ·cases hk
def wq{kk}{d:TypeDesc}(hd:xV kk d){k k' ck ck' b}(hk:VR m k ck)(hk':VR m k' ck')(he:cJ kk k k' =some b):
  Instr.sameNow d ck ck' =some b:=by
 unfold cJ at he;split at he
 ·rw[VR]at hk hk';subst hk;subst hk';cases hd;cases he;rfl
 ·split at he
  ·rename_i hkk;rw[VR]at hk hk';subst hk;subst hk';subst hkk;obtain⟨i,rfl⟩:=hd;cases he;simp[Instr.sameNow]
  ·cases he
 ·rw[VR]at hk hk';subst hk;subst hk';cases hd;cases he;simp[Instr.sameNow,toList_mk,beq_toListBytes]
 ·cases he
def kr(m:bA):List (AV×AV)->List MapEntry->Prop
 |[],l=>l=[]
 |p::r,l=>∃q s,l=q::s/\VR m p.1 q.key/\VR m p.2 q.val/\kr m r s
theorem kr.fF:∀{es}{l},l.length=es.length->(∀(i:Nat) (p:AV×AV),es[i]? =some p->∃q,l[i]? =some q/\VR m p.1 q.key/\VR m p.2 q.val)->kr m es l
 |[],l,hl,_=>Uk.1 (by simpa using hl)
 |p::r,[],hl,_=>by simp at hl
 |p::r,q::s,hl,h=>by
  obtain⟨q',hq,h1,h2⟩:=h 0 p Si;simp at hq;subst hq;exact⟨q,s,rfl,h1,h2,kr.fF (by simpa using hl) λi p hp=>by simpa using h (i+1) p (by simpa using hp)⟩
theorem kr.get:∀{es}{l},kr m es l->l.length=es.length/\∀(i:Nat) (p:AV×AV),es[i]? =some p->∃q,l[i]? =some q/\VR m p.1 q.key/\VR m p.2 q.val
 |[],l,h=>by cases h;exact⟨rfl,λi p hp=>by simp at hp⟩
 |p::r,l,h=>by
  obtain⟨q,s,rfl,h1,h2,h3⟩:=h;obtain⟨hl,hg⟩:=kr.get h3;refine⟨by simp[hl],λi p' hp=>?_⟩;cases i with
  |zero=>simp at hp;subst hp;exact⟨q,Si,h1,h2⟩
  |succ i=>simpa using hg i p' (by simpa using hp)
theorem pv{kk}{d:TypeDesc}(hd:xV kk d){k ck}(hk:VR m k ck):∀{es}{l}{r}(i:Nat),kr m es l->gF kk k es=some r->
  ∃cr,Instr.findNow d ck l i=some cr/\(match r,cr with|none,none=>True|some v,some (_,cv)=>VR m v cv|_,_=>False)
 |[],l,r,i,h,hf=>by cases h;cases hf;exact⟨none,rfl,trivial⟩
 |(a,v)::es,l,r,i,h,hf=>by
  obtain⟨q,s,rfl,h1,h2,h3⟩:=h;simp only[gF]at hf;cases he:cJ kk k a with
  |none=>simp[he]at hf
  |some b=>
   have hs:=wq hd hk h1 he;cases b with
   |true=>
    simp[he]at hf;subst hf;exact⟨some (i,q.val),by simp[Instr.findNow,hs],h2⟩
   |false=>
    simp only[he]at hf;obtain⟨cr,hcr,hm⟩:=pv hd hk (i+1) h3 hf;exact⟨cr,by simp[Instr.findNow,hs,hcr],hm⟩
def pT{t:TypeId}{d:TypeDesc}{kk}(hu:P.underlying t=some d)(hd:xV kk d)(b:Bool)(v:Value)(n:Nat):(Instr.checkKey b (n+1) t v).run P w=.ok () w:=by
 cases kk with
 |b=>cases hd;cases v<;>simp[Instr.checkKey,Tz hu]
 |i=>obtain⟨i,rfl⟩:=hd;cases v<;>simp[Instr.checkKey,Tz hu]
 |s=>cases hd;cases v<;>simp[Instr.checkKey,Tz hu]
def run_checkKey{t:TypeId}{d:TypeDesc}{kk}(hu:P.underlying t=some d)(hd:xV kk d)(b:Bool)(v:Value):(Instr.checkKey b 10000 t v).run P w=.ok () w:=pT hu hd b v 9999
def EC{t kt e:TypeId}{kk z ok x k cx ck}(hu:P.underlying t=some (.map kt e))(hkk:uR P kt=some kk)(hz:gO P e=some z)(hr:HR P m h w)(hx:VR m (ρ x) cx)(hk:VR m (ρ k) ck)
  (hf:cN (.look kk z ok x k) ρ h=some (v,h')):∃cv,(Instr.lookup t cx ck ok).run P w=.ok cv w/\VR m v cv/\h' =h:=by
 obtain⟨d,hud,hd⟩:=qG hkk;obtain⟨cz,PZ,Qs⟩:=iu hz w m;simp only[cN]at hf;split at hf
 ·rename_i hρ;rw[hρ,VR]at hx;subst hx;cases hf;refine⟨if ok then .tuple #[cz,.bool false]else cz,?_,?_,rfl⟩
  ·simp only[Instr.lookup,TA,Tz hu,Tp,TN,run_checkKey hud hd,Instr.findKey,Tz hud];simp[Instr.findNow,PZ]
  ·exact z130
 ·rename_i r hρ;rw[hρ]at hx;obtain⟨en,N9,rfl⟩:=hx;split at hf
  case h_2=>cases hf
  rename_i es hb;obtain⟨_,Pp,clock,hheap,hlen,NO⟩:=hr.dx r en _ N9 hb;have OI:kr m es Pp.toList:=kr.fF (by simpa using hlen) (λi p hp=>by obtain⟨q,hq,h1,h2⟩:=NO i p hp;exact⟨q,by simpa using hq,h1,h2⟩);have hg:=iS (P:=P) hheap rfl;split at hf
  ·rename_i u PA;cases hf;obtain⟨cr,hcr,hm⟩:=pv hd hk 0 OI PA;cases cr with
   |none=>exact hm.elim
   |some p=>
    obtain⟨i,cu⟩:=p;refine⟨if ok then .tuple #[cu,.bool true]else cu,?_,?_,rfl⟩
    ·simp only[Instr.lookup,TA,Tz hu,Tp,hg,TN,run_checkKey hud hd,Instr.findKey,Tz hud,hcr]
    ·cases ok
     ·exact hm
     ·exact⟨_,rfl,_,_,rfl,hm,_,_,rfl,rfl,rfl⟩
  ·rename_i PA;cases hf;obtain⟨cr,hcr,hm⟩:=pv hd hk 0 OI PA;cases cr with
   |some p=>exact hm.elim
   |none=>
    refine⟨if ok then .tuple #[cz,.bool false]else cz,?_,?_,rfl⟩
    ·simp only[Instr.lookup,TA,Tz hu,Tp,hg,TN,run_checkKey hud hd,Instr.findKey,Tz hud,hcr,PZ]
    ·exact z130
  ·cases hf
 ·cases hf
theorem VR.sameBits{kk k k' ck ck'}(hk:VR m k ck)(hk':VR m k' ck')(he:cJ kk k k' =some true)(n:Nat):Instr.sameBits n ck' ck=true:=by
 unfold cJ at he;split at he
 ·rw[VR]at hk hk';subst hk;subst hk';simp at he;simp[Instr.sameBits,he]
 ·split at he
  ·rename_i hkk;rw[VR]at hk hk';subst hk;subst hk';subst hkk;simp at he;simp[Instr.sameBits,he]
  ·cases he
 ·rw[VR]at hk hk';subst hk;subst hk';simp at he;subst he;simp[Instr.sameBits,beq_toListBytes]
 ·cases he
theorem vJ{kk}{d:TypeDesc}(hd:xV kk d){k x ck cx}(hk:VR m k ck)(hx:VR m x cx)(clock:Nat):∀{es es'}{l}(i:Nat),kr m es l->mI kk k x es=some es'->
  (∃j q,Instr.findNow d ck l i=some (some (i+j,q.val))/\l[j]? =some q/\Instr.sameBits 10000 q.key ck=true/\kr m es' (l.set j {q with key:=ck,val:=cx}))\/
  (Instr.findNow d ck l i=some none/\kr m es' (l++[{key:=ck,val:=cx,born:=clock}]))
 |[],es',l,i,h,hf=>by cases h;cases hf;exact .inr ⟨rfl,_,_,rfl,hk,hx,rfl⟩
 |(a,u)::es,es',l,i,h,hf=>by
  obtain⟨q,s,rfl,h1,h2,h3⟩:=h;simp only[mI]at hf;cases he:cJ kk k a with
  |none=>simp[he]at hf
  |some b=>
   have hs:=wq hd hk h1 he;cases b with
   |true=>
    simp[he]at hf;subst hf;exact .inl ⟨0,q,by simp[Instr.findNow,hs],Si,VR.sameBits hk h1 he 10000,_,_,rfl,hk,hx,h3⟩
   |false=>
    simp only[he,TB]at hf;obtain⟨es2,hes2,rfl⟩:=hf;rcases vJ hd hk hx clock (i+1) h3 hes2 with⟨j,q',hj,R5,hb,hr⟩|⟨hj,hr⟩
    ·exact .inl ⟨j+1,q',by simp[Instr.findNow,hs,hj];omega,by simpa using R5,hb,_,_,rfl,h1,h2,hr⟩
    ·exact .inr ⟨by simp[Instr.findNow,hs,hj],_,_,rfl,h1,h2,hr⟩
def EA{t kt e:TypeId}{kk x k u cx ck cu}(hu:P.underlying t=some (.map kt e))(hkk:uR P kt=some kk)(hr:HR P m h w)(hx:VR m (ρ x) cx)(hk:VR m (ρ k) ck)(hv:VR m (ρ u) cu)
  (hf:cN (.eO kk x k u) ρ h=some (v,h')):∃w',(Instr.mapUpdate t cx ck cu).run P w=.ok () w'/\v=ar/\HR P m h' w'/\Grow m h w m h' w':=by
 obtain⟨d,hud,hd⟩:=qG hkk;simp only[cN]at hf;split at hf
 case h_2=>cases hf
 rename_i r hρ;rw[hρ]at hx;obtain⟨en,N9,rfl⟩:=hx;split at hf
 case h_2=>cases hf
 rename_i es hb;split at hf
 case h_2=>cases hf
 rename_i es' hupd;cases hf;obtain⟨hown,Pp,clock,hheap,hlen,NO⟩:=hr.dx r en _ N9 hb;have OI:kr m es Pp.toList:=kr.fF (by simpa using hlen) (λi p hp=>by obtain⟨q,hq,h1,h2⟩:=NO i p hp;exact⟨q,by simpa using hq,h1,h2⟩);have hg:=iS (P:=P) hheap rfl;have hbl:en.cb<w.heap.size:=(Tw.1 hheap).1;have done:∀(ces':Array MapEntry) (c:Nat),kr m es' ces'.toList->HR P m (h.set r (.aK es')) (w.putObj en.cb (.map ces' c))/\Grow m h w m (h.set r (.aK es')) (w.putObj en.cb (.map ces' c)):=by
  intro ces' c PC;obtain⟨N1,NY⟩:=PC.get;exact iA hr N9 hb rfl (.inl rfl) ⟨hown,ces',c,World.putObj_heap_same hbl,by simpa using N1,λi p hp=>by obtain⟨q,hq,h1,h2⟩:=NY i p hp;exact⟨q,by simpa using hq,h1,h2⟩⟩
 rcases vJ hd hk hv clock 0 OI hupd with⟨j,q,hj,hq,hbits,PC⟩|⟨hj,PC⟩
 ·have R5:Pp[j]? =some q:=by simpa using hq
  obtain⟨h1,h2⟩:=done (Pp.modify j λe=>{e with key:=ck,val:=cu}) clock (by
   have:(Pp.modify j λe=>{e with key:=ck,val:=cu}).toList=Pp.toList.set j {q with key:=ck,val:=cu}:=by
    apply Vt
    intro i;rw[UD,Array.getElem?_modify,List.getElem?_set];by_cases hij:j=i
    ·subst hij;obtain⟨hlt,heq⟩:=Tw.1 R5;simp[R5,hlt,heq]
    ·simp[hij]
   rw[this];exact PC)
  refine⟨_,?_,rfl,h1,h2⟩;simp only[Instr.mapUpdate,TA,Tz hu,Tp,hg,run_checkKey hud hd,Instr.findKey,Tz hud,hj,TN,TZ,R5,U4,Vk,Instr.keyThatStays,hbits,TQ,kM hheap rfl]
 ·obtain⟨h1,h2⟩:=done (Pp.push {key:=ck,val:=cu,born:=clock}) (clock+1) (by simpa using PC);refine⟨_,?_,rfl,h1,h2⟩;simp only[Instr.mapUpdate,TA,Tz hu,Tp,hg,run_checkKey hud hd,Instr.findKey,Tz hud,hj,TN,kM hheap rfl]
end
section
variable {P:Program}{m:bA}{h h':af}{w:World}{ρ:cC->AV}{v:AV}
theorem kR(m:bA):∀(s:By),bY m (s.map λb=>AV.int .u8 b.toNat) (s.map λb=>Value.int .u8 b.toNat)
 |[]=>aP.2 rfl
 |b::s=>aF.2 ⟨_,_,rfl,rfl,kR m s⟩
def pg(s:By):(s.map λb=>AV.int .u8 b.toNat).all AV.one=true:=by
 rw[TM];intro x hx;simp only[TI]at hx;obtain⟨b,_,rfl⟩:=hx;rfl
def b9{es y cy ys k}(hr:HR P m h w)(hy:VR m y cy)(hc:cellsIn es h y=some (ys,k)):
  (Builtin.lenOf cy).run P w=.ok k w/\ys.length=k*es/\ys.all AV.one=true/\
   ∀n,n<=k->∃vs,(Builtin.firstCells es n cy).run P w=.ok ⟨vs⟩ w/\bY m (ys.take (n*es)) vs:=by
 unfold cellsIn at hc;split at hc
 ·rw[VR]at hy;subst hy;cases hc;exact⟨rfl,Si,rfl,λn hn=>⟨[],by simp[Builtin.firstCells],by simp[aP]⟩⟩
 ·rename_i b o n es';obtain⟨e,ca,cap,he,rfl,N2,Oa,hroom⟩:=hy;split at hc
  case isFalse=>cases hc
  rename_i hes;subst hes;split at hc
  case h_2=>cases hc
  rename_i c mu tl hb;split at hc
  case isFalse=>cases hc
  rename_i hle;cases hc;obtain⟨_,_,_,hone⟩:=kS hr he hb o (k*es') hle;refine⟨rfl,by simp;omega,hone,λn hn=>?_⟩;have hmul:n*es'<=k*es':=Uj _ hn;by_cases h0:cap=0
  ·have hk0:k=0:=Om
   have SR:n=0:=Om
   subst SR;exact⟨[],by simp[Builtin.firstCells,loadCells,loadCellsFrom],by simp[aP]⟩
  ·rw[Oa Om];obtain⟨vs,NM,Oq,_⟩:=kS hr he hb o (n*es') Om;refine⟨vs,by simp[Builtin.firstCells,NM],?_⟩;rw[List.take_take,U3 hmul];exact Oq
 ·rename_i s;rw[VR]at hy;subst hy;split at hc
  case isFalse=>cases hc
  rename_i hes;subst hes;cases hc;refine⟨rfl,Si,pg s,λn hn=>⟨(s.take n).map λb=>Value.int .u8 b.toNat,?_,?_⟩⟩
  ·simp only[Builtin.firstCells,TN,extract_mk];simp
  ·rw[Vg,<-List.map_take];exact kR m _
 ·cases hc
theorem qh{cb}{el:TypeId}{fz}:∀(vs:List Value) (p j:Nat) (cc:Array Value) (w:World),w.heap[cb]? =some (.cells cc el fz)->p+j+vs.length<=cc.size->
  (∀i,i<cc.size->¬(fz.1<=i/\i<fz.2))->(∀v∈vs,v.oneCell' =true)->
  ∃w' Oc,(storeCells ⟨cb,p,none⟩ vs j).run P w=.ok () w'/\w'.heap[cb]? =some (.cells Oc el fz)/\Oc.size=cc.size/\
   (∀i,Oc[i]? =if p+j<=i/\i<p+j+vs.length then vs[i-(p+j)]? else cc[i]?)/\(∀k,k≠cb->w'.heap[k]? =w.heap[k]?)/\w'.heap.size=w.heap.size/\w'.os=w.os/\w'.output=w.output/\w'.tape=w.tape
 |[],p,j,cc,w,hw,_,_,_=>⟨w,cc,rfl,hw,rfl,λi=>by simp;omega,λ_ _=>rfl,rfl,rfl,rfl,rfl⟩
 |v::vs,p,j,cc,w,hw,hlen,hfz,hone=>by
  simp only[Tl]at hlen;have Ok:w.cell? ⟨cb,p+j,none⟩=some (cc[p+j]'Om):=by simp only[World.cell?,hw];exact T4 Om
  have hfr:w.frozen? ⟨cb,p+j,none⟩=false:=lS hw (hfz _ Om);have QH:=heap_setCell_same (i:=p+j) hw v;have O9:(cc.setIfInBounds (p+j) v).size=cc.size:=Si
  obtain⟨w',Oc,h1,h2,h3,h4,h5,h6,h7,h8,h9⟩:=qh vs p (j+1) (cc.setIfInBounds (p+j) v) (w.setCell ⟨cb,p+j,none⟩ v) QH (by rw[O9];omega) (by rw[O9];exact hfz) (λu hu=>hone u (TK _ hu));refine⟨w',Oc,?_,h2,Om,?_,?_,by simpa using h6,h7,h8,h9⟩
  ·simp only[storeCells,TA];rw[fx,run_store P w _ v .plain (hone v (T0 ..)),Ok];simp only[hfr,T8,TT,Tp];exact h1
  ·intro i;rw[h4 i];by_cases hi:i=p+j
   ·subst hi;rw[Tt Om,Ty (by simp only[Tl];omega)];rw[Uv Om];simp
   ·rw[US (λx=>hi x.symm)];by_cases hin:p+(j+1)<=i/\i<p+(j+1)+vs.length
    ·rw[Ty hin,Ty (by simp only[Tl];omega)];rw[show i-(p+j)=(i-(p+(j+1)))+1 from by omega];simp
    ·rw[Tt hin,Tt (by simp only[Tl];omega)]
  ·intro k hk;rw[h5 k hk];exact Go.RowKit.Below.heap_setCell w _ v k hk
def BK(need cap:Nat)(hc:cap<need):Builtin.nextslicecap need cap<=2*need+192:=by
 unfold Builtin.nextslicecap;split
 ·omega
 ·split
  ·omega
  ·have grow:∀(r c:Nat),c<need+(need+768) / 4->Builtin.growBy need r c<=need+(need+768) / 4:=by
    intro r
    induction r with
    |zero=>intro c Qy;simp only[Builtin.growBy];omega
    |succ r ih=>
     intro c Qy;simp only[Builtin.growBy];split
     ·omega
     ·rename_i hlt;have h1:c<need:=Om
      by_cases hh:c+(c+768) / 4<need+(need+768) / 4
      ·exact ih _ hh
      ·have:c+(c+768) / 4<=need+(need+768) / 4:=Om
       have e:c+(c+768) / 4=need+(need+768) / 4:=Om
       rw[e];cases r with
       |zero=>simp[Builtin.growBy]
       |succ r=>simp only[Builtin.growBy];rw[Ty Om];exact Ts _
   have:=grow 4 cap Om;omega
theorem bY.s9:∀{l}{vs},bY m l vs->l.all AV.one=true->∀v∈vs,v.oneCell' =true
 |[],vs,h,_,v,hv=>by rw[aP]at h;subst h;cases hv
 |x::xs,vs,h,h1,v,hv=>by
  obtain⟨y,ys,rfl,hy,hys⟩:=aF.1 h;simp only[Vu,TL]at h1;rcases TP.1 hv with rfl|hv
  ·exact hy.rn h1.1
  ·exact bY.s9 hys h1.2 v hv
def pt(hr:HR P m h w){b o q e c ys mu mu' k0}(he:m b=some e)(hb:h[b]? =some (.cells c mu true))(hoq:o+q<=c.length)
  (hk0:(k0=.cells c false false/\o+q=c.length/\mu' =false)\/(k0=.dead/\mu=true)) {vs}(hys:bY m ys vs) (h1:ys.all AV.one=true) (hroom:o+q+e.d+ys.length<=e.sz) (j:Nat):
  ∃w' m',(storeCells ⟨e.cb,o+e.d+q,none⟩ vs 0).run P w=.ok () w'/\m' h.length=some ⟨e.cb,e.d+o,e.sz,true⟩/\
   HR P m' (h.set b k0++[.cells ((c.drop o).take q++ys) mu' true]) w'/\Grow m h w m' (h.set b k0++[.cells ((c.drop o).take q++ys) mu' true]) w':=by
 have _:=j;obtain⟨cc,el,fz,hw,⟨hle,hle'⟩,NO,hown,hmt⟩:=hr.dx b e _ he hb;have ho:e.own=true:=(hmt (.inr rfl)).1;obtain⟨dq,hfz⟩:=hown ho;have hlv:=hys.length;obtain⟨w',Oc,NM,hw',NT,hcc',hoth,hhs,hos,hout,htape⟩:=qh (P:=P) vs (o+e.d+q) 0 cc w hw Om hfz (hys.s9 h1);have hbl:b<h.length:=hr.bZ _ _ he
 let e':qc:=⟨e.cb,e.d+o,e.sz,true⟩
 have OA:m h.length=none:=by
  exact JF
 have PW:m.le (m.add h.length e'):=bA.pK e' OA;have hlen:(h.set b k0).length=h.length:=Si
 have QG:∀b2 e2 k2,b2≠b->m b2=some e2->h[b2]? =some k2->k2.live=true->e2.cb=e.cb->mu=false/\∃c2,k2=.cells c2 false false/\e2.d+c2.length<=e.d+c.length:=by
  intro b2 e2 k2 hne NV NG hl hcb;have:=hr.sep b b2 e e2 _ k2 (λx=>hne x.symm) he NV hb NG hcb.symm;cases k2 with
  |cells c2 mu2 tl2=>
   obtain⟨Qu,Rf,ht⟩:=this;obtain⟨ht2,Pj⟩:=ht rfl;subst Rf;subst ht2;exact⟨Qu,c2,rfl,Pj⟩
  |dead=>cases hl
  |aK _=>exact this.elim
  |iter _ _=>exact this.elim
  |loop _ _ _ _ _ _=>exact this.elim
 have Sa:∀i,i<e.d+o+q->Oc[i]? =cc[i]? :=by
  intro i hi;rw[hcc' i,Tt Om]
 have hnew:BR P (m.add h.length e') w' e' (.cells ((c.drop o).take q++ys) mu' true):=by
  refine⟨Oc,el,fz,hw',⟨?_,?_,(by rw[NT,dq])⟩,?_,λ_=>⟨by rw[NT,dq],λi hi=>hfz i Om⟩,λ_=>⟨rfl,λx=>by cases x⟩⟩
  ·show e.d+o+((c.drop o).take q++ys).length<=Oc.size;simp;omega
  ·show e.d+o+((c.drop o).take q++ys).length<=e.sz;simp;omega
  ·intro i x hx;by_cases hi:i<q
   ·rw[Tj (by simp;omega),Vc hi,Vm]at hx;obtain⟨hone,v,hv,NH⟩:=NO (o+i) x hx;refine⟨hone,v,?_,VR.mono PW _ _ NH⟩;show Oc[e.d+o+i]? =some v;rw[Sa _ Om,show e.d+o+i=e.d+(o+i)from by omega];exact hv
   ·have Px:((c.drop o).take q).length=q:=by simp;omega
    rw[To Om,Px]at hx;obtain⟨v,hv,NH⟩:=hys.get hx;have hlt:i-q<ys.length:=(Th.1 hx).1;refine⟨TM.1 h1 x (T6 hx),v,?_,VR.mono PW _ _ NH⟩;show Oc[e.d+o+i]? =some v;rw[hcc',Ty Om,show e.d+o+i-(o+e.d+q+0)=i-q from by omega];exact hv
 have hbr0:∀b2 e2 k2,m b2=some e2->(h.set b k0)[b2]? =some k2->BR P (m.add h.length e') w' e2 k2:=by
  intro b2 e2 k2 NV NG;rw[aS h b b2 _ hbl]at NG;by_cases hbb:b2=b
  ·subst hbb;rw[Ty rfl]at NG;cases NG;rw[he]at NV;cases NV;rcases hk0 with⟨rfl,hcl,_⟩|⟨rfl,_⟩
   ·refine⟨Oc,el,fz,hw',⟨Om,Om⟩,?_,λ_=>⟨by rw[NT,dq],λi hi=>hfz i Om⟩,λx=>by rcases x with x|x<;>cases x⟩;intro i x hx;obtain⟨hone,v,hv,NH⟩:=NO i x hx;have hi:i<c.length:=(Th.1 hx).1;exact z131
   ·trivial
  ·rw[Tt hbb]at NG;have h0:=hr.dx b2 e2 k2 NV NG;by_cases hl:k2.live=true
   ·by_cases hcb:e2.cb=e.cb
    ·obtain⟨hmf,c2,rfl,Pj⟩:=QG b2 e2 k2 hbb NV NG hl hcb;rcases hk0 with⟨_,hcl,_⟩|⟨_,QL⟩
     ·obtain⟨cc2,el2,fz2,hw2,⟨hle2a,hle2b⟩,hget2,hown2,hmt2⟩:=h0;rw[hcb,hw]at hw2;cases hw2;refine⟨Oc,el,fz,by rw[hcb];exact hw',⟨Om,Om⟩,?_,λho2=>by have:=hown2 ho2;exact⟨Om,λi hi=>this.2 i Om⟩,hmt2⟩;intro i x hx;obtain⟨hone,v,hv,NH⟩:=hget2 i x hx;have hi:i<c2.length:=(Th.1 hx).1;exact z131
     ·rw[hmf]at QL;cases QL
    ·exact(h0.mono PW).heap (hoth _ hcb)
   ·exact Eh
 have hget0:∀b2 k2,b2<h.length->(h.set b k0++[.cells ((c.drop o).take q++ys) mu' true])[b2]? =some k2->(h.set b k0)[b2]? =some k2:=by
  intro b2 k2 hlt NG
  rwa [Tj Om]at NG
 have hsep1:∀b2 e2 k2,m b2=some e2->(h.set b k0)[b2]? =some k2->e2.cb=e.cb->nA e' e2 (.cells ((c.drop o).take q++ys) mu' true) k2/\nA e2 e' k2 (.cells ((c.drop o).take q++ys) mu' true):=by
  intro b2 e2 k2 NV NG hcb;rw[aS h b b2 _ hbl]at NG;by_cases hbb:b2=b
  ·subst hbb;rw[Ty rfl]at NG;cases NG;rw[he]at NV;cases NV;rcases hk0 with⟨rfl,hcl,rfl⟩|⟨rfl,_⟩
   ·refine⟨⟨rfl,rfl,λ_=>⟨rfl,?_⟩⟩,⟨rfl,rfl,λx=>by cases x⟩⟩;show e.d+c.length<=e.d+o+((c.drop o).take q++ys).length;simp;omega
   ·exact⟨trivial,trivial⟩
  ·rw[Tt hbb]at NG;by_cases hl:k2.live=true
   ·obtain⟨hmf,c2,rfl,Pj⟩:=QG b2 e2 k2 hbb NV NG hl hcb;rcases hk0 with⟨_,hcl,rfl⟩|⟨_,QL⟩
    ·refine⟨⟨rfl,rfl,λ_=>⟨rfl,?_⟩⟩,⟨rfl,rfl,λx=>by cases x⟩⟩;show e2.d+c2.length<=e.d+o+((c.drop o).take q++ys).length;simp;omega
    ·rw[hmf]at QL;cases QL
   ·cases k2<;>first|exact⟨trivial,trivial⟩|exact absurd rfl hl
 have hsep2:∀b1 b2 e1 e2 k1 k2,b1≠b2->m b1=some e1->m b2=some e2->(h.set b k0)[b1]? =some k1->(h.set b k0)[b2]? =some k2->e1.cb=e2.cb->nA e1 e2 k1 k2:=by
  intro b1 b2 e1 e2 k1 k2 hne O5 NV hk1 NG hcb;rw[aS h b _ _ hbl]at hk1 NG;by_cases On:b1=b
  ·subst On;rw[Ty rfl]at hk1;cases hk1;rw[Tt (λx=>hne x.symm)]at NG;have:=hr.sep b1 b2 e1 e2 _ k2 hne O5 NV hb NG hcb;rcases hk0 with⟨rfl,_⟩|⟨rfl,_⟩
   ·cases k2<;>first|exact⟨rfl,this.2.1,λx=>by cases x⟩|trivial|exact this
   ·trivial
  ·rw[Tt On]at hk1;by_cases Ol:b2=b
   ·subst Ol;rw[Ty rfl]at NG;cases NG;have:=hr.sep b1 b2 e1 e2 k1 _ hne O5 NV hk1 hb hcb;rcases hk0 with⟨rfl,_⟩|⟨rfl,_⟩
    ·cases k1<;>first|exact⟨this.1,rfl,λx=>absurd (this.2.2 x).1 Si⟩|trivial|exact this
    ·cases k1<;>trivial
   ·exact z53
 refine⟨w',m.add h.length e',by simpa using NM,by simp[bA.add,e'],⟨?_,?_,?_,?_,?_⟩,⟨?_,Si,?_,?_,Om,hos,hout,htape,?_⟩⟩
 ·intro b2 e2 Ol;unfold bA.add at Ol;by_cases hx:b2=h.length
  ·subst hx;simp
  ·rw[Tt hx]at Ol;have:=hr.bZ _ _ Ol;simp;omega
 ·intro b2 e2 k2 NV NG;unfold bA.add at NV;by_cases hx:b2=h.length
  ·subst hx;rw[Ty rfl]at NV;cases NV;rw[To Om]at NG;simp at NG;subst NG;exact hnew
  ·rw[Tt hx]at NV;exact hbr0 b2 e2 k2 NV (hget0 b2 k2 (hr.bZ _ _ NV) NG)
 ·intro b1 b2 e1 e2 k1 k2 hne O5 NV hk1 NG hcb;unfold bA.add at O5 NV;by_cases hx1:b1=h.length
  ·subst hx1;rw[Ty rfl]at O5;cases O5;rw[Tt (λx=>hne x.symm)]at NV;rw[To Om]at hk1;simp at hk1;subst hk1;exact(hsep1 b2 e2 k2 NV (hget0 b2 k2 (hr.bZ _ _ NV) NG) hcb.symm).1
  ·rw[Tt hx1]at O5;have hk1':=hget0 b1 k1 (hr.bZ _ _ O5) hk1;by_cases Qc:b2=h.length
   ·subst Qc;rw[Ty rfl]at NV;cases NV;rw[To Om]at NG;simp at NG;subst NG;exact(hsep1 b1 e1 k1 O5 hk1' hcb).2
   ·rw[Tt Qc]at NV;exact hsep2 b1 b2 e1 e2 k1 k2 hne O5 NV hk1' (hget0 b2 k2 (hr.bZ _ _ NV) NG) hcb
 ·intro g hg;obtain⟨x,hx,h2⟩:=hr.eZ g hg;exact⟨x,PW _ _ hx,h2⟩
 ·intro b2 e2 NV;unfold bA.add at NV;by_cases hx:b2=h.length
  ·rw[Ty hx]at NV;cases NV;have:=hr.lt _ _ he;show e.cb<_;omega
  ·rw[Tt hx]at NV;have:=hr.lt _ _ NV;omega
 ·intro b2 Ol;unfold bA.add;rw[Tt Om]
 ·intro b2 e2 Ol NV;unfold bA.add at NV;by_cases hx:b2=h.length
  ·rw[Ty hx]at NV;cases NV;refine⟨rfl,.inr ⟨b,e,he,rfl,ho,by simp[dt,hb],?_⟩⟩;unfold dt;rw[Tj Om,aS h b b _ hbl,Ty rfl];rcases hk0 with⟨rfl,_⟩|⟨rfl,_⟩<;>rfl
  ·rw[Tt hx]at NV;exact absurd (hr.bZ _ _ NV) Om
 ·intro b2 Ol ht;unfold dt at ht ⊢;rw[Tj Om,aS h b b2 _ hbl]at ht;by_cases hbb:b2=b
  ·subst hbb;rw[Ty rfl]at ht;rcases hk0 with⟨rfl,_⟩|⟨rfl,_⟩<;>cases ht
  ·exact Ba
 ·intro i hi hno;exact hoth i (λx=>hno b e he ho x.symm)
end
section
variable {P:Program}{m:bA}{h h':af}{w:World}{ρ:cC->AV}{v:AV}
def vB:ai->ai->Prop
 |.cells c mu tl,k=>k=.dead\/∃mu' tl',k=.cells c mu' tl'/\(mu' =true->mu=true/\(tl' =false->tl=false))/\(tl' =true->tl=true)
 |k,k'=>k' =.dead\/k' =k
def vB.Kv{e1 e2 k k' k2}(hw:vB k k')(hs:nA e1 e2 k k2):nA e1 e2 k' k2:=by
 cases k with
 |cells c mu tl=>
  rcases hw with rfl|⟨mu',tl',rfl,hm,ht⟩
  ·trivial
  ·cases k2 with
   |cells c2 mu2 tl2=>
    refine⟨?_,hs.2.1,λx=>hs.2.2 (ht x)⟩;cases mu' with
    |false=>rfl
    |true=>have:=hs.1;rw[(hm rfl).1]at this;cases this
   |_=>first|trivial|exact hs
 |dead=>rcases hw with rfl|rfl<;>trivial
 |aK es=>rcases hw with rfl|rfl<;>first|trivial|exact hs
 |iter s p=>rcases hw with rfl|rfl<;>first|trivial|exact hs
 |loop a b c d e f=>rcases hw with rfl|rfl<;>first|trivial|exact hs
def vB.Ku{e1 e2 k k' k1}(hw:vB k k')(hs:nA e1 e2 k1 k):nA e1 e2 k1 k':=by
 cases k with
 |cells c mu tl=>
  rcases hw with rfl|⟨mu',tl',rfl,hm,ht⟩
  ·cases k1<;>trivial
  ·cases k1 with
   |cells c1 mu1 tl1=>
    refine⟨hs.1,?_,λx=>⟨?_,(hs.2.2 x).2⟩⟩
    ·cases mu' with
     |false=>rfl
     |true=>have:=hs.2.1;rw[(hm rfl).1]at this;cases this
    ·cases tl' with
     |false=>rfl
     |true=>have:=(hs.2.2 x).1;rw[ht rfl]at this;cases this
   |_=>first|trivial|exact hs
 |dead=>rcases hw with rfl|rfl<;>cases k1<;>trivial
 |aK es=>rcases hw with rfl|rfl<;>first|exact hs|(cases k1<;>trivial)
 |iter s p=>rcases hw with rfl|rfl<;>first|exact hs|(cases k1<;>trivial)
 |loop a b c d e f=>rcases hw with rfl|rfl<;>first|exact hs|(cases k1<;>trivial)
def vB.br{e k k'}(hw:vB k k')(hb:BR P m w e k):BR P m w e k':=by
 cases k with
 |cells c mu tl=>
  rcases hw with rfl|⟨mu',tl',rfl,hm,ht⟩
  ·trivial
  ·obtain⟨cc,el,fz,h1,h2,h3,h4,h5⟩:=hb;refine⟨cc,el,fz,h1,h2,h3,h4,λx=>⟨(h5 (x.elim (λy=>.inl (hm y).1) (λy=>.inr (ht y)))).1,λy=>?_⟩⟩;rcases x with x|x
   ·exact(h5 (.inl (hm x).1)).2 ((hm x).2 y)
   ·rw[x]at y;cases y
 |dead=>rcases hw with rfl|rfl<;>trivial
 |aK es=>rcases hw with rfl|rfl<;>first|trivial|exact hb
 |iter s p=>rcases hw with rfl|rfl<;>first|trivial|exact hb
 |loop a b c d e f=>rcases hw with rfl|rfl<;>first|trivial|exact hb
def tH(hr:HR P m h w){b k k'}(hb:h[b]? =some k)(hk:vB k k'):HR P m (h.set b k') w/\Grow m h w m (h.set b k') w:=by
 have hbl:b<h.length:=(Th.1 hb).1;refine⟨⟨?_,?_,?_,hr.eZ,hr.lt⟩,⟨λ_ _=>rfl,Si,?_,?_,Ts _,rfl,rfl,rfl,λ_ _ _=>rfl⟩⟩
 ·intro b' e' hb';simpa using hr.bZ b' e' hb'
 ·intro b' e' k2 Ox NG;rw[aS h b b' _ hbl]at NG;by_cases hbb:b' =b
  ·subst hbb;rw[Ty rfl]at NG;cases NG;exact hk.br (hr.dx b' e' k Ox hb)
  ·rw[Tt hbb]at NG;exact hr.dx b' e' k2 Ox NG
 ·intro b1 b2 e1 e2 k1 k2 hne O5 NV hk1 NG hcb;rw[aS h b _ _ hbl]at hk1 NG;by_cases On:b1=b
  ·subst On;rw[Ty rfl]at hk1;cases hk1;rw[Tt (λx=>hne x.symm)]at NG;exact hk.Kv (hr.sep b1 b2 e1 e2 k k2 hne O5 NV hb NG hcb)
  ·rw[Tt On]at hk1;by_cases Ol:b2=b
   ·subst Ol;rw[Ty rfl]at NG;cases NG;exact hk.Ku (hr.sep b1 b2 e1 e2 k1 k hne O5 NV hk1 hb hcb)
   ·exact z53
 ·intro b' e' hb' Ox;exact absurd (hr.bZ _ _ Ox) Om
 ·intro b' hb' ht;unfold dt at ht ⊢;rw[aS h b b' _ hbl]at ht;by_cases hbb:b' =b
  ·subst hbb;rw[Ty rfl]at ht;rw[hb];cases k with
   |cells c mu tl=>
    rcases hk with rfl|⟨mu',tl',rfl,_,h2⟩
    ·cases ht
    ·exact h2 ht
   |dead=>rcases hk with rfl|rfl<;>cases ht
   |aK es=>rcases hk with rfl|rfl<;>cases ht
   |iter s p=>rcases hk with rfl|rfl<;>cases ht
   |loop a b c d e f=>rcases hk with rfl|rfl<;>cases ht
  ·exact Ba
def iJ(hr:HR P m h w){c vs}(hc:bY m c vs)(h1:c.all AV.one=true)(rest:List Value)(el:TypeId)(mu tl:Bool)(hml:mu=true->tl=true):
  ∃m',m' h.length=some ⟨w.heap.size,0,vs.length+rest.length,true⟩/\HR P m' (h++[.cells c mu tl]) (w.alloc (.cells ⟨vs++rest⟩ el))/\Grow m h w m' (h++[.cells c mu tl]) (w.alloc (.cells ⟨vs++rest⟩ el)):=by
 have hl:=hc.length;refine⟨_,by simp[bA.add],iK hr (.cells ⟨vs++rest⟩ el) (.cells c mu tl) ⟨w.heap.size,0,vs.length+rest.length,true⟩ rfl rfl (λm' hm=>?_)⟩;refine⟨⟨vs++rest⟩,el,(0,0),World.alloc_heap_new w _,⟨by simp;omega,by refine⟨?_,Si⟩;show 0+c.length<=vs.length+rest.length;omega⟩,?_,λ_=>⟨Si,λi _=>by simp⟩,λx=>⟨rfl,λy=>by
  rcases x with x|x
  ·rw[hml x]at y;cases y
  ·rw[x]at y;cases y⟩⟩
 intro i x hx;obtain⟨v,hv,NH⟩:=hc.get hx;have hi:i<c.length:=(Th.1 hx).1;refine⟨TM.1 h1 x (T6 hx),v,?_,VR.mono hm _ _ NH⟩;show(⟨vs++rest⟩:Array Value)[0+i]? =some v;rw[TZ,UE,Tj Om];exact hv
def lD{sT xT e:TypeId}{i:TypeInfo}{y ts}(hts0:ts[0]? =some sT)(hts1:ts[1]? =some xT)(hs:c9 P sT=some (e,i))(hbytes:0<i.bytes)(hbytes':i.bytes<=2^20)
  {d:TypeDesc}(hud:P.underlying xT=some d) (hdk:∀k,d≠.int k) {cz}(hz:(zeroValue e).run P w.drew=.ok cz w.drew) {base}{n cap k}(hcap:cap<n+k) (hb:(n+k)*i.bytes<=2^46)
  (hlen:(Builtin.lenOf y).run P w=.ok k w) {vo vn}(ho:(Builtin.firstCells i.size n (.slice base n cap)).run P w.drew=.ok ⟨vo⟩ w.drew) (hn:(Builtin.firstCells i.size k y).run P w.drew=.ok ⟨vn⟩ w.drew) (T:TypeId) (dq:i.size=cz.cells.size):
  ∃newCap rest,n+k<=newCap/\rest.length=(newCap-(n+k))*i.size/\
   (Builtin.append_ ts T #[.slice base n cap,y]).run P w=.ok (.slice (some ⟨w.heap.size,0,none⟩) (n+k) newCap) (w.drew.alloc (.cells ⟨vo++vn++rest⟩ e)):=by
 obtain⟨hu,hi⟩:=dX hs;have QJ:=BK (n+k) cap hcap;have hno:¬(Builtin.nextslicecap (n+k) cap*i.bytes > 2^48):=by
  have h1:Builtin.nextslicecap (n+k) cap*i.bytes<=(2*(n+k)+192)*i.bytes:=Uj _ QJ;have h2:(2*(n+k)+192)*i.bytes=2*((n+k)*i.bytes)+192*i.bytes:=by rw[Vo,Nat.mul_assoc]
  omega
 obtain⟨q,hq⟩:∃q:Question,q=.appendCap (n+k) cap e:=⟨_,rfl⟩;obtain⟨nc,QK⟩:∃nc:Nat,nc=q.cut (w.tape w.drawn q):=⟨_,rfl⟩;have Rd:n+k<=nc:=by rw[QK,hq];show n+k<=(n+k)+_;omega
 have Pc:(match d with|.int _=>true|_=>false)=false:=by
  cases d<;>first|rfl|exact absurd rfl (hdk _)
 have NU:∀w,(sizeOf e).run P w=.ok i.size w:=λw=>bD (by simp[c8,hi]) w
 have QV:∀w,(typeInfo e).run P w=.ok i w:=λw=>by simp[typeInfo,hi]
 have O8:¬(i.bytes=0):=Om
 have Pn:(choose (.appendCap (n+k) cap e)).run P w=.ok nc w.drew:=by
  rw[run_choose,QK,hq];rfl
 refine⟨nc,(Builtin.zeroCells cz.cells (nc-(n+k))).toList,Rd,by simp[Builtin.zeroCells,dq],?_⟩;simp only[Builtin.append_,hts0,hts1,UE,Uo,UA,TA,Tz hu,Tp,NU,Tz hud,TN,Pc,
  T8,TT,hlen,Nat.not_le.2 hcap]
 simp only[Sem.run_ite,TA,QV,Tp,hno,TT,O8,UO,and_false,T8,Pn,run_askRoom,ho,hn,hz,TW,TQ,newRow,run_newObj,TN];have earr:((⟨vo⟩:Array Value)++⟨vn⟩++Builtin.zeroCells cz.cells (nc-(n+k)))=⟨vo++vn++(Builtin.zeroCells cz.cells (nc-(n+k))).toList⟩:=by
  apply VD
  simp
 rw[earr];rfl
def kE{c:List AV}{o q:Nat}(h:o+q=c.length):(c.drop o).take q=c.drop o:=TV (by simp;omega)
def HK{sT xT e:TypeId}{i:TypeInfo}{ts:Array TypeId}(hts0:ts[0]? =some sT)(hts1:ts[1]? =some xT)(hs:c9 P sT=some (e,i))(hspos:0<i.size)(hbytes:0<i.bytes)(hbytes':i.bytes<=2^20)
  {d:TypeDesc}(hud:P.underlying xT=some d) (hdk:∀k,d≠.int k) {z:AV}(hz:i.zero.bind (kj 4)=some z) (hzs:z.cells.length=i.size)
  (hr:HR P m h w) {x y:AV}{cx cy:Value}(hx:VR m x cx) (hy:VR m y cy) (hf:ud i.size i.bytes x y h v h') (T:TypeId):
  ∃cv w' m',(Builtin.append_ ts T #[cx,cy]).run P w=.ok cv w'/\VR m' v cv/\HR P m' h' w'/\Grow m h w m' h' w':=by
 obtain⟨hu,hi⟩:=dX hs;have hzA:gO P e=some z:=by simp[gO,hi,hz]
 obtain⟨cz,PZ,Qs⟩:=iu hzA w.drew m;have Rr:i.size=cz.cells.size:=by have:=Qs.cells.length;simp at this;omega
 have NU:∀w,(sizeOf e).run P w=.ok i.size w:=λw=>bD (by simp[c8,hi]) w
 have Pc:(match d with|.int _=>true|_=>false)=false:=by
  cases d<;>first|rfl|exact absurd rfl (hdk _)
 have room:∀{base:Option Addr}{n cap k:Nat}{vn:List Value}{w1:World},n+k<=cap->(Builtin.lenOf cy).run P w=.ok k w->(Builtin.firstCells i.size k cy).run P w=.ok ⟨vn⟩ w->
   (match base with|some a=>(storeCells (a.add (n*i.size)) vn).run P w=.ok () w1|none=>w1=w)->
   (Builtin.append_ ts T #[.slice base n cap,cy]).run P w=.ok (.slice base (n+k) cap) w1:=by
  intro base n cap k vn w1 hle hlen NP bp;cases base with
  |none=>
   subst bp;simp only[Builtin.append_,hts0,hts1,UE,Uo,UA,TA,Tz hu,Tp,NU,Tz hud,TN,Pc,
    T8,TT,hlen,hle,TQ,TW,NP]
  |some a=>
   simp only at bp;simp only[Builtin.append_,hts0,hts1,UE,Uo,UA,TA,Tz hu,Tp,NU,Tz hud,TN,Pc,
    T8,TT,hlen,hle,TQ,TW,NP,bp]
 cases hf with
 |none O1 Oe=>
  obtain⟨hlen,_,_,NP⟩:=b9 hr hy O1;obtain⟨vn,Pt,NH⟩:=NP 0 (Ts _);have SI:vn=[]:=by simp[aP]at NH;exact NH
  subst SI;rcases Oe with rfl|⟨b,o,n,rfl⟩
  ·rw[VR]at hx;subst hx;exact⟨.slice none 0 0,w,m,room Om hlen Pt rfl,rfl,hr,Grow.refl m h w hr.bZ⟩
  ·have hx0:=hx;obtain⟨en,ca,cap,N9,rfl,N2,Oa,hroom⟩:=hx;exact⟨.slice (some ca) n cap,w,m,room Om hlen Pt (by simp[storeCells]),hx0,hr,Grow.refl m h w hr.bZ⟩
 |new ys k mu O1 hk hb Oe=>
  subst Oe;rw[VR]at hx;subst hx;obtain⟨hlen,Pr,hone,_⟩:=b9 hr hy O1;obtain⟨_,_,_,NP⟩:=b9 hr.drew hy O1;obtain⟨vn,Pt,NH⟩:=NP k (Ts _);rw[TV Om]at NH;obtain⟨nc,rest,Rd,Oz,NM⟩:=lD (n:=0) (cap:=0) (base:=none) (vo:=[]) hts0 hts1 hs hbytes hbytes' hud hdk PZ Om (by rw[TZ];exact hb) hlen (by simp[Builtin.firstCells]) Pt T Rr;obtain⟨m',h0,h1,h2⟩:=iJ hr.drew NH hone rest e mu true (λ_=>rfl);have OJ:=NH.length;refine⟨_,_,m',NM,⟨_,_,nc,h0,by rw[TZ];rfl,Om,λ_=>rfl,?_⟩,by simpa using h1,by simpa using h2.Ah⟩;show 0+0+nc*i.size<=vn.length+rest.length;rw[Oz,OJ,Pr];have:nc*i.size=k*i.size+(nc-(0+k))*i.size:=by rw[<-Vo];congr 1;omega
  omega
 |on ys k b o n c mu O1 hk hb Oe hc hl=>
  subst Oe;obtain⟨en,ca,cap,N9,rfl,N2,Oa,hroom⟩:=hx;obtain⟨hlen,Pr,hone,NP⟩:=b9 hr hy O1;have Ra:cellsIn i.size h (.slice b o n i.size)=some ((c.drop o).take (n*i.size),n):=by simp[cellsIn,hc];omega
  have hdt:=kE hl;by_cases QX:n+k<=cap
  ·obtain⟨vn,Pt,NH⟩:=NP k (Ts _);rw[TV Om]at NH;have QZ:=Oa Om;have hr1:(n+k)*i.size<=cap*i.size:=Uj _ QX;rw[Vo]at hr1;obtain⟨w',m',h0,h1,h2,h3⟩:=pt (mu':=false) (k0:=.cells c false false) (q:=n*i.size) hr N9 hc Om (.inl ⟨rfl,hl,rfl⟩) NH hone Om 0;rw[hdt]at h2 h3;exact MP
  ·obtain⟨_,_,_,hfo⟩:=b9 hr.drew (y:=.slice b o n i.size) ⟨en,ca,cap,N9,rfl,N2,Oa,hroom⟩ Ra;obtain⟨vo,hvo,OU⟩:=hfo n (Ts _);obtain⟨_,_,OX,_⟩:=b9 hr (y:=.slice b o n i.size) ⟨en,ca,cap,N9,rfl,N2,Oa,hroom⟩ Ra;obtain⟨_,_,_,OE⟩:=b9 hr.drew hy O1;obtain⟨vn,Pt,NH⟩:=OE k (Ts _);rw[TV Om]at NH;rw[TV (by simp;omega),hdt]at OU;rw[hdt]at OX;obtain⟨nc,rest,Rd,Oz,NM⟩:=lD hts0 hts1 hs hbytes hbytes' hud hdk PZ Om hb hlen hvo Pt T Rr;obtain⟨g1,g2⟩:=tH (k':=.cells c false false) hr hc (.inr ⟨false,false,rfl,λx=>(by cases x),λx=>(by cases x)⟩);obtain⟨m',h0,h1,h2⟩:=iJ g1.drew (OU.append NH) (by simp[OX,hone]) rest e false true (λ_=>rfl)
   have NW:(h.set b (.cells c false false)).length=h.length:=Si
   rw[NW]at h0;have OJ:=NH.length;have SH:=OU.length;refine⟨_,_,m',NM,⟨_,_,nc,h0,rfl,Rd,λ_=>rfl,?_⟩,h1,(g2.drew.trans h2 hr.bZ)⟩;exact Kb
 |over ys k b o n c mu O1 hk hb Oe hc hl=>
  subst Oe;obtain⟨en,ca,cap,N9,rfl,N2,Oa,hroom⟩:=hx;obtain⟨hlen,Pr,hone,NP⟩:=b9 hr hy O1;have Ra:cellsIn i.size h (.slice b o n i.size)=some ((c.drop o).take (n*i.size),n):=by simp[cellsIn,hc];omega
  by_cases QX:n+k<=cap
  ·obtain⟨vn,Pt,NH⟩:=NP k (Ts _);rw[TV Om]at NH;have QZ:=Oa Om;have hr1:(n+k)*i.size<=cap*i.size:=Uj _ QX;rw[Vo]at hr1;obtain⟨w',m',h0,h1,h2,h3⟩:=pt (mu':=mu) (k0:=.dead) (q:=n*i.size) hr N9 hc Om (.inr ⟨rfl,rfl⟩) NH hone Om 0;exact MP
  ·obtain⟨_,_,_,hfo⟩:=b9 hr.drew (y:=.slice b o n i.size) ⟨en,ca,cap,N9,rfl,N2,Oa,hroom⟩ Ra;obtain⟨vo,hvo,OU⟩:=hfo n (Ts _);obtain⟨_,_,OX,_⟩:=b9 hr (y:=.slice b o n i.size) ⟨en,ca,cap,N9,rfl,N2,Oa,hroom⟩ Ra;obtain⟨_,_,_,OE⟩:=b9 hr.drew hy O1;obtain⟨vn,Pt,NH⟩:=OE k (Ts _);rw[TV Om]at NH;rw[TV (by simp;omega)]at OU;obtain⟨nc,rest,Rd,Oz,NM⟩:=lD hts0 hts1 hs hbytes hbytes' hud hdk PZ Om hb hlen hvo Pt T Rr;obtain⟨g1,g2⟩:=tH (k':=.dead) hr hc (.inl rfl);obtain⟨m',h0,h1,h2⟩:=iJ g1.drew (OU.append NH) (by rw[List.all_append,OX,hone];rfl) rest e mu true (λ_=>rfl);have NW:(h.set b .dead).length=h.length:=Si
   rw[NW]at h0;have OJ:=NH.length;have SH:=OU.length;refine⟨_,_,m',NM,⟨_,_,nc,h0,rfl,Rd,λ_=>rfl,?_⟩,h1,(g2.drew.trans h2 hr.bZ)⟩;exact Kb
 |full ys k b o n c O1 hk hb Oe hc hl=>
  subst Oe;obtain⟨en,ca,cap,N9,rfl,N2,Oa,hroom⟩:=hx;obtain⟨hlen,Pr,hone,NP⟩:=b9 hr hy O1;have Ra:cellsIn i.size h (.slice b o n i.size)=some ((c.drop o).take (n*i.size),n):=by simp[cellsIn,hc];omega
  have hdt:=kE hl;have hfull:cap<=n:=by
   obtain⟨_,_,_,_,_,_,_,hex⟩:=hr.dx b en _ N9 hc;have he:=(hex (.inl rfl)).2 rfl;by_cases hle:cap<=n
   ·exact hle
   ·have h2:(n+1)*i.size<=cap*i.size:=Uj _ Om;rw[Uw]at h2;omega
  obtain⟨_,_,_,hfo⟩:=b9 hr.drew (y:=.slice b o n i.size) ⟨en,ca,cap,N9,rfl,N2,Oa,hroom⟩ Ra;obtain⟨vo,hvo,OU⟩:=hfo n (Ts _);obtain⟨_,_,OX,_⟩:=b9 hr (y:=.slice b o n i.size) ⟨en,ca,cap,N9,rfl,N2,Oa,hroom⟩ Ra;obtain⟨_,_,_,OE⟩:=b9 hr.drew hy O1;obtain⟨vn,Pt,NH⟩:=OE k (Ts _);rw[TV Om]at NH;rw[TV (by simp;omega),hdt]at OU;rw[hdt]at OX;obtain⟨nc,rest,Rd,Oz,NM⟩:=lD hts0 hts1 hs hbytes hbytes' hud hdk PZ Om hb hlen hvo Pt T Rr;obtain⟨m',h0,h1,h2⟩:=iJ hr.drew (OU.append NH) (by simp[OX,hone]) rest e true true (λ_=>rfl);have OJ:=NH.length;have SH:=OU.length;refine⟨_,_,m',NM,⟨_,_,nc,h0,rfl,Rd,λ_=>rfl,?_⟩,h1,h2.Ah⟩
  exact Kb
def Bi(n es cap:Nat)(h:n<=cap):n*es<=cap*es:=Uj _ h
def HI{dT e:TypeId}{i:TypeInfo}{ts}(hts0:ts[0]? =some dT)(hs:c9 P dT=some (e,i))(hspos:0<i.size)
  (hr:HR P m h w) {x y}{cx cy}(hx:VR m (ρ x) cx) (hy:VR m (ρ y) cy) (hf:cN (.wL i.size x y) ρ h=some (v,h')) (T:TypeId):
  ∃cv w' m',(Builtin.copy_ ts T #[cx,cy]).run P w=.ok cv w'/\VR m' v cv/\HR P m' h' w'/\Grow m h w m' h' w':=by
 obtain⟨hu,hi⟩:=dX hs;have NU:∀w,(sizeOf e).run P w=.ok i.size w:=λw=>bD (by simp[c8,hi]) w
 simp only[cN]at hf;split at hf
 ·rename_i b o n es' ys k Oo O1;rw[Oo]at hx;obtain⟨en,ca,cap,N9,rfl,N2,Oa,hroom⟩:=hx;obtain⟨hlen,Pr,hone,NP⟩:=b9 hr hy O1;obtain⟨vn,Pt,NH⟩:=NP (min k n) (Nat.min_le_left _ _);split at hf
  case isFalse=>cases hf
  rename_i hes;subst hes;have Qh:Nat.min k n=min k n:=rfl;split at hf
  ·rename_i h0;cases hf;have SI:vn=[]:=by rw[h0]at NH;simp[aP]at NH;exact NH
   subst SI;refine⟨.int .i64 0,w,m,?_,rfl,hr,Grow.refl m h w hr.bZ⟩;simp only[Builtin.copy_,hts0,UE,Uo,UA,TA,Tz hu,Tp,hlen,NU,Qh,Pt,TN,storeCells];simp[goInt,h0]
  ·rename_i h0;split at hf
   case h_2=>cases hf
   rename_i c tl hb;split at hf
   case isFalse=>cases hf
   rename_i hle;cases hf;have PO:(ys.take (min k n*i.size)).all AV.one=true:=by
    rw[TM]at hone ⊢
    exactλa ha=>hone a (Ut ha)
   have hl1:(ys.take (min k n*i.size)).length=min k n*i.size:=by
    have:=Bi (min k n) i.size k (Nat.min_le_left _ _);simp;omega
   obtain⟨w',bp,h1,h2⟩:=mK (ys.take (min k n*i.size)) vn hr N9 hb o 0 Om PO NH;refine⟨.int .i64 (min k n:Nat),w',m,?_,rfl,h1,h2⟩;have QZ:=Oa Om;subst QZ;simp only[Builtin.copy_,hts0,UE,Uo,UA,TA,Tz hu,Tp,hlen,NU,Qh,Pt,TN,bp,goInt]
 ·rename_i Oo O1;rename_i p;obtain⟨ys,k⟩:=p;rw[Oo,VR]at hx;subst hx;cases hf;obtain⟨hlen,Pr,hone,NP⟩:=b9 hr hy O1;obtain⟨vn,Pt,NH⟩:=NP 0 (TJ _);have Qh:Nat.min k 0=0:=Nat.min_zero k;refine⟨.int .i64 0,w,m,?_,rfl,hr,Grow.refl m h w hr.bZ⟩;simp only[Builtin.copy_,hts0,UE,Uo,UA,TA,Tz hu,Tp,hlen,NU,Qh,Pt,TN,goInt];rfl
 ·cases hf
end
section
variable {P:Program}{m:bA}{h h':af}{w:World}{ρ:cC->AV}{v:AV}
theorem tV:∀{l}{vs}{bs},bY m l vs->l.mapM byteOf=some bs->
  ∀(acc:ByteArray),(forIn (m:=Sem) vs acc λc s=>
    match c with
    |.int .u8 n=>pure (ForInStep.yield (s.push (UInt8.ofNat n.toNat)))
    |_=>do
     (stuck "bytesToString: byte expected" :Sem PUnit)
     pure (ForInStep.yield s)).run P w=.ok ⟨⟨acc.data.toList++bs⟩⟩ w
 |[],vs,bs,hv,hb,acc=>by
  rw[aP]at hv;subst hv;simp at hb;subst hb;simp
 |x::xs,vs,bs,hv,hb,acc=>by
  obtain⟨y,ys,rfl,hy,hys⟩:=aF.1 hv;simp only[Vx,Ve,VG]at hb;cases hx:byteOf x with
  |none=>simp[hx]at hb
  |some b=>
   cases hl:xs.mapM byteOf with
   |none=>simp[hx,hl]at hb
   |some bs'=>
    simp[hx,hl]at hb;subst hb;unfold byteOf at hx;split at hx
    case h_2=>cases hx
    rename_i n;cases hx;rw[VR]at hy;subst hy;have:=tV hys hl (acc.push (UInt8.ofNat n.toNat));simp only[List.forIn_cons,TA,TN,Tp];rw[this];simp[ByteArray.push]
def wv{e:TypeId}(h:B0 P e=true):P.underlying e=some (.int .u8):=by
 unfold B0 at h;split at h
 ·assumption
 ·cases h
def EG{s d:TypeId}{k x cx}(hk:Ao P s d=some k)(hr:HR P m h w)(hx:VR m (ρ x) cx)(hf:cN (.conv k x) ρ h=some (v,h')):
  ∃cv w' m',(convert s d cx).run P w=.ok cv w'/\VR m' v cv/\HR P m' h' w'/\Grow m h w m' h' w':=by
 simp only[cN]at hf;have same:∀{cv:Value},(convert s d cx).run P w=.ok cv w->VR m v cv->h' =h->∃cv w' m',(convert s d cx).run P w=.ok cv w'/\VR m' v cv/\HR P m' h' w'/\Grow m h w m' h' w':=by
  intro cv h1 h2 h3;exact z154
 unfold Ao at hk;split at hk
 ·rename_i k1 k2 hs hd;cases hk;simp only[iI]at hf;split at hf
  case h_2=>cases hf
  rename_i hρ;rw[hρ,VR]at hx;subst hx;cases hf;exact same (by simp[convert,Tz hs,Tz hd,Conv.intToInt]) rfl rfl
 ·rename_i k1 k2 hs hd;cases hk;simp only[iI]at hf;split at hf
  case h_2=>cases hf
  rename_i hρ;rw[hρ,VR]at hx;subst hx;cases hf;exact same (by simp[convert,Tz hs,Tz hd,Conv.intToFloat]) ⟨_,rfl,.inl rfl⟩ rfl
 ·rename_i k1 k2 hs hd;cases hk;simp only[iI]at hf;split at hf
  case h_2=>cases hf
  rename_i sk b hρ;rw[hρ]at hx;obtain⟨b',rfl,hfr⟩:=hx;split at hf
  case h_2=>cases hf
  rename_i n hn;split at hf
  case isFalse=>cases hf
  rename_i hc;cases hf;have hbb:b' =b:=by
   rcases hfr with h1|⟨h1,_⟩
   ·exact h1
   ·rw[hc.1]at h1;cases h1
  subst hbb;exact same (by simp[convert,Tz hs,Tz hd,Conv.floatToInt,hn,hc.2]) rfl rfl
 ·rename_i k1 k2 hs hd;cases hk;simp only[iI]at hf;split at hf
  case h_2=>cases hf
  rename_i sk b hρ;rw[hρ]at hx;obtain⟨b',rfl,hfr⟩:=hx;split at hf
  case isFalse=>cases hf
  rename_i hc;cases hf;subst hc;exact same (by simp[convert,Tz hs,Tz hd,Conv.floatToFloat]) ⟨_,rfl,hfr⟩ rfl
 ·rename_i hs hd;cases hk;simp only[iI]at hf;split at hf
  case h_2=>cases hf
  rename_i hρ;rw[hρ,VR]at hx;subst hx;cases hf;exact same (by simp[convert,Tz hs,Tz hd]) rfl rfl
 ·rename_i e hs hd;split at hk
  case isFalse=>cases hk
  rename_i he;have hue:P.underlying e=some (.int .u8):=wv he;cases hk;simp only[iI]at hf;split at hf
  case h_2=>cases hf
  rename_i s hρ;rw[hρ,VR]at hx;subst hx;cases hf;obtain⟨q,hq⟩:∃q:Question,q=.appendCap s.length 0 e:=⟨_,rfl⟩;obtain⟨nc,QK⟩:∃nc:Nat,nc=q.cut (w.tape w.drawn q):=⟨_,rfl⟩;have Rd:s.length<=nc:=by rw[QK,hq];show s.length<=s.length+_;omega
  have Pn:(choose (.appendCap s.length 0 e)).run P w=.ok nc w.drew:=by
   rw[run_choose,QK,hq];rfl
  let vs:List Value:=s.map λb=>.int .u8 b.toNat
  let rest:List Value:=List.replicate (nc-s.length) (.int .u8 0)
  have OJ:vs.length=s.length:=by simp[vs]
  have PR:rest.length=nc-s.length:=by simp[rest]
  let W:World:=(w.drew.alloc (.cells ⟨vs++rest⟩ e))
  let W':World:=W.freeze ⟨w.heap.size,nc,none⟩ 1
  have hWh:W.heap[w.heap.size]? =some (.cells ⟨vs++rest⟩ e):=World.alloc_heap_new w.drew _;have hlt:w.heap.size<W.heap.size:=(Tw.1 hWh).1;have hW':W'.heap[w.heap.size]? =some (.cells ⟨vs++rest⟩ e (nc,nc+1)):=by
   have hk:W.heap[w.heap.size]=.cells ⟨vs++rest⟩ e:=(Tw.1 hWh).2;show((if(1:Nat)=0 then W else {W with heap:=W.heap.modify w.heap.size _}).heap)[w.heap.size]? =_;rw[Tt Om];show(W.heap.modify w.heap.size _)[w.heap.size]? =_;rw[T4 (by rw[Array.size_modify];exact hlt),Array.getElem_modify_self,hk];rfl
  have hother:∀i,i≠w.heap.size->W'.heap[i]? =W.heap[i]? :=by
   intro i hi;show((if(1:Nat)=0 then W else {W with heap:=W.heap.modify w.heap.size _}).heap)[i]? =_;rw[Tt Om];show(W.heap.modify w.heap.size _)[i]? =_;rw[Array.getElem?_modify,Tt (λx=>hi x.symm)]
  have NU:W'.heap.size=W.heap.size:=by
   show((if(1:Nat)=0 then W else {W with heap:=W.heap.modify w.heap.size _}).heap).size=_;rw[Tt Om];simp
  obtain⟨m',h0,h1,h2⟩:=iJ hr.drew (kR m s) (pg s) rest e true true (λ_=>rfl);have h0':m' h.length=some ⟨w.heap.size,0,vs.length+rest.length,true⟩:=h0;have hne:∀b e2 k2,m' b=some e2->b≠h.length->(h++[.cells (s.map λb=>.int .u8 b.toNat) true true])[b]? =some k2->k2.live=true->e2.cb≠w.heap.size:=by
   intro b e2 k2 hb hbl NG hl hcb;have:=h1.sep h.length b _ e2 (.cells (s.map λb=>.int .u8 b.toNat) true true) k2 (λx=>hbl x.symm) h0' hb Si NG hcb.symm;cases k2<;>first|exact absurd this.1 Si|exact this|(cases hl;done)
  have hgrow:Grow m h w m' (h++[.cells (s.map λb=>.int .u8 b.toNat) true true]) W':=by
   have g:=h2.Ah;refine⟨g.ext,g.len,g.new,g.tl,by rw[NU];exact g.size,?_,?_,?_,?_⟩
   ·exact g.os
   ·exact g.out
   ·exact g.tape
   ·intro i hi hno;rw[hother i Om];exact g.frame i hi hno
  refine⟨.slice (some ⟨w.heap.size,0,none⟩) s.length nc,W',m',?_,⟨_,_,nc,h0',rfl,Rd,λ_=>rfl,by show 0+0+nc*1<=vs.length+rest.length;omega⟩,⟨h1.bZ,?_,h1.sep,h1.eZ,λb' e' hb'=>by have:=h1.lt b' e' hb';rw[NU];exact this⟩,hgrow⟩
  ·have dq:(⟨⟨s⟩⟩:ByteArray).size=s.length:=rfl;have QO:(⟨s⟩:Array UInt8).map (λb=>Value.int .u8 b.toNat)=⟨vs⟩:=by apply VD;simp[vs]
   have Oi:(⟨vs⟩:Array Value)++Array.replicate (nc-s.length) (.int .u8 0)=⟨vs++rest⟩:=by apply VD;simp[rest]
   have SL:W.shape? w.heap.size=some (e,nc):=by
    simp only[World.shape?,hWh];simp[OJ,PR];omega
   simp only[convert,TA,Tz hs,Tz hd,Tp,Tz hue,Conv.stringToBytes,dq,Pn,QO,Oi,newRow,run_newObj,TN];simp only[markStringish,TA,run_shape];have Ob:World.shape? {heap:=w.drew.heap.push (Obj.cells ⟨vs++rest⟩ e),tape:=w.drew.tape,drawn:=w.drew.drawn,os:=w.drew.os,output:=w.drew.output} w.drew.heap.size=some (e,nc):=SL;simp only[Ob,Tp,run_freeze];rfl
  ·intro b e2 k2 hb NG;have O8:=h1.dx b e2 k2 hb NG;by_cases hbl:b=h.length
   ·subst hbl;rw[h0']at hb;cases hb;simp at NG;subst NG;obtain⟨cc,el,fz,hh,h3,h4,h5,h6⟩:=O8;have hWh':W.heap[w.heap.size]? =some (.cells cc el fz):=hh;rw[hWh]at hWh';cases hWh';refine⟨⟨vs++rest⟩,e,(nc,nc+1),hW',h3,h4,λ_=>⟨(h5 rfl).1,λi hi=>?_⟩,h6⟩;have:(⟨vs++rest⟩:Array Value).size=nc:=by simp[OJ,PR];omega
    simp only;omega
   ·by_cases hl:k2.live=true
    ·exact O8.heap (hother _ (hne b e2 k2 hb hbl NG hl))
    ·exact Eh
 ·rename_i e hs hd;split at hk
  case isFalse=>cases hk
  rename_i he;have hue:P.underlying e=some (.int .u8):=wv he;cases hk;simp only[iI]at hf;split at hf
  ·rename_i hρ;rw[hρ,VR]at hx;subst hx;cases hf;exact same (by simp[convert,Tz hs,Tz hd,Tz hue,Conv.bytesToString];rfl) rfl rfl
  ·rename_i b o n es hρ;rw[hρ]at hx;split at hf
   case h_2=>cases hf
   rename_i l k hc;split at hf
   case h_2=>cases hf
   rename_i r hl;cases hf;obtain⟨hlen,Pr,hone,NP⟩:=b9 hr hx hc;obtain⟨vs,Oq,NH⟩:=NP k (Ts _);rw[TV Om]at NH;have hkn:k=n:=by
    unfold cellsIn at hc;simp only at hc;split at hc
    ·split at hc
     ·split at hc
      ·cases hc;rfl
      ·cases hc
     ·cases hc
    ·cases hc
   subst hkn;obtain⟨en,ca,cap,N9,rfl,N2,Oa,hroom⟩:=hx;simp only[Builtin.firstCells,Vg]at Oq;refine same (cv:=.string ⟨⟨r⟩⟩) ?_ rfl rfl;have hb:=tV (P:=P) (w:=w) NH hl ByteArray.empty;simp only[convert,TA,Tz hs,Tz hd,Tp,Tz hue,Conv.bytesToString,Oq];rw[<-Array.forIn_toList]
   erw [hb]
   simp
  ·cases hf
 ·cases hk
theorem tL:∀{l}{vs}{x v}{cx},VR m x cx->bY m l vs->fL nH x l=some v->∃cv,(vs.foldlM (m:=Sem) Builtin.max2 cx).run P w=.ok cv w/\VR m v cv
 |[],vs,x,v,cx,hx,hl,hf=>by
  exact z164
 |y::l,vs,x,v,cx,hx,hl,hf=>by
  obtain⟨cy,vs',rfl,hy,N1⟩:=aF.1 hl;simp only[fL]at hf;split at hf
  case h_2=>cases hf
  rename_i z hz;unfold nH at hz;split at hz
  case h_2=>cases hz
  rename_i k a k' b;split at hz
  case isFalse=>cases hz
  cases hz;rw[VR]at hx hy;subst hx;subst hy;obtain⟨cv,h1,h2⟩:=tL (x:=.int k (if b > a then b else a)) (cx:=.int k (if b > a then b else a)) rfl N1 hf;exact⟨cv,by simp only[List.foldlM_cons,TA,Builtin.max2,TN,Tp];exact h1,h2⟩
theorem tK:∀{l}{vs}{x v}{cx},VR m x cx->bY m l vs->fL nG x l=some v->∃cv,(vs.foldlM (m:=Sem) Builtin.min2 cx).run P w=.ok cv w/\VR m v cv
 |[],vs,x,v,cx,hx,hl,hf=>by
  exact z164
 |y::l,vs,x,v,cx,hx,hl,hf=>by
  obtain⟨cy,vs',rfl,hy,N1⟩:=aF.1 hl;simp only[fL]at hf;split at hf
  case h_2=>cases hf
  rename_i z hz;unfold nG at hz;split at hz
  case h_2=>cases hz
  rename_i k a k' b;split at hz
  case isFalse=>cases hz
  cases hz;rw[VR]at hx hy;subst hx;subst hy;obtain⟨cv,h1,h2⟩:=tK (x:=.int k (if b<a then b else a)) (cx:=.int k (if b<a then b else a)) rfl N1 hf;exact⟨cv,by simp only[List.foldlM_cons,TA,Builtin.min2,TN,Tp];exact h1,h2⟩
def zi{t e:TypeId}{i:TypeInfo}{n:Nat}{z:AV}{ps:Array (Nat×Operand)}{l:List (Nat×cC)}{σ:Operand->Value}(hs:c9 P t=some (e,i))(hz:gO P e=some z)
  (hl:ps.toList.mapM (λp=>(cw p.2).map λy=>(p.1*i.size,y))=some l) (hspos:0<i.size) (hzs:z.cells.length=i.size) (h1:z.cells.all AV.one=true) (hn:n*i.size<=2^24)
  (hr:HR P m h w) (hρ:∀p∈ps.toList,∀y,cw p.2=some y->VR m (ρ y) (σ p.2)) {c:List AV}(hf:dA (cZ n z.cells) (l.map λp=>(p.1,i.size,ρ p.2))=some c) (hc1:c.all AV.one=true) (hcl:c.length=n*i.size) (mu tl:Bool):
  ∃cv w' m',(Instr.buildSlice t n (ps.map λ(i,x)=>(i,σ x))).run P w=.ok cv w'/\VR m' (.slice h.length 0 n i.size) cv/\HR P m' (h++[.cells c mu tl]) w'/\Grow m h w m' (h++[.cells c mu tl]) w':=by
 have _:=h1;obtain⟨hu,hi⟩:=dX hs;obtain⟨cz,PZ,Qs⟩:=iu hz w m;have hzc:=Qs.cells;have dq:cz.cells.size=z.cells.length:=by have:=hzc.length;simpa using this
 have hzero:∀(row:Array Value),row=(Array.range (n*cz.cells.size)).map (cz.cells[·% cz.cells.size]!)->bY m (cZ n z.cells) row.toList:=by
  intro row hrow;have:=qd hzc Om n n (Ts _);rw[<-hrow,TV]at this
  ·exact this
  ·rw[hrow];simp[dq]
 have SQ:∀(qs:List (Nat×Operand)) (l:List (Nat×cC)),qs.mapM (λp=>(cw p.2).map λy=>(p.1*i.size,y))=some l->qs.length=l.length/\∀(j:Nat) p q,qs[j]? =some p->l[j]? =some q->q.1=p.1*i.size/\cw p.2=some q.2:=by
  intro qs
  induction qs with
  |nil=>intro l hl;simp at hl;subst hl;exact⟨rfl,λj p q hp=>by simp at hp⟩
  |cons p qs ih=>
   intro l hl;simp only[Vx,Ve,VG]at hl;cases ho:cw p.2 with
   |none=>simp[ho]at hl
   |some y=>
    cases hr':qs.mapM (λp=>(cw p.2).map λy=>(p.1*i.size,y))with
    |none=>simp[ho,hr']at hl
    |some l'=>
     simp[ho,hr']at hl;subst hl;obtain⟨h2,h3⟩:=ih l' hr';refine⟨by simp[h2],λj a b ha hb=>?_⟩;cases j with
     |zero=>simp at ha hb;subst ha;subst hb;exact⟨rfl,ho⟩
     |succ j=>exact h3 j a b (by simpa using ha) (by simpa using hb)
 obtain⟨Qg,SO⟩:=SQ _ _ hl;by_cases SR:n*i.size=0
 ·have hnz:n=0:=by
   rcases Nat.mul_eq_zero.1 SR with h|h
   ·exact h
   ·omega
  obtain⟨Oc,OL,Oq⟩:=oa (m:=m) (λj=>some (j*i.size,i.size)) (ps.toList.map λp=>(p.1,σ p.2)) (l.map λp=>(p.1,i.size,ρ p.2)) (cZ n z.cells) #[] c (by simp[Qg])
   (λj p q hp hq=>by
    simp only[UG,TB]at hp hq;obtain⟨p0,hp0,rfl⟩:=hp;obtain⟨q0,hq0,rfl⟩:=hq;obtain⟨h2,h3⟩:=SO j p0 q0 hp0 hq0;exact⟨by simp[h2],hρ p0 (T6 hp0) _ h3⟩) (by subst hnz;simp[cZ,aP]) hf
  obtain⟨m',h2,h3,h4⟩:=jP hr Oq hc1 e mu tl;have OJ:=Oq.length;refine⟨.slice (some ⟨w.heap.size,0,none⟩) n n,_,m',?_,⟨_,_,n,h2,rfl,Ts _,λ_=>rfl,by show 0+0+n*i.size<=Oc.toList.length;omega⟩,h3,h4⟩;have NZ:¬(n*i.size > 2^24):=Om
  have NU:(sizeOf e).run P w=.ok i.size w:=bD (by simp[c8,hi]) w;have e0:(Array.range 0).map (λx=>(#[] :Array Value)[x%(#[] :Array Value).size]!)=#[]:=Si
  simp only[Instr.buildSlice,TA,Tz hu,Tp,NU,NZ,TT];simp only[SR,TQ,TA,Tp,TN,e0];exact Mv
 ·obtain⟨Oc,OL,Oq⟩:=oa (m:=m) (λj=>some (j*i.size,i.size)) (ps.toList.map λp=>(p.1,σ p.2)) (l.map λp=>(p.1,i.size,ρ p.2)) (cZ n z.cells) ((Array.range (n*i.size)).map (cz.cells[·% cz.cells.size]!)) c (by simp[Qg])
   (λj p q hp hq=>by
    simp only[UG,TB]at hp hq;obtain⟨p0,hp0,rfl⟩:=hp;obtain⟨q0,hq0,rfl⟩:=hq;obtain⟨h2,h3⟩:=SO j p0 q0 hp0 hq0;exact⟨by simp[h2],hρ p0 (T6 hp0) _ h3⟩) (hzero _ (by rw[dq,hzs])) hf
  obtain⟨m',h2,h3,h4⟩:=jP hr Oq hc1 e mu tl;have OJ:=Oq.length;refine⟨.slice (some ⟨w.heap.size,0,none⟩) n n,_,m',?_,⟨_,_,n,h2,rfl,Ts _,λ_=>rfl,by show 0+0+n*i.size<=Oc.toList.length;omega⟩,h3,h4⟩;have NZ:¬(n*i.size > 2^24):=Om
  have NU:(sizeOf e).run P w=.ok i.size w:=bD (by simp[c8,hi]) w;simp only[Instr.buildSlice,TA,Tz hu,Tp,NU,NZ,TT,SR,TN,PZ];exact Mv
def tO{op}{t:TypeId}{x y xs ys}(hm:P.eqGuardType P.depth t=false):(eqGuard op t x y (.agg xs) (.agg ys)).run P w=.ok () w:=by
 cases op<;>simp[eqGuard,run_program,hm]
def jc{op}{t:TypeId}{x y a b}(h1:∀l,a≠.agg l)(h2:a≠.nilIface):(eqGuard op t x y a b).run P w=.ok () w:=by
 cases op<;>cases a<;>first
  |rfl
  |exact absurd rfl h2
  |exact absurd rfl (h1 _)
def VR.H8{x cx}(hx:VR m x cx)(h1:x.one=true):(∀l,cx≠.agg l)/\cx≠.nilIface:=by
 have hc:=hx.rn h1;refine⟨λl e=>?_,λe=>?_⟩
 ·subst e;cases hc
 ·subst e;cases x<;>simp[VR,AV.one]at hx h1
def Bt{t:TypeId}{e:TypeId}(hu:P.underlying t=some (.slice e)){x y cx cy b}(hx:VR m x cx)(hy:VR m y cy)(hb:Lv x y=some b)(d:Nat):
  (Op.equalIn (d+1) t cx cy).run P w=.ok b w/\(∀l,cx≠.agg l)/\cx≠.nilIface/\(binOp .eql t cx cy=do pure (.bool (<-Op.equal t cx cy)))/\(binOp .neq t cx cy=do pure (.bool (!(<-Op.equal t cx cy)))):=by
 unfold Lv at hb;split at hb
 ·rw[VR]at hx hy;subst hx;subst hy;cases hb;exact z12
 ·rw[VR]at hx;obtain⟨_,ca,cap,_,rfl,_⟩:=hy;subst hx;cases hb;exact z12
 ·rw[VR]at hy;obtain⟨_,ca,cap,_,rfl,_⟩:=hx;subst hy;cases hb;exact z12
 ·cases hb
def Bu{t:TypeId}{e:TypeId}(hu:P.underlying t=some (.pointer e)){x y cx cy b}(hx:VR m x cx)(hy:VR m y cy)(hb:Lw x y=some b)(d:Nat):
  (Op.equalIn (d+1) t cx cy).run P w=.ok b w/\(∀l,cx≠.agg l)/\cx≠.nilIface/\(binOp .eql t cx cy=do pure (.bool (<-Op.equal t cx cy)))/\(binOp .neq t cx cy=do pure (.bool (!(<-Op.equal t cx cy)))):=by
 unfold Lw at hb;split at hb
 ·rw[VR]at hx hy;subst hx;subst hy;cases hb;exact z12
 ·rw[VR]at hx;obtain⟨_,_,rfl⟩:=hy;subst hx;cases hb;exact z12
 ·rw[VR]at hy;obtain⟨_,_,rfl⟩:=hx;subst hy;cases hb;exact z12
 ·cases hb
def Bw{t:TypeId}{e f g}(hu:P.underlying t=some (.func e f g)){x y cx cy b}(hx:VR m x cx)(hy:VR m y cy)(hb:Ly x y=some b)(d:Nat):
  (Op.equalIn (d+1) t cx cy).run P w=.ok b w/\(∀l,cx≠.agg l)/\cx≠.nilIface/\(binOp .eql t cx cy=do pure (.bool (<-Op.equal t cx cy)))/\(binOp .neq t cx cy=do pure (.bool (!(<-Op.equal t cx cy)))):=by
 unfold Ly at hb;split at hb
 ·rw[VR]at hx hy;subst hx;subst hy;cases hb;exact z12
 ·rw[VR]at hx;obtain⟨_,_,_,rfl,_⟩:=hy;subst hx;cases hb;exact z12
 ·rw[VR]at hy;obtain⟨_,_,_,rfl,_⟩:=hx;subst hy;cases hb;exact z12
 ·cases hb
def Bv{t:TypeId}{e f:TypeId}(hu:P.underlying t=some (.map e f)){x y cx cy b}(hx:VR m x cx)(hy:VR m y cy)(hb:Lx x y=some b)(d:Nat):
  (Op.equalIn (d+1) t cx cy).run P w=.ok b w/\(∀l,cx≠.agg l)/\cx≠.nilIface/\(binOp .eql t cx cy=do pure (.bool (<-Op.equal t cx cy)))/\(binOp .neq t cx cy=do pure (.bool (!(<-Op.equal t cx cy)))):=by
 unfold Lx at hb;split at hb
 ·rw[VR]at hx hy;subst hx;subst hy;cases hb;exact z12
 ·rw[VR]at hx;obtain⟨_,_,rfl⟩:=hy;subst hx;cases hb;exact z12
 ·rw[VR]at hy;obtain⟨_,_,rfl⟩:=hx;subst hy;cases hb;exact z12
 ·cases hb
def DB{t:TypeId}{neg k x y ox oy cx cy}(hk:Fz P neg t x y=some (.eqv neg k x y))(hx:VR m (ρ x) cx)(hy:VR m (ρ y) cy)(hf:cN (.eqv neg k x y) ρ h=some (v,h')):
  ∃cv,(do eqGuard (if neg then .neq else .eql) t ox oy cx cy;binOp (if neg then .neq else .eql) t cx cy:Sem Value).run P w=.ok cv w/\VR m v cv/\h' =h:=by
 simp only[cN]at hf;split at hf
 case h_2=>cases hf
 rename_i b hb;cases hf;have fin:(eqGuard (if neg then .neq else .eql) t ox oy cx cy).run P w=.ok () w->(Op.equalIn 10000 t cx cy).run P w=.ok b w->(binOp .eql t cx cy=do pure (.bool (<-Op.equal t cx cy)))->(binOp .neq t cx cy=do pure (.bool (!(<-Op.equal t cx cy))))->
   ∃cv,(do eqGuard (if neg then .neq else .eql) t ox oy cx cy;binOp (if neg then .neq else .eql) t cx cy:Sem Value).run P w=.ok cv w/\VR m (.bool (if neg then !b else b)) cv/\h=h:=by
  intro h1 h2 h3 h4;refine⟨.bool (if neg then !b else b),?_,rfl,rfl⟩;simp only[TA,h1,Tp];cases neg
  ·simp only[T8,TT,h3,TA,Op.equal,Op.maxDepth,h2,Tp,TN]
  ·simp only[TQ,h4,TA,Op.equal,Op.maxDepth,h2,Tp,TN]
 unfold Fz at hk;split at hk<;>first
  |(cases hk;done)
  |skip
 ·rename_i hu;cases hk;have hb':cJ .b (ρ x) (ρ y)=some b:=hb;have hone:(ρ x).one=true:=by unfold cJ at hb';split at hb'<;>first|(cases hb';done)|simp_all [AV.one]
  obtain⟨n1,n2⟩:=hx.H8 hone;obtain⟨a,c,hxa,O1⟩:∃a c,ρ x=.bool a/\ρ y=.bool c:=by unfold cJ at hb';split at hb'<;>first|(cases hb';done)|simp_all
  rw[hxa,VR]at hx;rw[O1,VR]at hy;subst hx;subst hy;refine fin (jc n1 n2) ?_ rfl rfl;exact oQ (m:=m) (t:=t) (k:=.b) hu (x:=.bool a) (y:=.bool c) rfl rfl (by rw[<-hxa,<-O1];exact hb') 9999
 ·rename_i fs hu;exact MW
 ·rename_i n e hu;exact MW
 ·rename_i e hu;cases hk;obtain⟨h1,h2,h3,h4,h5⟩:=Bt (w:=w) hu hx hy hb 9999;exact Bb
 ·rename_i e hu;cases hk;obtain⟨h1,h2,h3,h4,h5⟩:=Bu (w:=w) hu hx hy hb 9999;exact Bb
 ·rename_i hu;cases hk;obtain⟨h1,h2,h3,h4,h5⟩:=Bw (w:=w) hu hx hy hb 9999;exact Bb
 ·rename_i hu;cases hk;obtain⟨h1,h2,h3,h4,h5⟩:=Bv (w:=w) hu hx hy hb 9999;exact Bb
end
def kI(k:mD)(ρ:cC->AV)(h:af)(v:AV)(h':af):Prop:=
 match k with
 |.call _ _=>False
 |.app es w x y=>ud es w (ρ x) (ρ y) h v h'
 |.aD es n z ps=>∃c mu tl,dA (cZ n z) (ps.map λp=>(p.1,es,ρ p.2))=some c/\c.all AV.one=true/\c.length=n*es/\v=.slice h.length 0 n es/\h' =h++[.cells c mu tl]
 |k=>cN k ρ h=some (v,h')
section
variable {P:Program}{m:bA}{h h':af}{w:World}{ρ:cC->AV}{v:AV}{σ:Operand->Value}
def dF.la{r:Result Value}(hr:HR P m h w)(hx:∃cv,r=.ok cv w/\VR m v cv/\h' =h){R:Result Next}(hR:∀cv,r=.ok cv w->R=.ok (.value cv) w):dF P m h w v h' R:=by
 obtain⟨cv,h1,h2,rfl⟩:=hx;exact dF.same hr h2 (hR cv h1)
def dF.xA{r:Result Value}(hx:∃cv w' m',r=.ok cv w'/\VR m' v cv/\HR P m' h' w'/\Grow m h w m' h' w'){R:Result Next}(hR:∀cv w',r=.ok cv w'->R=.ok (.value cv) w'):dF P m h w v h' R:=by
 obtain⟨cv,w',m',h1,h2,h3,h4⟩:=hx;exact⟨cv,w',m',.inl (hR cv w' h1),h2,h3,h4⟩
def lJ{l l'}(hl:wa l=some l')(hρ:∀x∈l,∀x',cw x=some x'->VR m (ρ x') (σ x)):bY m (l'.map ρ) (l.map σ).toList:=by
 have key:∀(l:List Operand) (l':List cC),l.mapM cw=some l'->(∀x∈l,∀x',cw x=some x'->VR m (ρ x') (σ x))->bY m (l'.map ρ) (l.map σ):=by
  intro l
  induction l with
  |nil=>intro l' h _;simp at h;subst h;exact aP.2 rfl
  |cons x l ih=>
   intro l' h hρ;simp only[Vx,Ve,VG]at h;cases hx:cw x with
   |none=>simp[hx]at h
   |some y=>
    cases hl:l.mapM cw with
    |none=>simp[hx,hl]at h
    |some l2=>
     simp[hx,hl]at h;subst h;exact aF.2 ⟨_,_,rfl,hρ x Si y hx,ih l2 hl (λx' NL=>hρ x' (by simp[NL]))⟩
 have:=key l.toList l' hl (λx hx=>hρ x (by simpa using hx))
 simpa using this
def o6{lo lo'}(hl:sY lo=some lo')(hρ:∀x∈lo,∀x',cw x=some x'->VR m (ρ x') (σ x)):
  mC m ρ lo' (lo.map σ):=by
 cases lo with
 |none=>simp[sY]at hl;subst hl;trivial
 |some x=>
  simp only[sY,TB]at hl;obtain⟨y,hy,rfl⟩:=hl;exact hρ x rfl y hy
def HJ{op}{t:TypeId}{x y ox oy cx cy}(hr:HR P m h w)(hx:VR m (ρ x) cx)(hy:VR m (ρ y) cy)(hf:cN (.bin op x y) ρ h=some (v,h')):
  ∃cv w' m',(do eqGuard op t ox oy cx cy;binOp op t cx cy:Sem Value).run P w=.ok cv w'/\VR m' v cv/\HR P m' h' w'/\Grow m h w m' h' w':=by
 simp only[cN]at hf;split at hf
 case h_2=>cases hf
 rename_i u hu;cases hf;have fin:∀{cv:Value},(eqGuard op t ox oy cx cy).run P w=.ok () w->(binOp op t cx cy).run P w=.ok cv w->VR m v cv->
   ∃cv w' m',(do eqGuard op t ox oy cx cy;binOp op t cx cy:Sem Value).run P w=.ok cv w'/\VR m' v cv/\HR P m' h w'/\Grow m h w m' h w':=by
  intro cv h1 h2 h3;exact⟨cv,w,m,by simp only[TA,h1,Tp,h2],h3,hr,Grow.refl m h w hr.bZ⟩
 unfold dm at hu;split at hu
 ·rename_i k a k' b Oo SC;rw[Oo,VR]at hx;rw[SC,VR]at hy;subst hx;subst hy;have hg:(eqGuard op t ox oy (.int k a) (.int k' b)).run P w=.ok () w:=jc (λl=>by simp) Si;split at hu
  ·rename_i hs;obtain⟨cv,h1,h2⟩:=ux (P:=P) (m:=m) (w:=w) (k':=k') hs hu t;exact fin hg h1 h2
  ·rename_i hs;split at hu
   case isFalse=>cases hu
   rename_i hk;subst hk;obtain⟨cv,h1,h2⟩:=uz (P:=P) (m:=m) (w:=w) (by simpa using hs) hu t;exact fin hg h1 h2
 ·rename_i a b Oo SC;rw[Oo,VR]at hx;rw[SC,VR]at hy;subst hx;subst hy;obtain⟨cv,h1,h2⟩:=uw (P:=P) (m:=m) (w:=w) hu t;exact fin (jc (λl=>by simp) Si) h1 h2
 ·cases hu
def p8{b ts l k OM}(hk:lU P b ts l=some k)(hargs:bY m (l.map ρ) OM.toList)(hr:HR P m h w)(hs:kI k ρ h v h')(T:TypeId)(cs:Array Bool):
  ∃cv w' m',(builtin b ts T cs OM).run P w=.ok (.value cv) w'/\VR m' v cv/\HR P m' h' w'/\Grow m h w m' h' w':=by
 have same:∀{cv:Value},(builtin b ts T cs OM).run P w=.ok (.value cv) w->VR m v cv->h' =h->∃cv w' m',(builtin b ts T cs OM).run P w=.ok (.value cv) w'/\VR m' v cv/\HR P m' h' w'/\Grow m h w m' h' w':=by
  intro cv h1 h2 h3;exact z154
 have args1:∀{x:cC},bY m [ρ x] OM.toList->∃cx,OM=#[cx]/\VR m (ρ x) cx:=by
  intro x h1;obtain⟨cx,r,RI,Qd,hr0⟩:=aF.1 h1;rw[aP]at hr0;subst hr0;exact⟨cx,by apply VD;rw[RI],Qd⟩
 have Sv:∀{x y:cC},bY m [ρ x,ρ y] OM.toList->∃cx cy,OM=#[cx,cy]/\VR m (ρ x) cx/\VR m (ρ y) cy:=by
  intro x y h1;obtain⟨cx,r,RI,Qd,hr0⟩:=aF.1 h1;obtain⟨cy,r',hcy,hvy,hr1⟩:=aF.1 hr0;rw[aP]at hr1;subst hr1;subst hcy;exact⟨cx,cy,by apply VD;rw[RI],Qd,hvy⟩
 unfold lU at hk;split at hk
 ·
  rename_i x;obtain⟨cx,rfl,hx⟩:=args1 hargs;have ry:∀(lk:LK) (t0:TypeId) (d:TypeDesc),ts[0]? =some t0->P.underlying t0=some d->(match lk with|.sl=>∃e,d=.slice e|.st=>d=.string|.mp=>∃a b,d=.map a b)->cN (.len lk x) ρ h=some (v,h')->
    ∃cv w' m',(builtin .len ts T cs #[cx]).run P w=.ok (.value cv) w'/\VR m' v cv/\HR P m' h' w'/\Grow m h w m' h' w':=by
   intro lk t0 d Pu hu hd NI;simp only[cN]at NI;split at NI
   case h_2=>cases NI
   rename_i n hn;cases NI;have go:(Builtin.len_ ts T #[cx]).run P w=.ok (.int .i64 n) w:=by
    unfold xS at hn;split at hn
    ·rename_i s hρ;rw[hρ,VR]at hx;subst hx;split at hn
     case isFalse=>cases hn
     rename_i PJ;subst PJ;cases hn;cases hd;have:(⟨⟨s⟩⟩:ByteArray).size=s.length:=rfl;simp[Builtin.len_,Pu,Tz hu,goInt,this]
    ·rename_i b o n' es hρ;rw[hρ]at hx;obtain⟨_,ca,cap,_,rfl,_⟩:=hx;exact Mz
    ·rename_i hρ;rw[hρ,VR]at hx;subst hx;exact Mz
    ·rename_i r hρ;rw[hρ]at hx;obtain⟨e,he,rfl⟩:=hx;split at hn
     case h_2=>cases hn
     rename_i es hb;split at hn
     case isFalse=>cases hn
     rename_i PJ;subst PJ;cases hn;obtain⟨a,b,rfl⟩:=hd;obtain⟨_,Pp,clock,hheap,hlen,_⟩:=hr.dx r e _ he hb;simp[Builtin.len_,Pu,Tz hu,goInt,iS hheap rfl,hlen]
    ·rename_i hρ;rw[hρ,VR]at hx;subst hx;split at hn
     case isFalse=>cases hn
     rename_i PJ;subst PJ;cases hn;obtain⟨a,b,rfl⟩:=hd;simp[Builtin.len_,Pu,Tz hu,goInt]
    ·cases hn
   exact⟨.int .i64 n,w,m,by simp only[builtin,TA,go,Tp,TN],rfl,hr,Grow.refl m h w hr.bZ⟩
  split at hk
  ·rename_i e hd;cases hk;obtain⟨t0,Pu,Qt⟩:=Ue.1 hd;exact ry .sl t0 _ Pu Qt ⟨e,rfl⟩ hs
  ·rename_i hd;cases hk;obtain⟨t0,Pu,Qt⟩:=Ue.1 hd;exact ry .st t0 _ Pu Qt rfl hs
  ·rename_i a b hd;cases hk;obtain⟨t0,Pu,Qt⟩:=Ue.1 hd;exact ry .mp t0 _ Pu Qt ⟨a,b,rfl⟩ hs
  ·rename_i n e hd;cases hk;obtain⟨t0,Pu,Qt⟩:=Ue.1 hd;have NI:cN (.xR n) ρ h=some (v,h'):=hs;simp only[cN,TG,Vs]at NI;obtain⟨rfl,rfl⟩:=NI;exact same (cv:=.int .i64 n) (by simp[builtin,Builtin.len_,Pu,Tz Qt,goInt]) rfl rfl
  ·cases hk
 ·
  rename_i x y;obtain⟨cx,cy,rfl,hx,hy⟩:=Sv hargs;have appF:∀(e:TypeId) (i:TypeInfo) (d:TypeDesc),(ts[0]?).bind (c9 P)=some (e,i)->(ts[1]?).bind P.underlying=some d->(∀k,d≠.int k)->
    (if 0<i.size/\0<i.bytes/\i.bytes<=2^20 then(i.zero.bind (kj 4)).bind λz=>if z.cells.length=i.size then some (mD.app i.size i.bytes x y)else none else none)=some k->
    ∃cv w' m',(builtin .append ts T cs #[cx,cy]).run P w=.ok (.value cv) w'/\VR m' v cv/\HR P m' h' w'/\Grow m h w m' h' w':=by
   intro e i d h0 h1 hd hk;obtain⟨sT,hts0,hsl⟩:=Ue.1 h0;obtain⟨xT,hts1,hud⟩:=Ue.1 h1;split at hk
   case isFalse=>cases hk
   rename_i hc;obtain⟨c1,c2,c3⟩:=hc;obtain⟨z,hz,hk⟩:=Ue.1 hk;split at hk
   case isFalse=>cases hk
   rename_i hzl;cases hk;obtain⟨cv,w',m',h2,h3,h4,h5⟩:=HK (w:=w) hts0 hts1 hsl c1 c2 c3 hud hd hz hzl hr hx hy hs T;exact⟨cv,w',m',by simp only[builtin,TA,h2,Tp,TN],h3,h4,h5⟩
  split at hk
  ·rename_i e i e2 h0 h1;exact appF e i _ h0 h1 (λk=>by simp) hk
  ·rename_i e i h0 h1;exact appF e i _ h0 h1 (λk=>by simp) hk
  ·cases hk
 ·
  rename_i x y;obtain⟨cx,cy,rfl,hx,hy⟩:=Sv hargs;split at hk
  case h_2=>cases hk
  rename_i e i h0;split at hk
  case isFalse=>cases hk
  rename_i hpos;cases hk;obtain⟨dT,hts0,hsl⟩:=Ue.1 h0;obtain⟨cv,w',m',h2,h3,h4,h5⟩:=HI (w:=w) hts0 hsl hpos hr hx hy hs T;exact⟨cv,w',m',by simp only[builtin,TA,h2,Tp,TN],h3,h4,h5⟩
 ·
  rename_i x l;cases hk;have NI:cN (.mx x l) ρ h=some (v,h'):=hs;simp only[cN]at NI;split at NI
  case h_2=>cases NI
  rename_i u hu;cases NI;obtain⟨cx,r,RI,Qd,NH⟩:=aF.1 hargs;obtain⟨cv,h1,h2⟩:=tL (P:=P) (w:=w) Qd NH hu;exact same (by simp only[builtin,Builtin.max_,RI,TA,h1,Tp,TN]) h2 rfl
 ·
  rename_i x l;cases hk;have NI:cN (.mn x l) ρ h=some (v,h'):=hs;simp only[cN]at NI;split at NI
  case h_2=>cases NI
  rename_i u hu;cases NI;obtain⟨cx,r,RI,Qd,NH⟩:=aF.1 hargs;obtain⟨cv,h1,h2⟩:=tK (P:=P) (w:=w) Qd NH hu;exact same (by simp only[builtin,Builtin.min_,RI,TA,h1,Tp,TN]) h2 rfl
 ·cases hk
def uq{o:Oper}{k:mD}(hc:de P o=some k)(hρ:∀x∈o.op.operands,∀x',cw x=some x'->VR m (ρ x') (σ x))(hcst:∀z,ρ (.c z)=z)(hr:HR P m h w)(hs:kI k ρ h v h'):
  dF P m h w v h' ((execOp σ o).run P w):=by
 unfold de at hc;cases NF:o.op with
 |move x=>
  exact MR
 |assign x=>
  exact MR
 |pick c a b=>
  simp only[NF]at hc;split at hc
  case h_2=>cases hc
  rename_i c' a' b' OR RL hb';cases hc;have NI:cN (.pick c' a' b') ρ h=some (v,h'):=hs;simp only[cN]at NI;split at NI
  case h_2=>cases NI
  rename_i t ht;cases NI;have h1:=hρ c (by simp[NF,Op.operands]) c' OR;rw[ht,VR]at h1;refine dF.same (cv:=if t then σ a else σ b) hr ?_ (by simp[execOp,NF,h1,asBool]);cases t
  ·exact hρ b (by simp[NF,Op.operands]) b' hb'
  ·exact hρ a (by simp[NF,Op.operands]) a' RL
 |alloc e=>
  simp only[NF]at hc;split at hc
  case h_2=>cases hc
  rename_i z hz;split at hc
  case isFalse=>cases hc
  rename_i h1;cases hc;have NI:cN (.box (.c z)) ρ h=some (v,h'):=hs;simp only[cN,hcst,h1,TQ,TG,Vs]at NI;obtain⟨rfl,rfl⟩:=NI;obtain⟨cz,PZ,Qs⟩:=iu hz w m;obtain⟨m',h2,h3,h4,h5⟩:=qw hr Qs h1 e true false;exact⟨_,_,m',.inl (by simp only[execOp,NF,Instr.alloc,TA,PZ,Tp,h2,TN]),h3,h4,h5⟩
 |box e x=>
  simp only[NF,TB]at hc;obtain⟨x',NL,rfl⟩:=hc;have NI:cN (.box x') ρ h=some (v,h'):=hs;simp only[cN]at NI;split at NI
  case isFalse=>cases NI
  rename_i h1;cases NI;obtain⟨m',h2,h3,h4,h5⟩:=qw hr (hρ x (by simp[NF,Op.operands]) x' NL) h1 e true false;exact⟨_,_,m',.inl (by simp only[execOp,NF,Instr.box,TA,Tp,h2,TN]),h3,h4,h5⟩
 |build t ps=>
  simp only[NF]at hc;split at hc
  case h_2=>cases hc
  rename_i z l hz hl;split at hc
  case isFalse=>cases hc
  rename_i hp;cases hc;have NI:cN (.build z.cells l) ρ h=some (v,h'):=hs;exact dF.la hr (Br (w:=w) (σ:=σ) hz hl hp (λp hp y hy=>hρ p.2 (by simp only[NF,Op.operands];simp only[List.mem_toArray,TI];exact⟨p,hp,rfl⟩) y hy) NI) (λcv h=>by simp[execOp,NF,h])
 |buildSlice t n ps=>
  simp only[NF]at hc;split at hc
  case h_2=>cases hc
  rename_i e i hsl;split at hc
  case h_2=>cases hc
  rename_i z l hz hl;split at hc
  case isFalse=>cases hc
  rename_i NX;obtain⟨h1,h2,h3,h4⟩:=NX;cases hc;obtain⟨c,mu,tl,OL,hc1,hcl,rfl,rfl⟩:=hs;exact dF.xA (zi (w:=w) (σ:=σ) hsl hz hl h1 h2 h3 h4 hr (λp hp y hy=>hρ p.2 (by simp only[NF,Op.operands];simp only[List.mem_toArray,TI];exact⟨p,hp,rfl⟩) y hy) OL hc1 hcl mu tl) (λcv w' h=>by simp[execOp,NF,h])
 |load t a=>
  simp only[NF]at hc;split at hc
  case h_2=>cases hc
  rename_i n a' hn RL;cases hc;exact dF.la hr (zh hn hr (hρ a (by simp[NF,Op.operands]) a' RL) hs) (λcv h=>by simp[execOp,NF,h])
 |store t a x=>
  simp only[NF]at hc;split at hc
  case h_2=>cases hc
  rename_i n a' x' hn RL NL;cases hc;obtain⟨w',h1,rfl,h2,h3⟩:=Bo (w:=w) hn hr (hρ a (by simp[NF,Op.operands]) a' RL) (hρ x (by simp[NF,Op.operands]) x' NL) hs;exact⟨undef,w',m,.inr ⟨by simp[execOp,NF,h1],rfl⟩,iv m,h2,h3⟩
 |nilCheck x=>
  simp only[NF,TB]at hc;obtain⟨x',NL,rfl⟩:=hc;have NI:cN (.bd x') ρ h=some (v,h'):=hs;have h1:=hρ x (by simp[NF,Op.operands]) x' NL;simp only[cN]at NI;split at NI
  ·rename_i b o hv;cases NI;rw[hv]at h1;have h1':=h1;obtain⟨e,he,h2⟩:=h1;exact dF.same hr h1' (by simp[execOp,NF,h2])
  ·rename_i f a c hv;exact J5
  ·rename_i f a c hv;cases NI;rw[hv]at h1;have h1':=h1;obtain⟨f',a',c',h2,h3,_⟩:=h1;obtain⟨e,he,rfl⟩:=h3;exact dF.same hr h1' (by simp[execOp,NF,h2])
  ·rename_i t' n a c hv;exact J5
  ·rename_i t' p f q a c hv;exact J5
  ·cases NI
 |binOp op t x y ty=>
  simp only[NF]at hc;split at hc
  case h_2=>cases hc
  rename_i x' y' NL hy';have hx:=hρ x (by simp[NF,Op.operands]) x' NL;have hy:=hρ y (by simp[NF,Op.operands]) y' hy';have bin:∀{op':BinOp},o.op=.binOp op' t x y ty->k=.bin op' x' y'->dF P m h w v h' ((execOp σ o).run P w):=by
   intro op' ho hk;subst hk;exact dF.xA (HJ (op:=op') (t:=t) (ox:=x) (oy:=y) hr hx hy hs) (λcv w' h=>by simp only[execOp,ho];rw[TA,h];rfl)
  have eqv:∀(neg:Bool),o.op=.binOp (if neg then .neq else .eql) t x y ty->Fz P neg t x' y' =some k->dF P m h w v h' ((execOp σ o).run P w):=by
   intro neg ho hk;have hk0:=hk;unfold Fz at hk;split at hk
   ·cases hk;exact bin ho rfl
   ·cases hk;exact bin ho rfl
   ·cases hk;exact bin ho rfl
   ·exact GI
   ·exact MM
   ·exact MM
   ·exact GI
   ·exact GI
   ·exact GI
   ·exact GI
   ·cases hk
  split at hc
  ·exact eqv false NF hc
  ·exact eqv true NF hc
  ·cases hc;exact bin NF rfl
 |unOp op t x=>
  simp only[NF,TB]at hc;obtain⟨x',NL,rfl⟩:=hc;have NI:cN (.un op x') ρ h=some (v,h'):=hs;simp only[cN]at NI;split at NI
  case h_2=>cases NI
  rename_i u hu;cases NI;obtain⟨cv,h1,h2⟩:=Bs (P:=P) (w:=w) (hρ x (by simp[NF,Op.operands]) x' NL) hu;exact dF.same hr h2 (by simp[execOp,NF,h1])
 |convert s d x=>
  simp only[NF]at hc;split at hc
  case h_2=>cases hc
  rename_i ck x' hck NL;cases hc;exact dF.xA (EG hck hr (hρ x (by simp[NF,Op.operands]) x' NL) hs) (λcv w' h=>by simp[execOp,NF,h])
 |makeInterface u x=>
  simp only[NF]at hc;split at hc
  ·cases hc
  ·rename_i d x' hni hd NL;cases hc;have NI:cN (.conv (.rZ u) x') ρ h=some (v,h'):=hs;simp only[cN,iI,TG,Vs]at NI;obtain⟨rfl,rfl⟩:=NI;have Qc:=hρ x (by simp[NF,Op.operands]) x' NL;refine dF.same (cv:=.iface u (σ x)) hr ⟨_,rfl,Qc⟩ ?_;simp only[execOp,NF,Instr.makeInterface,TA,Tz hd,Tp];cases d<;>first|rfl|exact absurd rfl (hni _)
  ·cases hc
 |makeFunc fn a c=>
  simp only[NF]at hc;split at hc
  case isFalse=>cases hc
  rename_i hfn;split at hc
  case h_2=>cases hc
  rename_i a' c' RL OR;cases hc;have NI:cN (.rv fn a' c') ρ h=some (v,h'):=hs;simp only[cN,TG,Vs]at NI;obtain⟨rfl,rfl⟩:=NI;have h1:=lJ (m:=m) (ρ:=ρ) (σ:=σ) RL (λx hx=>hρ x (by simp only[NF,Op.operands];exact Array.mem_append.2 (.inl hx)));have h2:=lJ (m:=m) (ρ:=ρ) (σ:=σ) OR (λx hx=>hρ x (by simp only[NF,Op.operands];exact Array.mem_append.2 (.inr hx)));refine dF.same (cv:=.func fn (a.map σ) (c.map σ)) hr ⟨fn,(a.map σ).toList,(c.map σ).toList,rfl,?_,h1,h2⟩ (by simp[execOp,NF,Instr.makeFunc]);cases fn<;>first
   |rfl
   |(cases hfn;done)
 |makeMap t r=>
  simp only[NF]at hc;cases r with
  |some _=>simp at hc
  |none=>
   simp only[TG]at hc;subst hc;have NI:cN .lL ρ h=some (v,h'):=hs;simp only[cN,TG,Vs]at NI;obtain⟨rfl,rfl⟩:=NI;have Sh:=iK hr (.map #[] 0) (.aK []) ⟨w.heap.size,0,0,true⟩ rfl rfl (λm' _=>⟨rfl,#[],0,World.alloc_heap_new w _,rfl,λi p hp=>by simp at hp⟩);exact⟨.map (some w.heap.size),_,_,.inl (by simp[execOp,NF,Instr.makeMap]),⟨⟨w.heap.size,0,0,true⟩,by simp[bA.add],rfl⟩,Sh.1,Sh.2⟩
 |makeSlice t l c=>
  simp only[NF]at hc;split at hc
  case h_2=>cases hc
  rename_i e i l' c' hsl N1 OR;split at hc
  case h_2=>cases hc
  rename_i z hz;split at hc
  case isFalse=>cases hc
  rename_i NX;obtain⟨h1,h2,h3⟩:=NX;cases hc;exact dF.xA (EB hsl hz h1 h2 h3 hr (hρ l (by simp[NF,Op.operands]) l' N1) (hρ c (by simp[NF,Op.operands]) c' OR) hs) (λcv w' h=>by simp[execOp,NF,h])
 |slice t x lo hi mx=>
  simp only[NF]at hc;cases mx with
  |some _=>simp at hc
  |none=>
   simp only at hc;split at hc
   case h_2=>cases hc
   rename_i x' lo' hi' NL hlo' hhi';have hx:=hρ x (by simp[NF,Op.operands]) x' NL;have hlo:=o6 (m:=m) (ρ:=ρ) (σ:=σ) hlo' (λy hy=>hρ y (by simp only[NF,Op.operands];cases hy;simp));have hhi:=o6 (m:=m) (ρ:=ρ) (σ:=σ) hhi' (λy hy=>hρ y (by simp only[NF,Op.operands];cases hy;simp));split at hc
   ·rename_i hu;cases hc;exact dF.la hr (HE hu hx hlo hhi hs) (λcv h=>by simp only[execOp,NF,Vp];rw[TA,h];rfl)
   ·rename_i e hu;simp only[TB]at hc;obtain⟨n,hn,rfl⟩:=hc;exact dF.la hr (Kw hu hn hx hlo hhi hs) (λcv h=>by simp only[execOp,NF,Vp];rw[TA,h];rfl)
   ·rename_i n e hu;simp only[TB]at hc;obtain⟨es,hes,rfl⟩:=hc;exact dF.la hr (HF hu hes hr hx hlo hhi hs) (λcv h=>by simp only[execOp,NF,Vp];rw[TA,h];rfl)
   ·cases hc
 |fieldAddr t x i=>
  simp only[NF]at hc;split at hc
  case h_2=>cases hc
  rename_i f x' hf NL;split at hc
  case h_2=>cases hc
  rename_i n hn;split at hc
  case isFalse=>cases hc
  rename_i hpos;cases hc;exact dF.la hr (EF hf hn hpos (hρ x (by simp[NF,Op.operands]) x' NL) hs) (λcv h=>by simp[execOp,NF,h])
 |indexAddr t x i=>
  simp only[NF]at hc;split at hc
  case h_2=>cases hc
  rename_i x' i' NL hi';have hx:=hρ x (by simp[NF,Op.operands]) x' NL;have hi:=hρ i (by simp[NF,Op.operands]) i' hi';split at hc
  ·rename_i e hu;simp only[TB]at hc;obtain⟨n,hn,rfl⟩:=hc;exact dF.la hr (ED hu hn hx hi hs) (λcv h=>by simp[execOp,NF,h])
  ·rename_i len e hu;simp only[TB]at hc;obtain⟨n,hn,rfl⟩:=hc;exact dF.la hr (EE hu hn hx hi hs) (λcv h=>by simp[execOp,NF,h])
  ·cases hc
 |field t x i=>
  simp only[NF]at hc;split at hc
  case h_2=>cases hc
  rename_i f x' hf NL;simp only[TB]at hc;obtain⟨n,hn,rfl⟩:=hc;exact dF.la hr (Bp hf hn (hρ x (by simp[NF,Op.operands]) x' NL) hs) (λcv h=>by simp[execOp,NF,h])
 |index t x i=>
  simp only[NF]at hc;split at hc
  case h_2=>cases hc
  rename_i x' i' NL hi';have hx:=hρ x (by simp[NF,Op.operands]) x' NL;have hi:=hρ i (by simp[NF,Op.operands]) i' hi';split at hc
  ·rename_i hu;cases hc;exact dF.la hr (HG hu hx hi hs) (λcv h=>by simp[execOp,NF,h])
  ·rename_i len e hu;split at hc
   case h_2=>cases hc
   rename_i n q hn hq;cases hc;exact dF.la hr (HH hu hn hq hx hi hs) (λcv h=>by simp[execOp,NF,h])
  ·cases hc
 |lookup t x i ok=>
  simp only[NF]at hc;split at hc
  case h_2=>cases hc
  rename_i kt e x' i' hu NL hi';split at hc
  case h_2=>cases hc
  rename_i kk z hkk hz;cases hc;exact dF.la hr (EC hu hkk hz hr (hρ x (by simp[NF,Op.operands]) x' NL) (hρ i (by simp[NF,Op.operands]) i' hi') hs) (λcv h=>by simp[execOp,NF,h])
 |mapUpdate t x i y=>
  exact MT
 |insert t x i y=>
  exact MT
 |range t x=>
  simp only[NF]at hc;split at hc
  case h_2=>cases hc
  rename_i hu;simp only[TB]at hc;obtain⟨x',NL,rfl⟩:=hc;exact dF.xA (Ez hu hr (hρ x (by simp[NF,Op.operands]) x' NL) hs) (λcv w' h=>by simp[execOp,NF,h])
 |next x isS=>
  simp only[NF]at hc;cases isS with
  |false=>simp at hc
  |true=>
   simp only[TB]at hc;obtain⟨x',NL,rfl⟩:=hc;exact dF.xA (Bq (t:=o.type) hr (hρ x (by simp[NF,Op.operands]) x' NL) hs) (λcv w' h=>by simp[execOp,NF,h])
 |extract x i=>
  simp only[NF,TB]at hc;obtain⟨x',NL,rfl⟩:=hc;have NI:cN (.ext x' i) ρ h=some (v,h'):=hs;simp only[cN]at NI;split at NI
  case h_2=>cases NI
  rename_i l hl;split at NI
  case h_2=>cases NI
  rename_i u hu;cases NI;have h1:=hρ x (by simp[NF,Op.operands]) x' NL;rw[hl]at h1;obtain⟨l',h2,h3⟩:=h1;obtain⟨cv,Pk,NH⟩:=h3.get hu;exact dF.same hr NH (by simp[execOp,NF,Instr.extract,h2,Pk])
 |call c=>
  simp only[NF]at hc;split at hc
  case h_2=>cases hc
  rename_i l hl;have hargs:=lJ (m:=m) (ρ:=ρ) (σ:=σ) hl (λx hx=>hρ x (by simp only[NF,Op.operands,Call.operands];exact Array.mem_append.2 (.inr hx)));split at hc
  ·exact G7
  ·exact G7
  ·rename_i b hb;obtain⟨cv,w',m',h1,h2,h3,h4⟩:=p8 (w:=w) hc hargs hr hs o.type (c.args.map λ|.const _=>true|_=>false);refine⟨cv,w',m',.inl ?_,h2,h3,h4⟩;simp only[execOp,NF,resolve,hb,TA,TN,Tp,invoke];exact h1
 |_=>simp[NF]at hc
end
def Rel(P:Program)(m:bA)(h:af)(w:World)(v:AV)(h':af)(e:Ending)(w':World):Prop:=
 ∃cv m',e=.returned cv/\VR m' v cv/\HR P m' h' w'/\Grow m h w m' h' w'
def jR(P:Program)(f:FuncId)(args:List AV)(h:af)(v:AV)(h':af):Prop:=
 ∀(m:bA) (w:World) (vs:List Value),HR P m h w->bY m args vs->Calls P f ⟨vs⟩ w (Rel P m h w v h')
def AY(P:Program)(R:Ending->World->Prop):Result Next->Prop
 |.ok (.value cv) w'=>R (.returned cv) w'
 |.ok (.enter f args) w'=>CallsIn Fence.wide 0 P f args w' R
 |.ok (.round l f tmps asg body) w'=>RoundIn Fence.wide 0 P l f tmps asg body w' R
 |_=>False
def dP(P:Program)(fv:AV)(args:List AV)(h:af)(v:AV)(h':af):Prop:=
 ∀(m:bA) (w:World) (cv:Value) (vs:List Value),HR P m h w->VR m fv cv->bY m args vs->
  ∃d,(∀w,(Deferred.ofValue cv ⟨vs⟩).run P w=.ok d w)/\AY P (Rel P m h w v h') ((invoke d.target d.args).run P w)
def nn(P:Program)(k:mD)(ρ:cC->AV)(h:af)(v:AV)(h':af):Prop:=
 match k with
 |.call f args=>dP P (ρ f) (args.map ρ) h v h'
 |k=>kI k ρ h v h'
abbrev Fd(ro:Option Nat):Fence:={Fence.wide with round:=ro}
def iT{P f fn args w}(hf:P.funcs[f]? =some fn)(hb:fn.body.isSome=true)(hn:(fn.name == "runtime.NumGoroutine")=false):
  (callFunc f args).run P w=.ok (.enter f args) w:=by
 have hb':fn.body≠none:=by cases h:fn.body<;>simp_all
 have Re:fn.name≠ "runtime.NumGoroutine":=by simpa using hn
 simp[callFunc,TA,run_program,hf,Re,hb',Result.andThen]
section
variable {P:Program}{m:bA}{h h':af}{w:World}{v:AV}
def oC{ro:Option Nat}{o:Oper}{a:Act}{next:Act->World->Prop}{Q:Exit->Act->World->Prop}{r:Result Next}
  (hr:AY P (Rel P m h w v h') r) (hn:∀cv m' w',VR m' v cv->HR P m' h' w'->Grow m h w m' h' w'->next (a.put o.dst cv) w'):o.uponIn (Fd ro) 0 P a next Q r:=by
 cases r with
 |halt x w'=>exact hr.elim
 |ok x w'=>
  cases x<;>first
   |exact hr.elim
   |skip
  case value cv=>
   obtain⟨cv',m',he,h1,h2,h3⟩:=hr;cases he;exact hn cv m' w' h1 h2 h3
  case enter f args=>
   rw[Oper.uponIn_enter];refine⟨λhd=>by simp[Fd,Fence.wide]at hd,CallsIn.mono (F:=Fd ro) (show CallsIn (Fd ro) (0-1) P f args w' (Rel P m h w v h')from hr) λe w'' he=>?_⟩;exact z139
  case round l f tmps asg body=>
   rw[Oper.uponIn_round];refine⟨λhd=>by simp[Fd,Fence.wide]at hd,RoundIn.mono (F:=Fd ro) (show RoundIn (Fd ro) (0-1) P l f tmps asg body w' (Rel P m h w v h')from hr) λe w'' he=>?_⟩;exact z139
def sZ{o:Oper}{k:mD}{ρ:cC->AV}(hc:de P o=some k){a:Act}(hρ:∀x∈o.op.operands,∀x',cw x=some x'->VR m (ρ x') (a.eval x))(hcst:∀z,ρ (.c z)=z)
  (hr:HR P m h w) (hs:nn P k ρ h v h') (ro:Option Nat) (next:Act->World->Prop) (Q:Exit->Act->World->Prop)
  (hn:∀cv m' w',VR m' v cv->HR P m' h' w'->Grow m h w m' h' w'->next (a.put o.dst cv) w'):o.wpIn (Fd ro) 0 P a w next Q:=by
 refine⟨λ_ _=>trivial,?_⟩;have hdef:∀c,o.op≠.defer c:=by
  intro c NF;simp[de,NF]at hc
 rw[Oper.semAt_eq _ _ _ hdef];by_cases PE:∃f args,k=.call f args
 ·obtain⟨f,args,rfl⟩:=PE;have NI:dP P (ρ f) (args.map ρ) h v h':=hs;cases NF:o.op with
  |call c=>
   have OR:=hc;simp only[de,NF]at OR;split at OR
   case h_2=>cases OR
   rename_i l hl;have hargs:=lJ (m:=m) (ρ:=ρ) (σ:=a.eval) hl (λx hx=>hρ x (by simp only[NF,Op.operands,Call.operands];exact Array.mem_append.2 (.inr hx)));split at OR
   ·rename_i g hg;simp only[TB]at OR;obtain⟨g',NY,he⟩:=OR;cases he;have hf:=hρ g (by simp[NF,Op.operands,Call.operands,hg]) _ NY;obtain⟨d,hd,haf⟩:=NI m w _ _ hr hf hargs;refine oC (m:=m) (h:=h) (w:=w) (v:=v) (h':=h') ?_ hn;simp only[execOp,NF,resolve,hg,TA];have N6:(Deferred.ofValue (a.eval g) (c.args.map a.eval)).run P w=.ok d w:=hd w;rw[N6];exact haf
   ·rename_i r name hg;simp only[TB]at OR;obtain⟨r',hr',he⟩:=OR;cases he;have hrv:=hρ r (by simp[NF,Op.operands,Call.operands,hg]) _ hr';have hf:VR m (ρ (.c (.func (.method name) [] []))) (.func (.method name) #[] #[]):=by
     rw[hcst,VR];exact⟨_,[],[],rfl,rfl,rfl,rfl⟩
    obtain⟨d,hd,haf⟩:=NI m w _ (a.eval r:: (c.args.map a.eval).toList) hr hf (aF.2 ⟨_,_,rfl,hrv,hargs⟩);refine oC (m:=m) (h:=h) (w:=w) (v:=v) (h':=h') ?_ hn;simp only[execOp,NF,resolve,hg,TA];have N6:=hd w;have:(#[]++(⟨a.eval r:: (c.args.map a.eval).toList⟩:Array Value))=#[a.eval r]++c.args.map a.eval:=by
     apply VD;simp
    simp only[Deferred.ofValue,this]at N6;cases N6;exact haf
   ·rename_i b hb;exfalso;unfold lU at OR
    repeat' split at OR
    all_goals first|(cases OR;done)|(simp only[Ue]at OR;obtain⟨z,_,hz⟩:=OR;split at hz<;>cases hz)
  |makeMap t r=>cases r<;>simp[de,NF]at hc
  |next x b=>
   cases b
   ·simp[de,NF]at hc
   ·simp[de,NF,TB]at hc
  |slice t x lo hi mx=>
   cases mx with
   |some _=>simp[de,NF]at hc
   |none=>
    exfalso;simp only[de,NF]at hc
    repeat' split at hc
    all_goals first
     |(cases hc;done)
     |(simp[TB]at hc;done)
  |_=>
   exfalso;simp only[de,NF]at hc
   repeat' split at hc
   all_goals first
    |(cases hc;done)
    |(simp[TB,Ue]at hc;done)
    |(unfold Fz at hc;repeat' split at hc;all_goals first|(cases hc;done)|(simp[TB]at hc;done))
 ·have NI:kI k ρ h v h':=by
   cases k<;>first|exact hs|exact absurd ⟨_,_,rfl⟩ PE
  obtain⟨cv,w',m',he,h1,h2,h3⟩:=uq (w:=w) hc hρ hcst hr NI;rcases he with he|⟨he,rfl⟩
  ·rw[he];exact hn cv m' w' h1 h2 h3
  ·rw[he];exact hn undef m' w' h1 h2 h3
def GV(P:Program)(m:bA):Prop:=∀g,g<P.globals.size->∃e,m g=some e/\e.cb=g/\e.d=0
def HR.gv(hr:HR P m h w):GV P m:=λg hg=>by obtain⟨e,h1,h2,h3,_⟩:=hr.eZ g hg;exact⟨e,h1,h2,h3⟩
def wB(hg:GV P m){ts:TS}{a:Act}{x:Operand}{x':cC}(hx:cw x=some x')(hok:JK P x=true)(ht:∀t,x=.tmp t->VR m (ts.getD t ar) (a.tmps.getD t undef)):VR m (val ts x') (a.eval x):=by
 cases x with
 |tmp t=>cases hx;exact ht t rfl
 |const c=>
  simp only[cw,TB]at hx;obtain⟨y,hy,rfl⟩:=hx;exact om m 4 _ _ hy
 |global g=>
  cases hx;simp only[JK,T3]at hok;obtain⟨e,he,hcb,hd⟩:=hg g hok;exact⟨e,he,by rw[hcb,hd];rfl⟩
 |func f=>cases hx;exact⟨.func f,[],[],rfl,rfl,rfl,rfl⟩
def lA{ts:TS}{vs:Array Value}(h:bY m ts vs.toList)(t:Nat):VR m (ts.getD t ar) (vs.getD t undef):=by
 have hl:=h.length;by_cases ht:t<ts.length
 ·have hx:ts[t]? =some ts[t]:=Tk ht;obtain⟨y,hy,hr⟩:=h.get hx;have e1:ts.getD t ar=ts[t]:=by simp[List.getD,hx]
  have e2:vs.getD t undef=y:=by
   simp only[UD]at hy;simp[TX,hy]
  rw[e1,e2];exact hr
 ·have e1:ts.getD t ar=ar:=by simp[List.getD,U6 (by omega:ts.length<=t)]
  have e2:vs.getD t undef=undef:=by
   have:vs.size<=t:=by simp at hl;omega
   simp[TX,UJ this]
  rw[e1,e2];exact iv m
def BA{ts:TS}{a:Act}(h:bY m ts a.tmps.toList){x:AV}{cv:Value}(hx:VR m x cv)(d:Option Nat):bY m (put ts d x) (a.put d cv).tmps.toList:=by
 cases d with
 |none=>exact h
 |some d=>simp only[put,Act.put,Array.toList_setIfInBounds];exact h.set d hx
def put_defers(a:Act)(d:Option Nat)(cv:Value):(a.put d cv).defers=a.defers:=by cases d<;>rfl
def oB{ts:TS}{a:Act}{ops:Array Oper}{o:Oper}{g:Option (Nat×Bool)}(hg:rz ops o.guard=some g)
  (ht:∀t b,g=some (t,b)->(t<ts.length↔t<a.tmps.size)/\VR m (ts.getD t ar) (a.tmps.getD t undef)):Region.wanted o (yielded ops a.tmps)=true↔wanted g ts:=by
 unfold rz at hg;unfold Region.wanted wanted;cases Pz:o.guard with
 |none=>rw[Pz]at hg;cases hg;simp
 |some p=>
  obtain⟨j,b⟩:=p;rw[Pz]at hg;simp only[TB]at hg;obtain⟨d,hd,rfl⟩:=hg;simp only[yielded,hd,Option.bind_some,beq_iff_eq];obtain⟨hlt,NH⟩:=ht d b rfl;by_cases hdl:d<ts.length
  ·have Qx:=hlt.1 hdl;have e1:ts.getD d ar=ts[d]:=by simp[List.getD,Tk hdl]
   have e2:a.tmps.getD d undef=a.tmps[d]:=by simp[TX,T4 Qx]
   rw[e1,e2]at NH;rw[T4 Qx,Tk hdl];generalize a.tmps[d]=cv at NH;generalize ts[d]=av at NH;cases av with
   |bool t=>rw[VR]at NH;subst NH;simp
   |int k n=>rw[VR]at NH;subst NH;simp
   |ug k n=>rw[VR]at NH;obtain⟨_,rfl,_⟩:=NH;simp
   |tU k x y=>rw[VR]at NH;obtain⟨_,_,rfl,_⟩:=NH;simp
   |str s=>rw[VR]at NH;subst NH;simp
   |ptr b o=>rw[VR]at NH;obtain⟨_,_,rfl⟩:=NH;simp
   |nilPtr=>rw[VR]at NH;subst NH;simp
   |slice b o n e=>rw[VR]at NH;obtain⟨_,_,_,_,rfl,_⟩:=NH;simp
   |ah=>rw[VR]at NH;subst NH;simp
   |map r=>rw[VR]at NH;obtain⟨_,_,rfl⟩:=NH;simp
   |cH=>rw[VR]at NH;subst NH;simp
   |func f x y=>rw[VR]at NH;obtain⟨_,_,_,rfl,_⟩:=NH;simp
   |nilFunc=>rw[VR]at NH;subst NH;simp
   |agg l=>rw[VR]at NH;obtain⟨_,rfl,_⟩:=NH;simp
   |dh l=>rw[VR]at NH;obtain⟨_,rfl,_⟩:=NH;simp
   |rZ u l=>rw[VR]at NH;obtain⟨_,rfl,_⟩:=NH;simp
   |iU=>rw[VR]at NH;subst NH;simp
  ·have Qx:¬d<a.tmps.size:=λx=>hdl (hlt.2 x)
   rw[UJ Om,U6 Om];simp
inductive cQ (P:Program) (o:aZ) (ts:TS) (h:af):TS->af->Prop
 |run {v:AV}{h':af}(hw:wanted o.gd ts) (hb:zX o.dst o.k ts.length) (hs:nn P o.k (val ts) h v h'):cQ P o ts h (put ts o.dst v) h'
 |skip (hw:¬wanted o.gd ts):cQ P o ts h (put ts o.dst ar) h
def vD(P:Program):List aZ->TS->af->TS->af->Prop
 |[],ts,h,ts',h'=>ts' =ts/\h' =h
 |o::r,ts,h,ts',h'=>∃O3 h1,cQ P o ts h O3 h1/\(o.q=true->∃g,h1=h++g)/\vD P r O3 h1 ts' h'
structure St(P:Program)(m:bA)(ts:TS)(h:af)(a:Act)(w:World):Prop where
 hr:HR P m h w
 ts:bY m ts a.tmps.toList
def l9{ρ}:¬nn P .bad ρ h v h':=λhs=>by
 have NI:cN .bad ρ h=some (v,h'):=hs;simp[cN]at NI
def ee{ops:Array Oper}{i:Nat}{o:Oper}(ho:ops[i]? =some o){q:Bool}{io:aZ}(hc:bj P ops q o=some io){ts ts':TS}{a:Act}
  (hg:GV P m) (hr:HR P m h w) (hlen:a.tmps.size=ts.length)
  (ht:∀t,t∈o.looksAt ops->VR m (ts.getD t ar) (a.tmps.getD t undef)) (hs:cQ P io ts h ts' h') (ro:Option Nat) (K:Act->World->Prop) (Q:Exit->Act->World->Prop)
  (hn:∀cv v m' w',ts' =put ts o.dst v->VR m' v cv->HR P m' h' w'->Grow m h w m' h' w'->K (a.put o.dst cv) w'):wpOpIn (Fd ro) 0 P ops Q i K a w:=by
 unfold bj at hc;split at hc
 case h_2=>cases hc
 rename_i g Pz;cases hc;have hw:=oB (m:=m) (ts:=ts) (a:=a) Pz (λt b Qk=>⟨Om,ht t (by
  unfold Oper.looksAt;refine List.mem_append_right _ ?_;unfold rz at Pz;cases hog:o.guard with
  |none=>rw[hog]at Pz;cases Pz;cases Qk
  |some p=>
   obtain⟨j,b'⟩:=p;rw[hog]at Pz;simp only[TB]at Pz;obtain⟨d,hd,rfl⟩:=Pz;cases Qk;simp[hd])⟩)
 unfold wpOpIn;rw[ho];cases hs with
 |run hwa hb hs=>
  clear hb;simp only;rw[Ty (hw.2 hwa)];simp only at hs;split at hs
  case isFalse=>exact absurd hs l9
  rename_i hgok;cases hk:de P o with
  |none=>rw[hk]at hs;exact absurd hs l9
  |some k=>
   rw[hk]at hs;refine sZ hk (λx hx x' NL=>?_) (λz=>rfl) hr hs ro K Q (λcv m' w' h1 h2 h3=>hn cv _ m' w' rfl h1 h2 h3);exact z51
 |skip hwa=>
  simp only;rw[Tt (λx=>hwa (hw.1 x))];exact⟨λ_ _=>trivial,hn undef _ m w rfl (iv m) hr (Grow.refl m h w hr.bZ)⟩
theorem fc{α β:Type}{f:Nat->α->Option β}:∀{l:List α}{i:Nat}{r:List β},dC f l i=some r->r.length=l.length/\∀(j:Nat) (x:α),l[j]? =some x->∃y,r[j]? =some y/\f (i+j) x=some y
 |[],i,r,h=>by cases h;exact⟨rfl,λj x hx=>by simp at hx⟩
 |x::xs,i,r,h=>by
  unfold dC at h;split at h
  case h_2=>cases h
  rename_i y ys hy hys;cases h;obtain⟨h1,h2⟩:=fc hys;refine⟨by simp[h1],λj z hz=>?_⟩;cases j with
  |zero=>simp at hz;subst hz;exact⟨y,Si,hy⟩
  |succ j=>
   simp at hz;obtain⟨u,hu,hf⟩:=h2 j z hz;exact⟨u,by simpa using hu,by rw[show i+(j+1)=i+1+j from by omega];exact hf⟩
structure Row(P:Program)(l:List aZ)(T:Nat->TS)(H:Nat->af):Prop where
 step:∀i o,l[i]? =some o->cQ P o (T i) (H i) (T (i+1)) (H (i+1))/\(o.q=true->∃g,H (i+1)=H i++g)
theorem vD.row:∀{l}{ts ts'}{h h'},vD P l ts h ts' h'->∃T H,T 0=ts/\H 0=h/\T l.length=ts'/\H l.length=h'/\Row P l T H
 |[],ts,ts',h,h',hs=>by
  obtain⟨rfl,rfl⟩:=hs;exact⟨λ_=>ts',λ_=>h',rfl,rfl,rfl,rfl,⟨λi o ho=>by simp at ho⟩⟩
 |o::r,ts,ts',h,h',hs=>by
  obtain⟨O3,h1,bp,hq,hr⟩:=hs;obtain⟨T,H,hT,hH,OT,hH',hrow⟩:=hr.row;refine⟨λi=>match i with| 0=>ts|i+1=>T i,λi=>match i with| 0=>h|i+1=>H i,rfl,rfl,OT,hH',⟨λi x hx=>?_⟩⟩;cases i with
  |zero=>
   simp at hx;subst hx;show cQ P o ts h (T 0) (H 0)/\_;rw[hT,hH];exact⟨bp,λq=>by show ∃g,H 0=h++g;rw[hH];exact hq q⟩
  |succ i=>exact hrow.step i x (by simpa using hx)
def kO(ts:TS)(d:Option Nat)(v:AV):(put ts d v).length=ts.length:=by cases d<;>simp[put]
theorem cQ.put{o ts ts'}(hs:cQ P o ts h ts' h'):∃v,ts' =put ts o.dst v:=by
 cases hs with
 |run=>exact⟨_,rfl⟩
 |skip=>exact⟨_,rfl⟩
def cM{ops q o io}(hc:bj P ops q o=some io):io.dst=o.dst/\io.q=q:=by
 unfold bj at hc;split at hc
 ·cases hc;exact⟨rfl,rfl⟩
 ·cases hc
def uJ{ops:Array Oper}{l:List aZ}(hc:cg P ops false=some l){ts ts':TS}{h h':af}(hs:vD P l ts h ts' h'){m:bA}{a:Act}{w:World}(st:St P m ts h a w)(ro:Option Nat)
  (Q:Exit->Act->World->Prop) (hQ:∀m' a' w',St P m' ts' h' a' w'->Grow m h w m' h' w'->a'.defers=a.defers->Q .normal a' w') (id:Nat):(Code.region id ops false).wpIn (Fd ro) 0 P Q a w:=by
 refine wpIn_region ?_;obtain⟨T,H,rfl,rfl,rfl,rfl,hrow⟩:=hs.row;obtain⟨hlen,NO⟩:=fc (show dC (λ_ o=>bj P ops false o) ops.toList 0=some l from hc);simp only[Vh]at hlen;have key:∀(k j:Nat),j+k=ops.size->∀(m1:bA) (a1:Act) (w1:World),St P m1 (T j) (H j) a1 w1->Grow m (H 0) w m1 (H j) w1->a1.defers=a.defers->
   wpOpsIn (Fd ro) 0 P ops Q (List.range' j k) a1 w1:=by
  intro k
  induction k with
  |zero=>
   intro j hj m1 a1 w1 s1 g1 hd;have:j=l.length:=Om
   subst this;exact hQ m1 a1 w1 s1 g1 hd
  |succ k ih=>
   intro j hj m1 a1 w1 s1 g1 hd;rw[List.range'_succ,wpOpsIn_cons];have hjlt:j<ops.size:=Om
   have ho:ops[j]? =some ops[j]:=T4 hjlt;obtain⟨io,hio,NQ⟩:=NO j ops[j] Si;obtain⟨bp,_⟩:=hrow.step j io hio;refine ee ho NQ s1.hr.gv s1.hr (by simpa using s1.ts.length) (λt _=>lA s1.ts t) bp ro _ Q ?_;intro cv v m' w' NK h1 h2 h3;have hle:=h3.le s1.hr.bZ;exact ih (j+1) Om m' _ w' ⟨h2,by rw[NK];exact BA (bY.mono hle _ _ s1.ts) h1 _⟩ (g1.trans h3 st.hr.bZ) (by rw[put_defers];exact hd)
 have:=key ops.size 0 Om m a w st (Grow.refl m _ w st.hr.bZ) rfl
 rwa [<-List.range_eq_range']at this
end
end Go.Abs
