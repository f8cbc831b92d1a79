/- A part of the proof that HouseLogs holds. No condition. -/
import Derived.Shelf.Strings.Builder1
import Derived.Shelf.Strings.Builder2
import Derived.Shelf.Strings.OnBuilder
import Derived.Test.YtgplmdgpmbegiaaGreatDoorProg
import Derived.Shelf.Strings.Repeat
import Derived.Tactics
import Derived.OrdersIn
import Derived.RangeFuncLeaves
import Derived.RangeFuncIn
import Derived.RangeFuncOwn
import Derived.Laws.Sem
import Derived.Laws.World
import Derived.Laws.Cells
import Derived.Laws.Entries
import Derived.Below
import Derived.MapKept
import Derived.Laws.Tables
import Derived.Laws.StructEq
import Derived.Test.YtgplmdgpmbegiaaGreatDoorLo0
set_option linter.all false
namespace Go.Proofs
open Go.Shelf
def Tryz.nY:Go.Shelf.Ren:=⟨λ| 156=>114| 165=>210| 166=>211| 169=>212| 240=>257| 241=>258| 276=>282| 277=>283|n=>n,λ| 31=>28| 9=>9| 3=>3| 4=>4| 0=>0| 20=>20| 72=>271| 76=>275| 70=>269| 37=>119| 75=>274| 127=>308| 164=>332| 5=>5| 80=>97|n=>n,λn=>n⟩
def Tryz.wW:Go.Proofs.Lays.n156 Tryz.prog Tryz.nY:={
 mixed:=by kernel_rfl
 f156:=Tryz.func114.trans (congrArg some (by kernel_rfl))
 f165:=Tryz.func210.trans (congrArg some (by kernel_rfl))
 f166:=Tryz.func211.trans (congrArg some (by kernel_rfl))
 f169:=Tryz.func212.trans (congrArg some (by kernel_rfl))
 f240:=Tryz.func257.trans (congrArg some (by kernel_rfl))
 f241:=Tryz.func258.trans (congrArg some (by kernel_rfl))
 f276:=Tryz.func282.trans (congrArg some (by kernel_rfl))
 f277:=Tryz.func283.trans (congrArg some (by kernel_rfl))
 t0:=Tryz.underlying0
 a0:=Tryz.isAgg0
 z0:=Tryz.sizeOf0
 v0:=Tryz.zeroValue0
 t3:=Tryz.underlying3
 a3:=Tryz.isAgg3
 z3:=Tryz.sizeOf3
 v3:=Tryz.zeroValue3
 t4:=Tryz.underlying4
 a4:=Tryz.isAgg4
 z4:=Tryz.sizeOf4
 v4:=Tryz.zeroValue4
 t9:=Tryz.underlying9
 a9:=Tryz.isAgg9
 z9:=Tryz.sizeOf9
 v9:=Tryz.zeroValue9
 t20:=Tryz.underlying20
 a20:=Tryz.isAgg20
 z20:=Tryz.sizeOf20
 v20:=Tryz.zeroValue20
 t31:=Tryz.underlying28
 a31:=Tryz.isAgg28
 z31:=Tryz.sizeOf28
 v31:=Tryz.zeroValue28
 t37:=Tryz.underlying119
 a37:=Tryz.isAgg119
 z37:=Tryz.sizeOf119
 v37:=Tryz.zeroValue119
 t70:=Tryz.underlying269
 a70:=Tryz.isAgg269
 z70:=Tryz.sizeOf269
 v70:=Tryz.zeroValue269
 t72:=Tryz.underlying271
 a72:=Tryz.isAgg271
 z72:=Tryz.sizeOf271
 v72:=Tryz.zeroValue271
 t75:=Tryz.underlying274
 a75:=Tryz.isAgg274
 z75:=Tryz.sizeOf274
 v75:=Tryz.zeroValue274
 t76:=Tryz.underlying275
 a76:=Tryz.isAgg275
 z76:=Tryz.sizeOf275
 v76:=Tryz.zeroValue275
 t127:=Tryz.underlying308
 a127:=Tryz.isAgg308
 z127:=Tryz.sizeOf308
 v127:=Tryz.zeroValue308
 t164:=Tryz.underlying332
 a164:=Tryz.isAgg332
 z164:=Tryz.sizeOf332
 v164:=Tryz.zeroValue332}
def Tryz.iO:Builder.Extra Tryz.prog Tryz.nY:={
 sizeBuilder:=by kernel_rfl
 liesBuilder:=by kernel_rfl
 t5:=Tryz.underlying5
 a5:=Tryz.isAgg5
 z5:=Tryz.sizeOf5
 v5:=Tryz.zeroValue5
 infoByte:=by kernel_rfl
 cellsByte:=by kernel_rfl
 sizeByte:=by kernel_rfl
 neB5:=by decide}
open Go.RowKit in
theorem Tryz.strings_Join_none(a:Option Addr)(c:Nat)(sep:ByteArray)(w:World):
  Calls Tryz.prog 114 #[.slice a 0 c,.string sep] w λe w'=>e=.returned (.string ⟨#[]⟩)/\w' =w:=Any.strings_Join_none Tryz.wW Tryz.iO a c sep w
open Go.RowKit in
theorem Tryz.strings_Join(bk o c:Nat)(xs:List ByteArray)(sep:ByteArray)(w:World)(hcells:∀(j:Nat) x,xs[j]? =some x->w.cell? ⟨bk,o+j,none⟩=some (.string x))(hbk:bk<w.heap.size)(hN:xs.length<=140737488355328)(hcap:xs.length<=c)(hlen:(Lib.join (xs.map (·.data.toList)) sep.data.toList).length<=140737488355328):
  Calls Tryz.prog 114 #[.slice (some ⟨bk,o,none⟩) xs.length c,.string sep] w λe w'=>e=.returned (.string ⟨(Lib.join (xs.map (·.data.toList)) sep.data.toList).toArray⟩)/\Below w.heap.size w w':=Any.strings_Join Tryz.wW Tryz.iO bk o c xs sep w hcells hbk hN hcap hlen
end Go.Proofs
namespace Go.Proofs
open Go.Shelf
def Tryz.nZ:Go.Shelf.Ren:=⟨λ| 105=>252| 212=>267| 99=>270| 165=>210| 166=>211| 170=>271| 169=>212| 263=>285| 264=>286| 206=>287| 240=>257| 241=>258| 276=>282| 277=>283|n=>n,λ| 9=>9| 3=>3| 4=>4| 20=>20| 0=>0| 46=>319| 109=>320| 5=>5| 72=>271| 76=>275| 51=>335| 146=>336| 53=>327| 148=>338| 70=>269| 37=>119| 75=>274| 127=>308| 164=>332| 80=>97|n=>n,λn=>n⟩
def Tryz.CF:Go.Proofs.Lays.n105 Tryz.prog Tryz.nZ:={
 mixed:=by kernel_rfl
 f99:=Tryz.func270.trans (congrArg some (by kernel_rfl))
 f105:=Tryz.func252.trans (congrArg some (by kernel_rfl))
 f165:=Tryz.func210.trans (congrArg some (by kernel_rfl))
 f166:=Tryz.func211.trans (congrArg some (by kernel_rfl))
 f169:=Tryz.func212.trans (congrArg some (by kernel_rfl))
 f170:=Tryz.func271.trans (congrArg some (by kernel_rfl))
 f206:=Tryz.func287.trans (congrArg some (by kernel_rfl))
 f212:=Tryz.func267.trans (congrArg some (by kernel_rfl))
 f240:=Tryz.func257.trans (congrArg some (by kernel_rfl))
 f241:=Tryz.func258.trans (congrArg some (by kernel_rfl))
 f263:=Tryz.func285.trans (congrArg some (by kernel_rfl))
 f264:=Tryz.func286.trans (congrArg some (by kernel_rfl))
 f276:=Tryz.func282.trans (congrArg some (by kernel_rfl))
 f277:=Tryz.func283.trans (congrArg some (by kernel_rfl))
 t0:=Tryz.underlying0
 a0:=Tryz.isAgg0
 z0:=Tryz.sizeOf0
 v0:=Tryz.zeroValue0
 t3:=Tryz.underlying3
 a3:=Tryz.isAgg3
 z3:=Tryz.sizeOf3
 v3:=Tryz.zeroValue3
 t4:=Tryz.underlying4
 a4:=Tryz.isAgg4
 z4:=Tryz.sizeOf4
 v4:=Tryz.zeroValue4
 t5:=Tryz.underlying5
 a5:=Tryz.isAgg5
 z5:=Tryz.sizeOf5
 v5:=Tryz.zeroValue5
 t9:=Tryz.underlying9
 a9:=Tryz.isAgg9
 z9:=Tryz.sizeOf9
 v9:=Tryz.zeroValue9
 t20:=Tryz.underlying20
 a20:=Tryz.isAgg20
 z20:=Tryz.sizeOf20
 v20:=Tryz.zeroValue20
 t37:=Tryz.underlying119
 a37:=Tryz.isAgg119
 z37:=Tryz.sizeOf119
 v37:=Tryz.zeroValue119
 t46:=Tryz.underlying319
 a46:=Tryz.isAgg319
 z46:=Tryz.sizeOf319
 v46:=Tryz.zeroValue319
 t51:=Tryz.underlying335
 a51:=Tryz.isAgg335
 z51:=Tryz.sizeOf335
 v51:=Tryz.zeroValue335
 t53:=Tryz.underlying327
 a53:=Tryz.isAgg327
 z53:=Tryz.sizeOf327
 v53:=Tryz.zeroValue327
 t70:=Tryz.underlying269
 a70:=Tryz.isAgg269
 z70:=Tryz.sizeOf269
 v70:=Tryz.zeroValue269
 t72:=Tryz.underlying271
 a72:=Tryz.isAgg271
 z72:=Tryz.sizeOf271
 v72:=Tryz.zeroValue271
 t75:=Tryz.underlying274
 a75:=Tryz.isAgg274
 z75:=Tryz.sizeOf274
 v75:=Tryz.zeroValue274
 t76:=Tryz.underlying275
 a76:=Tryz.isAgg275
 z76:=Tryz.sizeOf275
 v76:=Tryz.zeroValue275
 t109:=Tryz.underlying320
 a109:=Tryz.isAgg320
 z109:=Tryz.sizeOf320
 v109:=Tryz.zeroValue320
 t127:=Tryz.underlying308
 a127:=Tryz.isAgg308
 z127:=Tryz.sizeOf308
 v127:=Tryz.zeroValue308
 t146:=Tryz.underlying336
 a146:=Tryz.isAgg336
 z146:=Tryz.sizeOf336
 v146:=Tryz.zeroValue336
 t148:=Tryz.underlying338
 a148:=Tryz.isAgg338
 z148:=Tryz.sizeOf338
 v148:=Tryz.zeroValue338
 t164:=Tryz.underlying332
 a164:=Tryz.isAgg332
 z164:=Tryz.sizeOf332
 v164:=Tryz.zeroValue332}
def Tryz.mX:Builder.Extra Tryz.prog Tryz.nZ:={
 sizeBuilder:=by kernel_rfl
 liesBuilder:=by kernel_rfl
 t5:=Tryz.underlying5
 a5:=Tryz.isAgg5
 z5:=Tryz.sizeOf5
 v5:=Tryz.zeroValue5
 infoByte:=by kernel_rfl
 cellsByte:=by kernel_rfl
 sizeByte:=by kernel_rfl
 neB5:=by decide}
end Go.Proofs
namespace Go.Abs
inductive AV where
 |bool (b:Bool)
 |int (k:IntKind) (n:Int)
 |uS (k:FloatKind) (b:Nat)
 |uE (k:FloatKind) (re im:Nat)
 |str (s:By)
 |ptr (b o:Nat)
 |nilPtr
 |slice (b o n e:Nat)
 |ah
 |map (r:Nat)
 |cQ
 |func (f:Fn) (a c:List AV)
 |nilFunc
 |agg (l:List AV)
 |dt (l:List AV)
 |sN (u:TypeId) (v:AV)
 |ju
 deriving Inhabited
def au:AV:=.dt []
def AV.cells:AV->List AV
 |.agg l=>l
 |v=>[v]
def AV.one:AV->Bool
 |.agg _=>false
 |.dt _=>false
 |.ju=>false
 |_=>true
inductive cK where
 |t (i:Nat)
 |c (v:AV)
 |g (i:Nat)
 |f (i:Nat)
 deriving Inhabited
inductive CK where
 |b
 |i
 |s
 deriving DecidableEq,Inhabited
inductive MR where
 |one (k:CK)
 |agg (ks:List CK)
 |Ck
 |Cl
 |ow
 |IY
 deriving Inhabited
inductive xZ where
 |Js (k:IntKind)
 |K5
 |Ks
 |same
 |LM (k:FloatKind)
 |L8 (k:IntKind)
 |L9 (k:FloatKind)
 |sN (u:TypeId)
 deriving Inhabited
inductive LK where
 |sl
 |st
 |mp
 deriving DecidableEq,Inhabited
inductive mU where
 |dq (x:cK)
 |pick (c a b:cK)
 |box (x:cK)
 |mD (n:Nat) (x:cK)
 |build (z:List AV) (ps:List (Nat×Nat×cK))
 |aY (es:Nat) (n:Nat) (z:List AV) (ps:List (Nat×cK))
 |load (n:Option Nat) (a:cK)
 |store (n:Nat) (a x:cK)
 |bu (x:cK)
 |bin (op:BinOp) (x y:cK)
 |eqv (neg:Bool) (t:MR) (x y:cK)
 |un (op:UnOp) (x:cK)
 |conv (k:xZ) (x:cK)
 |rV (f:Fn) (a c:List cK)
 |mg
 |tL (es w:Nat) (z:List AV) (l c:cK)
 |sl (es:Nat) (x:cK) (lo hi:Option cK)
 |Fk (x:cK) (lo hi:Option cK)
 |Ko (n es:Nat) (x:cK) (lo hi:Option cK)
 |bP (off:Nat) (x:cK)
 |bT (es:Nat) (x i:cK)
 |qg (len es:Nat) (x i:cK)
 |part (n:Option Nat) (off:Nat) (x:cK)
 |Hr (len es:Nat) (n:Option Nat) (x i:cK)
 |Gj (x i:cK)
 |look (kk:CK) (z:AV) (ok:Bool) (m k:cK)
 |fu (kk:CK) (m k x:cK)
 |zS (x:cK)
 |pz (x:cK)
 |ext (x:cK) (i:Nat)
 |call (f:cK) (args:List cK)
 |len (lk:LK) (x:cK)
 |yp (n:Nat)
 |app (es w:Nat) (x y:cK)
 |xH (es:Nat) (x y:cK)
 |mx (x:cK) (l:List cK)
 |mn (x:cK) (l:List cK)
 |bad
 deriving Inhabited
structure bo where
 dst:Option Nat
 k:mU
 gd:Option (Nat×Bool)
 q:Bool
 deriving Inhabited
def AN(d:Option Nat)(k:mU)(n:Nat):Prop:=
 match k,d with
 |.mD _ _,some d=>d<n
 |_,_=>True
inductive an where
 |skip
 |ops (l:List bo)
 |qd (l:List bo)
 |lX (l:List bo)
 |seq (a b:an)
 |cond (c:cK) (a b:an)
 |block (id:Nat) (a:an)
 |loop (a:an)
 |exit (id:Nat)
 |ret
 |ft (g:cK) (ps:List Nat) (asg body:an)
 |bad
 deriving Inhabited
inductive Ex where
 |normal
 |exit (id:Nat)
 |ret
 deriving DecidableEq,Inhabited
def Ex.Be:Ex->Exit
 |.normal=>.normal
 |.exit id=>.exit id
 |.ret=>.ret
def Ex.jump:Ex->Option Code
 |.normal=>none
 |.exit id=>some (.exit id)
 |.ret=>some .ret
inductive ai where
 |cells (c:List AV) (mu tl:Bool)
 |dead
 |aN (es:List (AV×AV))
 |iter (s:By) (pos:Nat)
 |loop (st:LoopState) (ex:Ex) (ts:List AV) (ps:List Nat) (asg body:an)
 deriving Inhabited
abbrev af:=List ai
abbrev TS:=List AV
structure qn where
 cb:Nat
 d:Nat
 sz:Nat
 own:Bool
abbrev bH:=Nat->Option qn
def bH.le(m m':bH):Prop:=∀b e,m b=some e->m' b=some e
def bH.le_trans{a b c:bH}(h:a.le b)(k:b.le c):a.le c:=λx e hx=>k x e (h x e hx)
def Cn(k:FloatKind)(b:Nat):Bool:=(k.format.order b b).isNone
def FR(k:FloatKind)(b b':Nat):Prop:=b' =b\/(Cn k b=true/\Cn k b' =true)
def y0(m:bH):Fn->Fn->Prop
 |.yield l,g=>∃e,m l=some e/\g=.yield e.cb
 |f,g=>g=f
mutual
def VR(m:bH):AV->Value->Prop
 |.bool b,v=>v=.bool b
 |.int k n,v=>v=.int k n
 |.uS k b,v=>∃b',v=.float k b'/\FR k b b'
 |.uE k x y,v=>∃x' y',v=.complex k x' y'/\FR k x x'/\FR k y y'
 |.str s,v=>v=.string ⟨⟨s⟩⟩
 |.ptr b o,v=>∃e,m b=some e/\v=.pointer (some ⟨e.cb,o+e.d,none⟩)
 |.nilPtr,v=>v=.pointer none
 |.slice b o n es,v=>∃e ca cap,m b=some e/\v=.slice (some ca) n cap/\n<=cap/\(0<cap->ca=⟨e.cb,o+e.d,none⟩)/\o+e.d+cap*es<=e.sz
 |.ah,v=>v=.slice none 0 0
 |.map r,v=>∃e,m r=some e/\v=.map (some e.cb)
 |.cQ,v=>v=.map none
 |.func f a c,v=>∃f' a' c',v=.func f' ⟨a'⟩ ⟨c'⟩/\y0 m f f'/\cw m a a'/\cw m c c'
 |.nilFunc,v=>v=.nilFunc
 |.agg l,v=>∃l',v=.agg ⟨l'⟩/\cw m l l'
 |.dt l,v=>∃l',v=.tuple ⟨l'⟩/\cw m l l'
 |.sN u a,v=>∃v',v=.iface u v'/\VR m a v'
 |.ju,v=>v=.nilIface
def cw(m:bH):List AV->List Value->Prop
 |[],vs=>vs=[]
 |x::xs,vs=>∃y ys,vs=y::ys/\VR m x y/\cw m xs ys
end
def y0.mono{m m'}(h:m.le m'):∀{f g},y0 m f g->y0 m' f g:=by
 intro f g hf;cases f<;>simp only[y0]at hf ⊢<;>try exact hf
 obtain⟨e,he,hg⟩:=hf;exact⟨e,h _ _ he,hg⟩
mutual
theorem VR.mono{m m'}(h:m.le m'):∀(a:AV) (v:Value),VR m a v->VR m' a v
 |.bool _,v,hv=>hv
 |.int _ _,v,hv=>hv
 |.uS _ _,v,hv=>hv
 |.uE _ _ _,v,hv=>hv
 |.str _,v,hv=>hv
 |.ptr b o,v,hv=>by
  obtain⟨e,he,hv⟩:=(show ∃e,m b=some e/\v=.pointer (some ⟨e.cb,o+e.d,none⟩)from hv);exact⟨e,h _ _ he,hv⟩
 |.nilPtr,v,hv=>hv
 |.slice b o n es,v,hv=>by
  obtain⟨e,ca,cap,he,hr⟩:=(show ∃e ca cap,m b=some e/\v=.slice (some ca) n cap/\n<=cap/\(0<cap->ca=⟨e.cb,o+e.d,none⟩)/\o+e.d+cap*es<=e.sz from hv);exact⟨e,ca,cap,h _ _ he,hr⟩
 |.ah,v,hv=>hv
 |.map r,v,hv=>by
  obtain⟨e,he,hv⟩:=(show ∃e,m r=some e/\v=.map (some e.cb)from hv);exact⟨e,h _ _ he,hv⟩
 |.cQ,v,hv=>hv
 |.func f a c,v,hv=>by
  obtain⟨f',a',c',hv,hf,ha,hc⟩:=(show ∃f' a' c',v=.func f' ⟨a'⟩ ⟨c'⟩/\y0 m f f'/\cw m a a'/\cw m c c' from hv);exact⟨f',a',c',hv,hf.mono h,cw.mono h a a' ha,cw.mono h c c' hc⟩
 |.nilFunc,v,hv=>hv
 |.agg l,v,hv=>by
  obtain⟨l',hv,hl⟩:=(show ∃l',v=.agg ⟨l'⟩/\cw m l l' from hv);exact⟨l',hv,cw.mono h l l' hl⟩
 |.dt l,v,hv=>by
  obtain⟨l',hv,hl⟩:=(show ∃l',v=.tuple ⟨l'⟩/\cw m l l' from hv);exact⟨l',hv,cw.mono h l l' hl⟩
 |.sN u a,v,hv=>by
  obtain⟨v',hv,ha⟩:=(show ∃v',v=.iface u v'/\VR m a v' from hv);exact⟨v',hv,VR.mono h a v' ha⟩
 |.ju,v,hv=>hv
theorem cw.mono{m m'}(h:m.le m'):∀(l:List AV) (vs:List Value),cw m l vs->cw m' l vs
 |[],_,hv=>hv
 |x::xs,vs,hv=>by
  obtain⟨y,ys,hv,hx,QT⟩:=(show ∃y ys,vs=y::ys/\VR m x y/\cw m xs ys from hv);exact⟨y,ys,hv,VR.mono h x y hx,cw.mono h xs ys QT⟩
end
def aT{m vs}:cw m [] vs↔vs=[]:=Iff.rfl
def aF{m x xs vs}:cw m (x::xs) vs↔∃y ys,vs=y::ys/\VR m x y/\cw m xs ys:=Iff.rfl
theorem cw.length{m}:∀{l}{vs},cw m l vs->vs.length=l.length
 |[],_,h=>by rw[aT]at h;simp[h]
 |x::xs,vs,h=>by
  obtain⟨y,ys,rfl,_,QT⟩:=aF.1 h;simp[cw.length QT]
theorem cw.get{m:bH}:∀{l:List AV}{vs:List Value},cw m l vs->∀{i:Nat}{x:AV},l[i]? =some x->∃y,vs[i]? =some y/\VR m x y
 |[],_,_,i,x,h=>by simp at h
 |z::zs,vs,h,i,x,hx=>by
  obtain⟨y,ys,rfl,hy,hys⟩:=aF.1 h;cases i with
  |zero=>simp at hx;subst hx;exact⟨y,Si,hy⟩
  |succ i=>simp at hx;simpa using cw.get hys hx
theorem cw.gf{m}:∀{l}{vs},vs.length=l.length->(∀(i:Nat) (x:AV),l[i]? =some x->∃y,vs[i]? =some y/\VR m x y)->cw m l vs
 |[],vs,hl,_=>by rw[aT];exact Vd.1 (by simpa using hl)
 |x::xs,[],hl,_=>by simp at hl
 |x::xs,v::vs,hl,h=>by
  refine aF.2 ⟨v,vs,rfl,?_,cw.gf (by simpa using hl) λi z hz=>?_⟩
  ·obtain⟨y,hy,hr⟩:=h 0 x Si;simp at hy;subst hy;exact hr
  ·obtain⟨y,hy,hr⟩:=h (i+1) z (by simpa using hz);exact⟨y,by simpa using hy,hr⟩
theorem cw.append{m}:∀{a b}{va vb},cw m a va->cw m b vb->cw m (a++b) (va++vb)
 |[],b,va,vb,ha,hb=>by rw[aT]at ha;subst ha;simpa using hb
 |x::xs,b,va,vb,ha,hb=>by
  obtain⟨y,ys,rfl,hy,hys⟩:=aF.1 ha;exact aF.2 ⟨y,ys++vb,Si,hy,cw.append hys hb⟩
theorem cw.set{m:bH}{l:List AV}{vs:List Value}(h:cw m l vs)(i:Nat){x:AV}{v:Value}(hx:VR m x v):cw m (l.set i x) (vs.set i v):=by
 refine cw.gf (by simp[h.length]) λj z hz=>?_
 rw[List.getElem?_set]at hz ⊢;by_cases hij:i=j
 ·simp only[hij,UD]at hz ⊢;split at hz
  ·simp only[UG]at hz;subst hz;rename_i hlt;exact⟨v,by simp[h.length,hlt],hx⟩
  ·simp at hz
 ·simp only[hij,UC]at hz ⊢;exact h.get hz
theorem cw.take{m}:∀{l}{vs}(n:Nat),cw m l vs->cw m (l.take n) (vs.take n)
 |[],vs,n,h=>by rw[aT]at h;subst h;simp[aT]
 |x::xs,vs,0,h=>by simp[aT]
 |x::xs,vs,n+1,h=>by
  obtain⟨y,ys,rfl,hy,hys⟩:=aF.1 h;exact aF.2 ⟨y,ys.take n,Si,hy,cw.take n hys⟩
theorem cw.drop{m}:∀{l}{vs}(n:Nat),cw m l vs->cw m (l.drop n) (vs.drop n)
 |[],vs,n,h=>by rw[aT]at h;subst h;simp[aT]
 |x::xs,vs,0,h=>by simpa using h
 |x::xs,vs,n+1,h=>by
  obtain⟨y,ys,rfl,hy,hys⟩:=aF.1 h
  simpa using cw.drop n hys
theorem VR.one{m x v}(h:VR m x v)(hx:x.one=true):v.cells=#[v]:=by
 exact Nz
def VR.rO{m x v}(h:VR m x v)(hx:x.one=true):v.oneCell' =true:=by
 exact Nz
theorem VR.cells{m x v}(h:VR m x v):cw m x.cells v.cells.toList:=by
 by_cases hx:x.one=true
 ·have hc:x.cells=[x]:=by cases x<;>first|rfl|cases hx
  rw[h.one hx,hc];exact aF.2 ⟨v,[],rfl,h,aT.2 rfl⟩
 ·cases x with
  |agg l=>rw[VR]at h;obtain⟨l',rfl,hl⟩:=h;exact hl
  |dt l=>exact aF.2 ⟨v,[],by rw[VR]at h;obtain⟨l',rfl,hl⟩:=h;rfl,h,aT.2 rfl⟩
  |ju=>exact aF.2 ⟨v,[],by rw[VR]at h;subst h;rfl,h,aT.2 rfl⟩
  |_=>exact absurd rfl hx
def val(ts:TS):cK->AV
 |.t i=>ts.getD i au
 |.c v=>v
 |.g i=>.ptr i 0
 |.f i=>.func (.func i) [] []
def put(ts:TS)(d:Option Nat)(v:AV):TS:=
 match d with
 |some d=>ts.set d v
 |none=>ts
def wanted(g:Option (Nat×Bool))(ts:TS):Prop:=
 match g with
 |none=>True
 |some (t,b)=>ts[t]? =some (.bool b)
def dP(h:af)(b:Nat):Bool:=
 match h[b]? with
 |some (.cells _ _ tl)=>tl
 |_=>false
def kL:Nat->Value->Option AV
 | 0,_=>none
 |n+1,v=>
  match v with
  |.bool b=>some (.bool b)
  |.int k i=>some (.int k i)
  |.float k b=>some (.uS k b)
  |.complex k x y=>some (.uE k x y)
  |.string s=>some (.str s.data.toList)
  |.pointer none=>some .nilPtr
  |.slice none 0 0=>some .ah
  |.map none=>some .cQ
  |.nilFunc=>some .nilFunc
  |.agg cs=>(cs.toList.mapM (kL n)).map .agg
  |.tuple cs=>(cs.toList.mapM (kL n)).map .dt
  |_=>none
def cJ:Operand->Option cK
 |.tmp t=>some (.t t)
 |.const v=>(kL 4 v).map .c
 |.global g=>some (.g g)
 |.func f=>some (.f f)
def Cd:Operand->Option cK
 |.global _=>none
 |x=>cJ x
def wO(l:Array Operand):Option (List cK):=l.toList.mapM cJ
def tz:Option Operand->Option (Option cK)
 |none=>some none
 |some x=>(cJ x).map some
def iQ:TypeDesc->Bool
 |.struct _=>true
 |.array _ _=>true
 |_=>false
def y7(P:Program)(t:TypeId):Option (Option Nat):=
 match P.underlying t with
 |some d=>if iQ d then(P.info? t).map λi=>some i.size else some none
 |none=>none
def dB(P:Program)(t:TypeId):Option Nat:=(P.info? t).map (·.size)
def iF(P:Program)(t:TypeId):Option AV:=(P.info? t).bind λi=>i.zero.bind (kL 4)
def uv(P:Program)(F:TypeId->Option (List CK)):List Field->Nat->Option (List CK)
 |[],_=>some []
 |f::fs,off=>
  match F f.type,P.info? f.type with
  |some ks,some i=>
   if f.name≠ "_"/\f.offset=off/\i.size=ks.length/\0<ks.length then
    match uv P F fs (off+ks.length)with
    |some r=>some (ks++r)
    |none=>none
   else none
  |_,_=>none
def flat(P:Program):Nat->TypeId->Option (List CK)
 | 0,_=>none
 |d+1,t=>
  match P.underlying t with
  |some .bool=>some [.b]
  |some (.int _)=>some [.i]
  |some .string=>some [.s]
  |some (.struct fs)=>if P.stoodInHeld t=false then uv P (flat P d) fs.toList 0 else none
  |some (.array len e)=>
   match flat P d e,P.info? e with
   |some ks,some i=>if i.size=ks.length/\0<ks.length then some (List.replicate len ks).flatten else none
   |_,_=>none
  |_=>none
def Gv(P:Program)(neg:Bool)(t:TypeId)(x y:cK):Option mU:=
 match P.underlying t with
 |some (.int _)=>some (.bin (if neg then .neq else .eql) x y)
 |some .string=>some (.bin (if neg then .neq else .eql) x y)
 |some (.float _)=>some (.bin (if neg then .neq else .eql) x y)
 |some .bool=>some (.eqv neg (.one .b) x y)
 |some (.struct _)=>if P.eqGuardType P.depth t=false then(flat P 20 t).map λks=>.eqv neg (.agg ks) x y else none
 |some (.array _ _)=>if P.eqGuardType P.depth t=false then(flat P 20 t).map λks=>.eqv neg (.agg ks) x y else none
 |some (.slice _)=>some (.eqv neg .Ck x y)
 |some (.pointer _)=>some (.eqv neg .Cl x y)
 |some (.func _ _ _)=>some (.eqv neg .ow x y)
 |some (.map _ _)=>some (.eqv neg .IY x y)
 |_=>none
def CR(P:Program)(e:TypeId):Bool:=
 match P.underlying e with
 |some (.int .u8)=>true
 |_=>false
def Bd(P:Program)(s d:TypeId):Option xZ:=
 match P.underlying s,P.underlying d with
 |some (.int _),some (.int k)=>some (.Js k)
 |some (.int _),some (.float k)=>some (.LM k)
 |some (.float _),some (.int k)=>some (.L8 k)
 |some (.float _),some (.float k)=>some (.L9 k)
 |some .string,some .string=>some .same
 |some .string,some (.slice e)=>if CR P e=true then some .K5 else none
 |some (.slice e),some .string=>if CR P e=true then some .Ks else none
 |_,_=>none
def fieldAt(P:Program)(t:TypeId)(i:Nat):Option Field:=
 match P.underlying t with
 |some (.struct fs)=>fs[i]?
 |_=>none
def iH(P:Program)(t:TypeId)(i:Nat):Option (Nat×Nat):=
 match P.underlying t with
 |some (.struct fs)=>
  match fs.toList.mapM (λf=>(P.info? f.type).map λi=>(f.offset,i.size))with
  |some places=>places[i]?
  |none=>none
 |some (.array _ e)=>(P.info? e).map λie=>(i*ie.size,ie.size)
 |_=>none
def lU(P:Program)(t:TypeId):Bool:=
 match P.underlying t with
 |some (.struct fs)=>(fs.toList.mapM (λf=>(P.info? f.type).map λi=>(f.offset,i.size))).isSome
 |some (.array _ e)=>(P.info? e).isSome
 |_=>false
def kF(P:Program)(t:TypeId):List (Nat×Operand)->Option (List (Nat×Nat×cK))
 |[]=>some []
 |(i,x)::r=>
  match iH P t i,cJ x,kF P t r with
  |some (off,n),some y,some r=>some ((off,n,y)::r)
  |_,_,_=>none
def dD(P:Program)(t:TypeId):Option (TypeId×TypeInfo):=
 match P.underlying t with
 |some (.slice e)=>(P.info? e).map λi=>(e,i)
 |_=>none
def mA(P:Program)(b:Builtin)(ts:Array TypeId)(args:List cK):Option mU:=
 match b,args with
 |.len,[x]=>
  match (ts[0]?).bind P.underlying with
  |some (.slice _)=>some (.len .sl x)
  |some .string=>some (.len .st x)
  |some (.map _ _)=>some (.len .mp x)
  |some (.array n _)=>some (.yp n)
  |_=>none
 |.append,[x,y]=>
  match (ts[0]?).bind (dD P),(ts[1]?).bind P.underlying with
  |some (_,i),some (.slice _)=>if 0<i.size/\0<i.bytes/\i.bytes<=2^20 then(i.zero.bind (kL 4)).bind λz=>if z.cells.length=i.size then some (.app i.size i.bytes x y)else none else none
  |some (_,i),some .string=>if 0<i.size/\0<i.bytes/\i.bytes<=2^20 then(i.zero.bind (kL 4)).bind λz=>if z.cells.length=i.size then some (.app i.size i.bytes x y)else none else none
  |_,_=>none
 |.copy,[x,y]=>
  match (ts[0]?).bind (dD P)with
  |some (_,i)=>if 0<i.size then some (.xH i.size x y)else none
  |_=>none
 |.max,x::l=>some (.mx x l)
 |.min,x::l=>some (.mn x l)
 |_,_=>none
def vO(P:Program)(t:TypeId):Option CK:=
 match P.underlying t with
 |some (.int _)=>some .i
 |some .string=>some .s
 |some .bool=>some .b
 |_=>none
def Ap:Fn->Bool
 |.yield _=>false
 |_=>true
def dJ(P:Program)(o:Oper):Option mU:=
 match o.op with
 |.move x=>(cJ x).map .dq
 |.assign x=>(cJ x).map .dq
 |.pick c a b=>
  match cJ c,cJ a,cJ b with
  |some c,some a,some b=>some (.pick c a b)
  |_,_,_=>none
 |.alloc e=>
  match iF P e with
  |some z=>if z.cells.all AV.one then some (.box (.c z))else none
  |none=>none
 |.box _ x=>(cJ x).map .box
 |.build t ps=>
  match iF P t,kF P t ps.toList with
  |some z,some l=>if lU P t=true then some (.build z.cells l)else none
  |_,_=>none
 |.buildSlice t n ps=>
  match dD P t with
  |some (e,i)=>
   match iF P e,ps.toList.mapM λp=>(cJ p.2).map λy=>(p.1*i.size,y)with
   |some z,some l=>if 0<i.size/\z.cells.length=i.size/\z.cells.all AV.one/\n*i.size<=2^24 then some (.aY i.size n z.cells l)else none
   |_,_=>none
  |none=>none
 |.load t a=>
  match y7 P t,cJ a with
  |some n,some a=>some (.load n a)
  |_,_=>none
 |.store t a x=>
  match dB P t,cJ a,cJ x with
  |some n,some a,some x=>some (.store n a x)
  |_,_,_=>none
 |.nilCheck x=>(cJ x).map .bu
 |.binOp op t x y _=>
  match cJ x,cJ y with
  |some x,some y=>
   match op with
   |.eql=>Gv P false t x y
   |.neq=>Gv P true t x y
   |_=>some (.bin op x y)
  |_,_=>none
 |.unOp op _ x=>(cJ x).map (.un op)
 |.convert s d x=>
  match Bd P s d,cJ x with
  |some k,some x=>some (.conv k x)
  |_,_=>none
 |.makeInterface t x=>
  match P.underlying t,cJ x with
  |some (.interface _),_=>none
  |some _,some x=>some (.conv (.sN t) x)
  |_,_=>none
 |.makeFunc fn a c=>
  if Ap fn=true then
   match wO a,wO c with
   |some a,some c=>some (.rV fn a c)
   |_,_=>none
  else none
 |.makeMap _ none=>some .mg
 |.makeSlice t l c=>
  match dD P t,cJ l,cJ c with
  |some (e,i),some l,some c=>
   match iF P e with
   |some z=>if 0<i.size/\z.cells.length=i.size/\z.cells.all AV.one then some (.tL i.size i.bytes z.cells l c)else none
   |none=>none
  |_,_,_=>none
 |.slice t x lo hi none=>
  match cJ x,tz lo,tz hi with
  |some x,some lo,some hi=>
   match P.underlying t with
   |some .string=>some (.Fk x lo hi)
   |some (.slice e)=>(dB P e).map λn=>.sl n x lo hi
   |some (.array k e)=>(dB P e).map λn=>.Ko k n x lo hi
   |_=>none
  |_,_,_=>none
 |.fieldAddr t x i=>
  match fieldAt P t i,cJ x with
  |some f,some x=>
   match dB P f.type with
   |some n=>if 0<n then some (.bP f.offset x)else none
   |none=>none
  |_,_=>none
 |.indexAddr t x i=>
  match cJ x,cJ i with
  |some x,some i=>
   match P.underlying t with
   |some (.slice e)=>(dB P e).map λn=>.bT n x i
   |some (.array k e)=>(dB P e).map λn=>.qg k n x i
   |_=>none
  |_,_=>none
 |.field t x i=>
  match fieldAt P t i,cJ x with
  |some f,some x=>(y7 P f.type).map λn=>.part n f.offset x
  |_,_=>none
 |.index t x i=>
  match cJ x,cJ i with
  |some x,some i=>
   match P.underlying t with
   |some .string=>some (.Gj x i)
   |some (.array k e)=>
    match dB P e,y7 P e with
    |some n,some q=>some (.Hr k n q x i)
    |_,_=>none
   |_=>none
  |_,_=>none
 |.lookup t m k ok=>
  match P.underlying t,cJ m,cJ k with
  |some (.map kt e),some m,some k=>
   match vO P kt,iF P e with
   |some kk,some z=>some (.look kk z ok m k)
   |_,_=>none
  |_,_,_=>none
 |.mapUpdate t m k x=>
  match P.underlying t,cJ m,cJ k,cJ x with
  |some (.map kt _),some m,some k,some x=>(vO P kt).map λkk=>.fu kk m k x
  |_,_,_,_=>none
 |.insert t m k x=>
  match P.underlying t,cJ m,cJ k,cJ x with
  |some (.map kt _),some m,some k,some x=>(vO P kt).map λkk=>.fu kk m k x
  |_,_,_,_=>none
 |.range t x=>
  match P.underlying t with
  |some .string=>(cJ x).map .zS
  |_=>none
 |.next x true=>(cJ x).map .pz
 |.extract x i=>(cJ x).map λx=>.ext x i
 |.call c=>
  match wO c.args with
  |some l=>
   match c.callee with
   |.value f=>(cJ f).map λf=>.call f l
   |.invoke r name=>(cJ r).map λr=>.call (.c (.func (.method name) [] [])) (r::l)
   |.builtin b=>mA P b c.argTypes l
  |none=>none
 |_=>none
def rX(ops:Array Oper)(g:Option (Nat×Bool)):Option (Option (Nat×Bool)):=
 match g with
 |none=>some none
 |some (j,b)=>((ops[j]?).bind (·.dst)).map λd=>some (d,b)
def Kq(P:Program):Operand->Bool
 |.global g=>decide (g<P.globals.size)
 |_=>true
def bx(P:Program)(ops:Array Oper)(q:Bool)(o:Oper):Option bo:=
 match rX ops o.guard with
 |some g=>some {dst:=o.dst,k:=if o.op.operands.toList.all (Kq P)then(dJ P o).getD .bad else .bad,gd:=g,q:=q}
 |none=>none
def ahead(M:Array Nat)(i j:Nat):Bool:=(M.getD j 0).testBit i
def jA(M:Array Nat)(ops:Array Oper):Bool:=
 (List.range ops.size).all λj=>
  match ops[j]? with
  |none=>true
  |some o=>
   (o.after.toList.all λe=>!Region.binds .any e||decide (e.on<j)) &&
   ((List.range ops.size).all λi=>!ahead M i j||o.after.toList.any λe=>Region.binds .any e&&(e.on==i||ahead M i e.on))
def kj(M:Array Nat)(ops:Array Oper):Bool:=
 (List.range ops.size).all λj=>
  (List.range j).all λi=>
   match ops[i]?,ops[j]? with
   |some x,some y=>
    (match x.dst with
     |some d=>y.dst !=some d&&(!(y.looksAt ops).contains d||ahead M i j)
     |none=>true) &&
    (match y.dst with
     |some d=>!(x.looksAt ops).contains d||ahead M i j
     |none=>true)
   |_,_=>true
def fU(M:Array Nat)(n j:Nat):Bool:=
 (List.range n).all λi=>i==j||(if i<j then ahead M i j else ahead M j i)
def dX{α β:Type}(f:Nat->α->Option β):List α->Nat->Option (List β)
 |[],_=>some []
 |x::xs,i=>
  match f i x,dX f xs (i+1)with
  |some y,some ys=>some (y::ys)
  |_,_=>none
def vV:AV->Bool
 |.bool _=>true
 |.int _ _=>true
 |.uS _ _=>true
 |.uE _ _ _=>true
 |.str _=>true
 |.nilPtr=>true
 |.ah=>true
 |.cQ=>true
 |.nilFunc=>true
 |_=>false
def ki(o:bo):Option (Nat×Nat×cK):=
 match o.dst,o.k,o.gd,o.q with
 |none,.store n (.t t) x,none,true=>some (n,t,x)
 |_,_,_,_=>none
def rl(o:bo):Option (Nat×AV):=
 match o.dst,o.k,o.gd,o.q with
 |some t,.box (.c z),none,true=>some (t,z)
 |_,_,_,_=>none
def fc(ops:Array Oper)(j t:Nat):Bool:=
 match ops[j]? with
 |some o=>(o.looksAt ops).contains t
 |none=>false
def nh(ops:Array Oper)(l:List bo)(k s:Nat):Bool:=
 match (l[k]?).bind rl,(l[s]?).bind ki with
 |some (t,z),some (n,t',x)=>
  t==t'&&z.cells.length==n&&z.cells.all vV&&(match x with|.t u=>u !=t&&fc ops s u|_=>true)&&fc ops s t&&(List.range ops.size).all λj=>j==s || !fc ops j t
 |_,_=>false
def LJ(ops:Array Oper)(l:List bo)(s:Nat):Option Nat:=(List.range s).find? λk=>nh ops l k s
def K3(ops:Array Oper)(l:List bo)(k:Nat):Option Nat:=(List.range l.length).find? λs=>decide (k<s)&&nh ops l k s
def ra(ops:Array Oper)(l:List bo)(j:Nat)(o:bo):bo:=
 match ki o with
 |some (n,t,x)=>
  match LJ ops l j with
  |some _=>{dst:=some t,k:=.mD n x,gd:=none,q:=true}
  |none=>o
 |none=>
  match rl o with
  |some _=>
   match K3 ops l j with
   |some _=>{dst:=none,k:=.dq (.c (.bool false)),gd:=none,q:=true}
   |none=>o
  |none=>o
def n8(ops:Array Oper)(l:List bo):Nat->List bo->List bo
 |_,[]=>[]
 |j,o::r=>ra ops l j o::n8 ops l (j+1) r
def cF(P:Program)(ops:Array Oper)(draw:Bool):Option (List bo):=
 if draw then
  let M:=Region.before ops
  if jA M ops&&kj M ops then
   (dX (λi o=>bx P ops (!fU M ops.size i) o) ops.toList 0).map λl=>n8 ops l 0 l
  else none
 else dX (λ_ o=>bx P ops false o) ops.toList 0
def eV:mU->Bool
 |.dq _=>true
 |.pick _ _ _=>true
 |.bin _ _ _=>true
 |.eqv _ _ _ _=>true
 |.un _ _=>true
 |.conv (.Js _) _=>true
 |.bP _ _=>true
 |.qg _ _ _ _=>true
 |.bT _ _ _=>true
 |.part _ _ _=>true
 |.Hr _ _ _ _ _=>true
 |.Gj _ _=>true
 |.ext _ _=>true
 |.bu _=>true
 |.mx _ _=>true
 |.mn _ _=>true
 |.build _ _=>true
 |.Fk _ _ _=>true
 |.sl _ _ _ _=>true
 |.yp _=>true
 |.rV _ _ _=>true
 |.len .sl _=>true
 |.len .st _=>true
 |_=>false
def bX:mU->Bool
 |.load _ _=>true
 |k=>eV k
def Bu:mU->Bool
 |.box _=>true
 |.aY _ _ _ _=>true
 |.mg=>true
 |_=>false
def CV:mU->Bool
 |.call _ _=>true
 |_=>false
def jE(o:bo):Bool:=Bu o.k||(o.q&&CV o.k)
def CU(o:Oper):Bool:=
 match o.op with
 |.call c=>
  match c.callee with
  |.builtin _=>false
  |_=>true
 |_=>false
def CS(o:Oper):Bool:=
 o.guard.isNone&&match o.op with
 |.load _ _=>true
 |_=>false
def qe(c:Nat)(o:Oper):Bool:=(decide (1<=c)&&CU o)||(decide (2<=c)&&CS o)
def kR(o:bo):Bool:=
 o.q&&match o.k with
 |.load _ _=>true
 |_=>false
def mh(M:Array Nat)(l:List bo):Bool:=
 (List.range l.length).all λj=>
  (List.range j).all λi=>
   match l[i]?,l[j]? with
   |some x,some y=>eV x.k||eV y.k||kR x||kR y||(bX x.k&&(bX y.k||jE y))||(jE x&&bX y.k)||ahead M i j
   |_,_=>true
def wK(o:bo):Bool:=
 o.q&&match o.k with
  |.store _ _ _=>true
  |_=>false
def Jz(o:bo):Bool:=
 o.q&&match o.k with
  |.store _ _ _=>true
  |.app _ _ _ _=>true
  |.xH _ _ _=>true
  |.fu _ _ _ _=>true
  |_=>false
def AF(o:bo):Bool:=eV o.k||match o.k with
 |.store _ _ _=>true
 |_=>false
def Jp(o:bo):Bool:=match o.k with
 |.store _ _ _=>true
 |_=>false
def jv(l:List bo):Bool:=l.all AF&&decide ((l.filter Jp).length<=2)
def de:List bo->Nat
 |[]=>0
 |o::r=>if jv (o::r)=true then 0 else de r+1
def lu(M:Array Nat)(l:List bo):Bool:=
 (List.range l.length).all λi=>
  match l[i]? with
  |some x=>!kR x||(List.range l.length).all λj=>
    match l[j]? with
    |some y=>bX y.k||decide (j<de l)||ahead M i j
    |none=>true
  |none=>true
def pD(M:Array Nat)(l:List bo)(f:Nat):Bool:=
 (List.range l.length).all λj=>
  (List.range j).all λi=>
   match l[i]?,l[j]? with
   |some x,some y=>eV x.k||eV y.k||kR x||kR y||decide (j=f)||ahead M i j
   |_,_=>true
def uu(ops:Array Oper)(l:List bo)(f:Nat):Bool:=
 match l[f]? with
 |some {dst:=some d,k:=.aY _ _ z ps,gd:=none,q:=_}=>z.all vV&&ps.all (λp=>match p.2 with|.t u=>fc ops f u|_=>false)&&(List.range l.length).all λj=>
   match l[j]? with
   |some o=>!bX o.k||((eV o.k||kR o) && !fc ops j d)
   |none=>true
 |_=>false
def EJ(M:Array Nat)(ops:Array Oper)(l:List bo):Option Nat:=(List.range l.length).find? λf=>uu ops l f&&pD M l f
def JY(l:List bo):Bool:=l.any λo=>o.q&&match o.k with
 |.app _ _ (.t d) _=>l.any λp=>p.dst==some d&&match p.k with
  |.app _ _ _ _=>true
  |_=>false
 |_=>false
def lB(P:Program)(ops:Array Oper)(draw:Bool):Option an:=
 match cF P ops draw with
 |none=>none
 |some l=>
  if l.any Jz=true/\draw=true then
   match dX (λ_ o=>bx P ops (qe 0 o) o) ops.toList 0,dX (λ_ o=>bx P ops (qe 1 o) o) ops.toList 0,dX (λ_ o=>bx P ops (qe 2 o) o) ops.toList 0 with
   |some l',some l2,some l3=>if(mh (Region.before ops) l' && !l'.any kR)=true then some (.ops l')else if(mh (Region.before ops) l2 && !l2.any kR)=true then some (.ops l2)else if(l.any wK&&(EJ (Region.before ops) ops l3).isSome&&lu (Region.before ops) l3)=true then some (.lX l3)else if l.any wK=true then(if(decide (2<(l.filter Jp).length)&&mh (Region.before ops) l3&&lu (Region.before ops) l3)=true then some (.lX l3)else some (.qd l'))else if(mh (Region.before ops) l3&&lu (Region.before ops) l3)=true then some (.lX l3)else if(JY l&&(EJ (Region.before ops) ops l3).isSome&&lu (Region.before ops) l3)=true then some (.lX l3)else some (.ops l)
   |_,_,_=>none
  else some (.ops l)
def compile(P:Program):Code->Option an
 |.skip=>some .skip
 |.region _ ops draw=>lB P ops draw
 |.seq a b=>
  match compile P a,compile P b with
  |some x,some y=>some (.seq x y)
  |_,_=>none
 |.cond c a b=>
  match Cd c,compile P a,compile P b with
  |some c,some x,some y=>some (.cond c x y)
  |_,_,_=>none
 |.block id a=>(compile P a).map (.block id)
 |.loop a=>(compile P a).map .loop
 |.exit id=>some (.exit id)
 |.ret=>some .ret
 |.label _=>some .skip
 |.scope a=>compile P a
 |.rangeFunc g ps asg body=>
  match Cd g,compile P asg,compile P body with
  |some g,some x,some y=>some (.ft g ps.toList x y)
  |_,_,_=>none
 |.goto _=>some .bad
 |.refuse _=>some .bad
structure aj where
 nt:Nat
 np:Nat
 rs:List (Nat×Option (Option Nat))
 body:an
def rL(P:Program):ResultVar->Option (Nat×Option (Option Nat))
 |.tmp t=>some (t,none)
 |.cell a t=>(y7 P t).map λn=>(a,some n)
def bz(P:Program)(f:FuncId):Option aj:=
 match P.funcs[f]? with
 |none=>none
 |some fn=>
  match fn.body with
  |none=>none
  |some c=>
   match compile P c,fn.results.toList.mapM (rL P)with
   |some b,some rs=>if fn.name == "runtime.NumGoroutine" then none else some {nt:=fn.ntmps,np:=fn.params.size,rs:=rs,body:=b}
   |_,_=>none
def CY(P:Program)(g:Nat):Nat:=
 match P.globals[g]? with
 |some G=>
  match P.info? G.type with
  |some i=>i.size
  |none=>0
 |none=>0
def BR(P:Program)(m:bH)(w:World)(e:qn):ai->Prop
 |.cells c mu tl=>∃cc el fz,w.heap[e.cb]? =some (.cells cc el fz)/\(e.d+c.length<=cc.size/\e.d+c.length<=e.sz/\cc.size=e.sz)/\
   (∀(i:Nat) (x:AV),c[i]? =some x->x.one=true/\∃v,cc[e.d+i]? =some v/\VR m x v)/\
   (e.own=true->cc.size=e.sz/\∀i,i<cc.size->¬(fz.1<=i/\i<fz.2))/\((mu=true\/tl=true)->e.own=true/\(tl=false->e.sz=e.d+c.length))
 |.dead=>True
 |.aN es=>e.own=true/\∃P8 clock,w.heap[e.cb]? =some (.map P8 clock)/\P8.size=es.length/\
   ∀(i:Nat) (p:AV×AV),es[i]? =some p->∃q,P8[i]? =some q/\VR m p.1 q.key/\VR m p.2 q.val
 |.iter s pos=>e.own=true/\e.d=0/\w.heap[e.cb]? =some (.stringIter ⟨⟨s⟩⟩ pos)
 |.loop st ex ts ps asg body=>e.own=true/\∃fn tmps Pb OM df,w.heap[e.cb]? =some (.loop {state:=st,pending:=ex.jump,fn:=fn,tmps:=tmps,params:=⟨ps⟩,assign:=Pb,body:=OM,defers:=df})/\
   cw m ts tmps.toList/\compile P Pb=some asg/\compile P OM=some body
def ai.live:ai->Bool
 |.dead=>false
 |_=>true
def nQ(e1 e2:qn):ai->ai->Prop
 |.cells c1 mu1 tl1,.cells c2 mu2 tl2=>mu1=false/\mu2=false/\(tl1=true->tl2=false/\e2.d+c2.length<=e1.d+c1.length)
 |.dead,_=>True
 |_,.dead=>True
 |_,_=>False
structure HR(P:Program)(m:bH)(h:af)(w:World):Prop where
 cD:∀b e,m b=some e->b<h.length
 dU:∀b e k,m b=some e->h[b]? =some k->BR P m w e k
 sep:∀b1 b2 e1 e2 k1 k2,b1≠b2->m b1=some e1->m b2=some e2->h[b1]? =some k1->h[b2]? =some k2->e1.cb=e2.cb->nQ e1 e2 k1 k2
 fG:∀g,g<P.globals.size->∃e,m g=some e/\e.cb=g/\e.d=0/\e.own=false/\e.sz=CY P g
 lt:∀b e,m b=some e->e.cb<w.heap.size
structure Grow(m:bH)(h:af)(w:World)(m':bH)(h':af)(w':World):Prop where
 ext:∀b,b<h.length->m' b=m b
 len:h.length<=h'.length
 new:∀b e,h.length<=b->m' b=some e->e.own=true/\(w.heap.size<=e.cb\/∃b0 e0,m b0=some e0/\e0.cb=e.cb/\e0.own=true/\dP h b0=true/\dP h' b0=false)
 tl:∀b,b<h.length->dP h' b=true->dP h b=true
 size:w.heap.size<=w'.heap.size
 os:w'.os=w.os
 out:w'.output=w.output
 tape:w'.tape=w.tape
 frame:∀i,i<w.heap.size->(∀b e,m b=some e->e.own=true->e.cb≠i)->w'.heap[i]? =w.heap[i]?
def Grow.refl(m:bH)(h:af)(w:World)(hd:∀b e,m b=some e->b<h.length):Grow m h w m h w where
 ext:=λ_ _=>rfl
 len:=Uq _
 new:=λb e hb he=>absurd (hd b e he) Om
 tl:=λ_ _ h=>h
 size:=Uq _
 os:=rfl
 out:=rfl
 tape:=rfl
 frame:=λ_ _ _=>rfl
theorem Grow.le{m m' h h' w w'}(g:Grow m h w m' h' w')(hd:∀b e,m b=some e->b<h.length):m.le m':=
 λb e he=>by rw[g.ext b (hd b e he)];exact he
theorem Grow.trans{m m1 m2 h h1 h2 w w1 w2}(a:Grow m h w m1 h1 w1)(b:Grow m1 h1 w1 m2 h2 w2)
  (hd:∀b e,m b=some e->b<h.length):Grow m h w m2 h2 w2 where
 ext:=λi hi=>(b.ext i (Vg hi a.len)).trans (a.ext i hi)
 len:=Vk a.len b.len
 new:=by
  intro i e hi he;by_cases h1i:h1.length<=i
  ·obtain⟨ho,hc⟩:=b.new i e h1i he;refine⟨ho,?_⟩;rcases hc with hc|⟨b0,e0,PR,hcb,ho0,Qd,Sd⟩
   ·exact .inl (Vk a.size hc)
   ·by_cases hb:h.length<=b0
    ·obtain⟨_,hc0⟩:=a.new b0 e0 hb PR;rcases hc0 with hc0|⟨b00,e00,hb00,T4,ho00,ht00,SM⟩
     ·exact .inl (hcb▸hc0)
     ·refine .inr ⟨b00,e00,hb00,T4.trans hcb,ho00,ht00,?_⟩;cases hx:dP h2 b00 with
      |false=>rfl
      |true=>
       have hlt:=hd _ _ hb00;rw[b.tl b00 (Vg hlt a.len) hx]at SM;cases SM
    ·have hlt:b0<h.length:=Om
     rw[a.ext b0 hlt]at PR;exact .inr ⟨b0,e0,PR,hcb,ho0,a.tl b0 hlt Qd,Sd⟩
  ·have hi1:i<h1.length:=Om
   rw[b.ext i hi1]at he;obtain⟨ho,hc⟩:=a.new i e hi he;refine⟨ho,?_⟩;rcases hc with hc|⟨b0,e0,PR,hcb,ho0,Qd,Sd⟩
   ·exact .inl hc
   ·refine .inr ⟨b0,e0,PR,hcb,ho0,Qd,?_⟩;cases hx:dP h2 b0 with
    |false=>rfl
    |true=>
     have hlt:=hd _ _ PR;rw[b.tl b0 (Vg hlt a.len) hx]at Sd;cases Sd
 tl:=λi hi ht=>a.tl i hi (b.tl i (Vg hi a.len) ht)
 size:=Vk a.size b.size
 os:=b.os.trans a.os
 out:=b.out.trans a.out
 tape:=b.tape.trans a.tape
 frame:=by
  intro i hi hno;refine(b.frame i (Vg hi a.size) ?_).trans (a.frame i hi hno);intro j e he ho hcb;by_cases hj:h.length<=j
  ·obtain⟨_,hc⟩:=a.new j e hj he;rcases hc with hc|⟨b0,e0,PR,T4,ho0,_,_⟩
   ·omega
   ·exact hno b0 e0 PR ho0 (T4.trans hcb)
  ·rw[a.ext j Om]at he;exact hno j e he ho hcb
theorem BR.heap{P m w w' e k}(h:BR P m w e k)(hw:w'.heap[e.cb]? =w.heap[e.cb]?):BR P m w' e k:=by
 cases k<;>simp only[BR,hw]at h ⊢<;>exact h
theorem BR.mono{P m m' w e k}(hm:m.le m')(h:BR P m w e k):BR P m' w e k:=by
 cases k with
 |cells c mu tl=>
  obtain⟨cc,el,fz,h1,h2,h3,h4⟩:=h;exact⟨cc,el,fz,h1,h2,λi x hx=>by obtain⟨ho,v,hv,hr⟩:=h3 i x hx;exact⟨ho,v,hv,VR.mono hm _ _ hr⟩,h4⟩
 |dead=>trivial
 |aN es=>
  obtain⟨ho,P8,clock,h1,h2,h3⟩:=h;exact⟨ho,P8,clock,h1,h2,λi p hp=>by obtain⟨q,hq,ha,hb⟩:=h3 i p hp;exact⟨q,hq,VR.mono hm _ _ ha,VR.mono hm _ _ hb⟩⟩
 |iter s pos=>exact h
 |loop st ex ts ps asg body=>
  obtain⟨ho,fn,tmps,Pb,OM,df,h1,h2,h3,h4⟩:=h;exact⟨ho,fn,tmps,Pb,OM,df,h1,cw.mono hm _ _ h2,h3,h4⟩
theorem HR.drew{P m h w}(hr:HR P m h w):HR P m h w.drew where
 cD:=hr.cD
 dU:=λb e k hb hk=>(hr.dU b e k hb hk).heap rfl
 sep:=hr.sep
 fG:=hr.fG
 lt:=hr.lt
theorem Grow.drew{m h w m' h' w'}(g:Grow m h w m' h' w'):Grow m h w m' h' w'.drew:=
 ⟨g.ext,g.len,g.new,g.tl,g.size,g.os,g.out,g.tape,g.frame⟩
def Grow.A0{m h w m' h' w'}(g:Grow m h w.drew m' h' w'):Grow m h w m' h' w':=
 ⟨g.ext,g.len,g.new,g.tl,g.size,g.os,g.out,g.tape,g.frame⟩
def BR.lt{P m w e k}(h:BR P m w e k)(hl:k.live=true):e.cb<w.heap.size:=by
 cases k with
 |cells c mu tl=>obtain⟨cc,el,fz,h1,_⟩:=h;exact(Uu.1 h1).1
 |dead=>cases hl
 |aN es=>obtain⟨_,P8,clock,h1,_⟩:=h;exact(Uu.1 h1).1
 |iter s pos=>exact(Uu.1 h.2.2).1
 |loop st ex ts ps asg body=>obtain⟨_,fn,tmps,Pb,OM,df,h1,_⟩:=h;exact(Uu.1 h1).1
def bH.add(m:bH)(b:Nat)(e:qn):bH:=λx=>if x=b then some e else m x
def bH.pZ{m:bH}{b:Nat}(e:qn)(h:m b=none):m.le (m.add b e):=by
 intro x y hx;unfold bH.add;by_cases hb:x=b
 ·subst hb;rw[h]at hx;cases hx
 ·rw[Ur hb];exact hx
def fg{h k b}(hb:b<h.length):dP (h++[k]) b=dP h b:=by
 unfold dP;rw[Ug hb]
def jn{P:Program}{m:bH}{h:af}{w:World}(hr:HR P m h w)(o:Obj)(k:ai)(e:qn)(he:e.cb=w.heap.size)(ho:e.own=true)
  (hk:∀m':bH,m.le m'->BR P m' (w.alloc o) e k):
  HR P (m.add h.length e) (h++[k]) (w.alloc o)/\Grow m h w (m.add h.length e) (h++[k]) (w.alloc o):=by
 have Pf:m h.length=none:=by
  exact Kl
 have hle:=bH.pZ e Pf;have hold:∀b x,m b=some x->(m.add h.length e) b=some x:=hle;have hheap:∀i,i<w.heap.size->(w.alloc o).heap[i]? =w.heap[i]? :=λi hi=>Go.RowKit.Below.heap_alloc w o i hi
 have RE:∀b x k',m b=some x->h[b]? =some k'->k'.live=true->x.cb<w.heap.size:=λb x k' hb hk' hl=>(hr.dU b x k' hb hk').lt hl
 refine⟨⟨?_,?_,?_,?_,?_⟩,⟨?_,Si,?_,?_,Si,rfl,rfl,rfl,λi hi _=>hheap i hi⟩⟩
 ·intro b x hb;unfold bH.add at hb;by_cases hbl:b=h.length
  ·subst hbl;simp
  ·rw[Ur hbl]at hb;have:=hr.cD _ _ hb;simp;omega
 ·intro b x k' hb hk';unfold bH.add at hb;by_cases hbl:b=h.length
  ·subst hbl;rw[Ut rfl]at hb;cases hb;simp at hk';subst hk';exact hk _ hle
  ·rw[Ur hbl]at hb;have hlt:=hr.cD _ _ hb;rw[Ug hlt]at hk';have h0:=hr.dU b x k' hb hk';by_cases hl:k'.live=true
   ·exact(h0.mono hle).heap (hheap _ (h0.lt hl))
   ·cases k'<;>first|trivial|exact absurd rfl hl
 ·intro b1 b2 e1 e2 k1 k2 hne h1 h2 hk1 Oi hcb;unfold bH.add at h1 h2;by_cases O7:b1=h.length
  ·subst O7;rw[Ut rfl]at h1;cases h1;have O0:b2≠h.length:=λx=>hne x.symm
   rw[Ur O0]at h2;have hlt:=hr.cD _ _ h2;rw[Ug hlt]at Oi;by_cases hl:k2.live=true
   ·have:=RE _ _ _ h2 Oi hl;omega
   ·cases k2<;>first|(cases k1<;>trivial)|exact absurd rfl hl
  ·rw[Ur O7]at h1;have hlt1:=hr.cD _ _ h1;rw[Ug hlt1]at hk1;by_cases O0:b2=h.length
   ·subst O0;rw[Ut rfl]at h2;cases h2;by_cases hl:k1.live=true
    ·have:=RE _ _ _ h1 hk1 hl;omega
    ·cases k1<;>first|trivial|exact absurd rfl hl
   ·rw[Ur O0]at h2;have Qy:=hr.cD _ _ h2;rw[Ug Qy]at Oi;exact hr.sep b1 b2 e1 e2 k1 k2 hne h1 h2 hk1 Oi hcb
 ·intro g hg;obtain⟨x,hx,h1⟩:=hr.fG g hg;exact⟨x,hold _ _ hx,h1⟩
 ·intro b x hb;unfold bH.add at hb;simp only[World.size_alloc];by_cases hbl:b=h.length
  ·rw[Ut hbl]at hb;cases hb;omega
  ·rw[Ur hbl]at hb;have:=hr.lt _ _ hb;omega
 ·intro b hb;unfold bH.add;rw[Ur Om]
 ·intro b x hb hx;unfold bH.add at hx;by_cases hbl:b=h.length
  ·rw[Ut hbl]at hx;cases hx;exact⟨ho,.inl Om⟩
  ·rw[Ur hbl]at hx;exact absurd (hr.cD _ _ hx) Om
 ·intro b hb ht
  rwa [fg hb]at ht
def sM{P:Program}{m:bH}{w:World}{c:List AV}{vs:List Value}(hc:cw m c vs)(h1:c.all AV.one=true)(el:TypeId)(mu tl:Bool)(m':bH)(hm:m.le m'):
  BR P m' (w.alloc (.cells ⟨vs⟩ el)) ⟨w.heap.size,0,vs.length,true⟩ (.cells c mu tl):=by
 refine⟨⟨vs⟩,el,(0,0),World.alloc_heap_new w _,⟨by simp[hc.length],by simp[hc.length]⟩,?_,?_,λ_=>⟨rfl,λ_=>by simp[hc.length]⟩⟩
 ·intro i x hx;obtain⟨v,hv,hr⟩:=hc.get hx;exact⟨UJ.1 h1 x (U5 hx),v,by simpa using hv,VR.mono hm _ _ hr⟩
 ·intro _;exact⟨Si,λi _=>by simp⟩
def j9{P m h w}(hr:HR P m h w){c vs}(hc:cw m c vs)(h1:c.all AV.one=true)(el:TypeId)(mu tl:Bool):
  ∃m',m' h.length=some ⟨w.heap.size,0,vs.length,true⟩/\HR P m' (h++[.cells c mu tl]) (w.alloc (.cells ⟨vs⟩ el))/\Grow m h w m' (h++[.cells c mu tl]) (w.alloc (.cells ⟨vs⟩ el)):=
 ⟨_,by simp[bH.add],jn hr (.cells ⟨vs⟩ el) (.cells c mu tl) ⟨w.heap.size,0,vs.length,true⟩ rfl rfl (λm' hm=>sM hc h1 el mu tl m' hm)⟩
def fV(b o n:Nat):(⟨b,o,none⟩:Addr).add n=⟨b,o+n,none⟩:=by
 unfold Addr.add;by_cases h:n=0
 ·simp[h]
 ·simp[h]
def cell_of{P m h w}(hr:HR P m h w){b e c mu tl}(he:m b=some e)(hb:h[b]? =some (.cells c mu tl))
  {i}{x}(hx:c[i]? =some x):x.one=true/\∃v,w.cell? ⟨e.cb,i+e.d,none⟩=some v/\VR m x v:=by
 obtain⟨cc,el,fz,h1,_,h3,_⟩:=hr.dU b e _ he hb;obtain⟨ho,v,hv,Ok⟩:=h3 i x hx;exact⟨ho,v,by simp only[World.cell?,h1];rw[Nat.add_comm];simpa using hv,Ok⟩
def ll{P m h w}(hr:HR P m h w){b e c mu tl}(he:m b=some e)(hb:h[b]? =some (.cells c mu tl))
  (o n:Nat) (hn:o+n<=c.length):∃vs,(loadCells ⟨e.cb,o+e.d,none⟩ n).run P w=.ok ⟨vs⟩ w/\cw m ((c.drop o).take n) vs/\((c.drop o).take n).all AV.one=true:=by
 have Ov:∀j,j<n->∃x,c[o+j]? =some x:=λj hj=>⟨c[o+j],Uj Om⟩
 have O6:∀j,j<n->∃v,w.cell? ⟨e.cb,o+e.d+j,none⟩=some v/\∃x,c[o+j]? =some x/\VR m x v:=by
  intro j hj;obtain⟨x,hx⟩:=Ov j hj;obtain⟨_,v,hv,Ok⟩:=cell_of hr he hb hx;exact⟨v,by rw[show o+e.d+j=o+j+e.d from by omega];exact hv,x,hx,Ok⟩
 obtain⟨f,hf⟩:∃f:Nat->Value,∀j,j<n->w.cell? ⟨e.cb,o+e.d+j,none⟩=some (f j):=
  ⟨λj=>(w.cell? ⟨e.cb,o+e.d+j,none⟩).getD default,λj hj=>by obtain⟨v,hv,_⟩:=O6 j hj;simp[hv]⟩
 have OI:cw m ((c.drop o).take n) ((List.range n).map f):=by
  refine cw.gf (by simp;omega) λi x hx=>?_
  have hi:i<n:=by
   have:=(Ue.1 hx).1;simp at this;omega
  rw[Wi hi,Wv]at hx;obtain⟨v,hv,y,hy,Ok⟩:=O6 i hi;rw[hx]at hy;cases hy;refine⟨f i,by simp[hi],?_⟩;have:=hf i hi;rw[hv]at this;cases this;exact Ok
 refine⟨(List.range n).map f,?_,OI,?_⟩
 ·have:=run_loadCells_list (P:=P) (w:=w) ⟨e.cb,o+e.d,none⟩ ((List.range n).map f) (λj v hj=>by
   have hi:j<n:=by
    have:=(Ue.1 hj).1
    simpa using this
   rw[fV];simp[hi]at hj;rw[<-hj];exact hf j hi)
  simpa using this
 ·rw[UJ];intro x hx;have Oo:x∈c:=List.mem_of_mem_drop (Vi hx);obtain⟨i,hi,rfl⟩:=WW Oo;exact(cell_of hr he hb (Uj hi)).1
def fq(c:List AV)(o:Nat):List AV->List AV
 |[]=>c
 |x::xs=>fq (c.set o x) (o+1) xs
def aX(h:af)(b b':Nat)(k:ai)(hb:b<h.length):(h.set b k)[b']? =if b' =b then some k else h[b']? :=by
 rw[List.getElem?_set];by_cases e:b=b'
 ·subst e;simp[hb]
 ·have e':¬b' =b:=λx=>e x.symm
  rw[Ur e,Ur e']
def mv{w:World}{cb i:Nat}{cc:Array Value}{el:TypeId}{fz:Nat×Nat}(h1:w.heap[cb]? =some (.cells cc el fz))(h:¬(fz.1<=i/\i<fz.2)):w.frozen? ⟨cb,i,none⟩=false:=by
 obtain⟨lo,hi⟩:=fz;simp only[World.frozen?,h1];simp only[Bool.and_eq_false_iff,VV];simp only at h;omega
def heap_setCell_same{w:World}{cb i:Nat}{cc:Array Value}{el:TypeId}{fz:Nat×Nat}(h1:w.heap[cb]? =some (.cells cc el fz))(v:Value):
  (w.setCell ⟨cb,i,none⟩ v).heap[cb]? =some (.cells (cc.setIfInBounds i v) el fz):=by
 obtain⟨hlt,hk⟩:=Uu.1 h1;simp only[World.setCell];rw[UZ (by rw[Array.size_modify];exact hlt),Array.getElem_modify_self,hk];simp
def x9{P:Program}{m:bH}{h:af}{w:World}(hr:HR P m h w){b:Nat}{e:qn}{c:List AV}{tl:Bool}(he:m b=some e)(hb:h[b]? =some (.cells c true tl))
  {i:Nat}(hi:i<c.length) {x:AV}{v:Value}(hx:x.one=true) (hv:VR m x v):
  (store ⟨e.cb,i+e.d,none⟩ v).run P w=.ok () (w.setCell ⟨e.cb,i+e.d,none⟩ v)/\
  HR P m (h.set b (.cells (c.set i x) true tl)) (w.setCell ⟨e.cb,i+e.d,none⟩ v)/\Grow m h w m (h.set b (.cells (c.set i x) true tl)) (w.setCell ⟨e.cb,i+e.d,none⟩ v):=by
 obtain⟨cc,el,fz,h1,⟨h2,h2'⟩,h3,h4,h5⟩:=hr.dU b e _ he hb;have hown:e.own=true:=(h5 (.inl rfl)).1;obtain⟨dO,hfz⟩:=h4 hown;have hbl:b<h.length:=hr.cD _ _ he;have O6:∃u,w.cell? ⟨e.cb,i+e.d,none⟩=some u:=⟨cc[i+e.d]'Om,by simp only[World.cell?,h1];exact UZ Om⟩;obtain⟨u,hu⟩:=O6;have hfr:w.frozen? ⟨e.cb,i+e.d,none⟩=false:=mv h1 (hfz _ Om);have hother:∀k,k≠e.cb->(w.setCell ⟨e.cb,i+e.d,none⟩ v).heap[k]? =w.heap[k]? :=λk hk=>Go.RowKit.Below.heap_setCell w _ v k hk
 have Ru:=heap_setCell_same (i:=i+e.d) h1 v;refine⟨?_,⟨?_,?_,?_,hr.fG,λb' e' hb'=>by simpa using hr.lt b' e' hb'⟩,⟨λ_ _=>rfl,Si,?_,?_,Si,rfl,rfl,rfl,?_⟩⟩
 ·rw[run_store P w _ v .plain (hv.rO hx),hu];simp[hfr]
 ·intro b' e' hb';simpa using hr.cD b' e' hb'
 ·intro b' e' k Pd hk;rw[aX h b b' _ hbl]at hk;by_cases hbb:b' =b
  ·subst hbb;rw[Ut rfl]at hk;cases hk;rw[he]at Pd;cases Pd;refine⟨_,el,fz,Ru,⟨by simpa using h2,by simpa using h2'⟩,?_,λho=>⟨by simpa using dO,λj hj=>hfz j (by simpa using hj)⟩,λz=>⟨hown,λy=>by rw[VA];exact(h5 (.inl rfl)).2 y⟩⟩;intro j y hy;rw[List.getElem?_set]at hy;by_cases hij:i=j
   ·subst hij;rw[Ut rfl,Ut hi]at hy;cases hy;refine⟨hx,v,?_,hv⟩;rw[show e.d+i=i+e.d from by omega];rw[Vt Om]
   ·rw[Ur hij]at hy;obtain⟨ho,u',Rr,hr'⟩:=h3 j y hy;refine⟨ho,u',?_,hr'⟩;rw[VX Om];exact Rr
  ·rw[Ur hbb]at hk;have h0:=hr.dU b' e' k Pd hk;by_cases hl:k.live=true
   ·refine h0.heap (hother _ ?_);intro hcb;have:=hr.sep b b' e e' _ k (λx=>hbb x.symm) he Pd hb hk hcb.symm;cases k<;>first|(cases hl;done)|exact absurd this.1 Si|exact this
   ·cases k<;>first|trivial|exact absurd rfl hl
 ·intro b1 b2 e1 e2 k1 k2 hne PN OD hk1 Oi hcb;rw[aX h b _ _ hbl]at hk1 Oi;by_cases O7:b1=b
  ·subst O7;rw[Ut rfl]at hk1;cases hk1;rw[Ur (λx=>hne x.symm)]at Oi;have:=hr.sep b1 b2 e1 e2 _ k2 hne PN OD hb Oi hcb;cases k2<;>first|trivial|exact absurd this.1 Si|exact this.elim
  ·rw[Ur O7]at hk1;by_cases O0:b2=b
   ·subst O0;rw[Ut rfl]at Oi;cases Oi;have:=hr.sep b1 b2 e1 e2 k1 _ hne PN OD hk1 hb hcb;cases k1<;>first|trivial|exact absurd this.2.1 Si|exact this.elim
   ·exact Kk
 ·intro b' e' hb' Pd;exact absurd (hr.cD _ _ Pd) Om
 ·intro b' hb' ht;unfold dP at ht ⊢;rw[aX h b b' _ hbl]at ht;by_cases hbb:b' =b
  ·subst hbb;rw[Ut rfl]at ht;rw[hb];exact ht
  ·exact z145
 ·intro k hk hno;exact hother k (λhcb=>hno b e he hown hcb.symm)
theorem na{P m}:∀(xs:List AV) (vs:List Value) {h}{w}(_:HR P m h w) {b}{e}{c}{tl}(_:m b=some e) (_:h[b]? =some (.cells c true tl))
  (a j:Nat) (_:a+j+xs.length<=c.length) (_:xs.all AV.one=true) (_:cw m xs vs),
  ∃w',(storeCells ⟨e.cb,a+e.d,none⟩ vs j).run P w=.ok () w'/\HR P m (h.set b (.cells (fq c (a+j) xs) true tl)) w'/\Grow m h w m (h.set b (.cells (fq c (a+j) xs) true tl)) w'
 |[],vs,h,w,hr,b,e,c,tl,he,hb,a,j,hlen,h1,hv=>by
  rw[aT]at hv;subst hv;have hbl:b<h.length:=hr.cD _ _ he;have aR:h.set b (.cells (fq c (a+j) []) true tl)=h:=by
   simp only[fq]
   apply WI
   intro i;rw[aX h b i _ hbl];by_cases hi:i=b
   ·subst hi;simp[hb]
   ·simp[hi]
  exact⟨w,rfl,by rw[aR];exact hr,by rw[aR];exact Grow.refl m h w hr.cD⟩
 |x::xs,vs,h,w,hr,b,e,c,tl,he,hb,a,j,hlen,h1,hv=>by
  obtain⟨v,vs',rfl,hxv,OI⟩:=aF.1 hv;simp only[VJ,UH]at h1;simp only[Ui]at hlen;obtain⟨Ot,hr1,hg1⟩:=x9 hr he hb (i:=a+j) Om h1.1 hxv;have hbl:b<h.length:=hr.cD _ _ he;have O7:(h.set b (.cells (c.set (a+j) x) true tl))[b]? =some (.cells (c.set (a+j) x) true tl):=by rw[aX h b b _ hbl,Ut rfl]
  obtain⟨w',hrun',hr',OG⟩:=na xs vs' hr1 he O7 a (j+1) (by simp;omega) h1.2 OI;have aR:(h.set b (.cells (c.set (a+j) x) true tl)).set b (.cells (fq (c.set (a+j) x) (a+(j+1)) xs) true tl)=h.set b (.cells (fq c (a+j) (x::xs)) true tl):=by
   rw[List.set_set];rfl
  rw[aR]at hr' OG;refine⟨w',?_,hr',Grow.trans hg1 OG hr.cD⟩;simp only[storeCells,Uy];rw[fV,show a+e.d+j=a+j+e.d from by omega,Ot];exact hrun'
def fw(op:BinOp)(k:IntKind)(a b:Int):Option AV:=
 match op with
 |.add=>some (.int k (k.wrap (a+b)))
 |.sub=>some (.int k (k.wrap (a-b)))
 |.mul=>some (.int k (k.wrap (a*b)))
 |.quo=>if b=0 then none else some (.int k (k.wrap (a.tdiv b)))
 |.rem=>if b=0 then none else some (.int k (a.tmod b))
 |.and=>some (.int k (k.wrap (BitVec.ofInt k.bits a &&& BitVec.ofInt k.bits b).toNat))
 |.or=>some (.int k (k.wrap (BitVec.ofInt k.bits a |||BitVec.ofInt k.bits b).toNat))
 |.xor=>some (.int k (k.wrap (BitVec.ofInt k.bits a^^^BitVec.ofInt k.bits b).toNat))
 |.andNot=>some (.int k (k.wrap (BitVec.ofInt k.bits a &&& ~~~ (BitVec.ofInt k.bits b)).toNat))
 |.eql=>some (.bool (a==b))
 |.neq=>some (.bool (a !=b))
 |.lss=>some (.bool (decide (a<b)))
 |.leq=>some (.bool (decide (a<=b)))
 |.gtr=>some (.bool (decide (a > b)))
 |.geq=>some (.bool (decide (a>=b)))
 |_=>none
def o6(op:BinOp)(x y:By):Option AV:=
 match op with
 |.add=>if x.length+y.length<2^62 then some (.str (x++y))else none
 |.eql=>some (.bool (x==y))
 |.neq=>some (.bool !(x==y))
 |.lss=>some (.bool (Op.bytesLess x y))
 |.leq=>some (.bool (Op.bytesLess x y||x==y))
 |.gtr=>some (.bool !(Op.bytesLess x y||x==y))
 |.geq=>some (.bool !(Op.bytesLess x y))
 |_=>none
def vd(op:BinOp)(k:IntKind)(a b:Int):Option AV:=
 if b<0 then none
 else match op with
  |.shl=>some (.int k (k.wrap (a*2^(min b.toNat k.bits))))
  |.shr=>some (.int k (a.fdiv (2^(min b.toNat k.bits))))
  |_=>none
def ec:BinOp->Bool
 |.shl=>true
 |.shr=>true
 |_=>false
def dM(op:BinOp):AV->AV->Option AV
 |.int k a,.int k' b=>if ec op then vd op k a b else if k=k' then fw op k a b else none
 |.str a,.str b=>o6 op a b
 |_,_=>none
def uW(op:UnOp):AV->Option AV
 |.int k n=>
  match op with
  |.neg=>some (.int k (k.wrap (0-n)))
  |.xor=>fw .xor k (if k.signed then -1 else k.max) n
  |_=>none
 |.bool b=>
  match op with
  |.not=>some (.bool !b)
  |_=>none
 |_=>none
def cR:CK->AV->AV->Option Bool
 |.b,.bool a,.bool b=>some (a==b)
 |.i,.int k a,.int k' b=>if k=k' then some (a==b)else none
 |.s,.str a,.str b=>some (a==b)
 |_,_,_=>none
def c8:List CK->List AV->List AV->Option Bool
 |[],[],[]=>some true
 |k::ks,x::xs,y::ys=>
  match cR k x y with
  |some true=>c8 ks xs ys
  |some false=>some false
  |none=>none
 |_,_,_=>none
def xA(ks:List CK):AV->AV->Option Bool
 |.agg xs,.agg ys=>if xs.length=ks.length/\ys.length=ks.length then c8 ks xs ys else none
 |_,_=>none
def Ma:AV->AV->Option Bool
 |.ah,.ah=>some true
 |.ah,.slice _ _ _ _=>some false
 |.slice _ _ _ _,.ah=>some false
 |_,_=>none
def Mb:AV->AV->Option Bool
 |.nilPtr,.nilPtr=>some true
 |.nilPtr,.ptr _ _=>some false
 |.ptr _ _,.nilPtr=>some false
 |_,_=>none
def Md:AV->AV->Option Bool
 |.nilFunc,.nilFunc=>some true
 |.nilFunc,.func _ _ _=>some false
 |.func _ _ _,.nilFunc=>some false
 |_,_=>none
def Mc:AV->AV->Option Bool
 |.cQ,.cQ=>some true
 |.cQ,.map _=>some false
 |.map _,.cQ=>some false
 |_,_=>none
def nw(t:MR)(x y:AV):Option Bool:=
 match t with
 |.one k=>cR k x y
 |.agg ks=>xA ks x y
 |.Ck=>Ma x y
 |.Cl=>Mb x y
 |.ow=>Md x y
 |.IY=>Mc x y
def byteOf:AV->Option UInt8
 |.int .u8 n=>some (UInt8.ofNat n.toNat)
 |_=>none
def cellsIn(es:Nat)(h:af):AV->Option (List AV×Nat)
 |.ah=>some ([],0)
 |.slice b o n es'=>
  if es' =es then
   match h[b]? with
   |some (.cells c _ _)=>if o+n*es<=c.length then some ((c.drop o).take (n*es),n)else none
   |_=>none
  else none
 |.str s=>if es=1 then some (s.map λb=>.int .u8 b.toNat,s.length)else none
 |_=>none
def jl(k:xZ)(x:AV)(h:af):Option (AV×af):=
 match k with
 |.Js k=>
  match x with
  |.int _ n=>some (.int k (k.wrap n),h)
  |_=>none
 |.same=>
  match x with
  |.str s=>some (.str s,h)
  |_=>none
 |.LM k=>
  match x with
  |.int _ n=>some (.uS k (k.nearest n),h)
  |_=>none
 |.L8 k=>
  match x with
  |.uS s b=>
   match (s.decode b).toInt .zero with
   |some n=>if Cn s b=false/\k.min<=n/\n<=k.max then some (.int k n,h)else none
   |none=>none
  |_=>none
 |.L9 k=>
  match x with
  |.uS s b=>if s=k then some (.uS k b,h)else none
  |_=>none
 |.sN u=>some (.sN u x,h)
 |.Ks=>
  match x with
  |.ah=>some (.str [],h)
  |.slice b o n es=>
   match cellsIn 1 h (.slice b o n es)with
   |some (l,_)=>
    match l.mapM byteOf with
    |some r=>some (.str r,h)
    |none=>none
   |none=>none
  |_=>none
 |.K5=>
  match x with
  |.str s=>some (.slice h.length 0 s.length 1,h++[.cells (s.map λb=>.int .u8 b.toNat) true true])
  |_=>none
def du(n:Nat)(z:List AV):List AV:=(List.replicate n z).flatten
def dW(c:List AV):List (Nat×Nat×AV)->Option (List AV)
 |[]=>some c
 |(off,n,v)::r=>if v.cells.length=n/\off+n<=c.length then dW (fq c off v.cells) r else none
def EB:Option AV->Option Int
 |none=>some 0
 |some (.int _ i)=>some i
 |_=>none
def CW(n:Nat):Option AV->Option Int
 |none=>some n
 |some (.int _ i)=>some i
 |_=>none
def gx(lo hi:Option AV)(n:Nat):Option (Nat×Nat):=
 match EB lo,CW n hi with
 |some l,some h=>if 0<=l/\l<=h/\h<=n then some (l.toNat,h.toNat)else none
 |_,_=>none
def iw(kk:CK)(k:AV):List (AV×AV)->Option (Option AV)
 |[]=>some none
 |(a,v)::r=>
  match cR kk k a with
  |some true=>some (some v)
  |some false=>iw kk k r
  |none=>none
def mZ(kk:CK)(k v:AV):List (AV×AV)->Option (List (AV×AV))
 |[]=>some [(k,v)]
 |(a,u)::r=>
  match cR kk k a with
  |some true=>some ((k,v)::r)
  |some false=>(mZ kk k v r).map ((a,u)::·)
  |none=>none
def nX:AV->AV->Option AV
 |.int k a,.int k' b=>if k=k' then some (.int k (if b > a then b else a))else none
 |_,_=>none
def nW:AV->AV->Option AV
 |.int k a,.int k' b=>if k=k' then some (.int k (if b<a then b else a))else none
 |_,_=>none
def gu(f:AV->AV->Option AV):AV->List AV->Option AV
 |x,[]=>some x
 |x,y::r=>
  match f x y with
  |some z=>gu f z r
  |none=>none
def yq(lk:LK)(h:af):AV->Option Nat
 |.str s=>if lk=.st then some s.length else none
 |.slice _ _ n _=>if lk=.sl then some n else none
 |.ah=>if lk=.sl then some 0 else none
 |.map r=>
  match h[r]? with
  |some (.aN es)=>if lk=.mp then some es.length else none
  |_=>none
 |.cQ=>if lk=.mp then some 0 else none
 |_=>none
def cV(k:mU)(ρ:cK->AV)(h:af):Option (AV×af):=
 match k with
 |.dq x=>some (ρ x,h)
 |.pick c a b=>
  match ρ c with
  |.bool t=>some (if t then ρ a else ρ b,h)
  |_=>none
 |.box x=>if(ρ x).cells.all AV.one then some (.ptr h.length 0,h++[.cells (ρ x).cells true false])else none
 |.mD n x=>if(ρ x).cells.all AV.one=true/\(ρ x).cells.length=n then some (.ptr h.length 0,h++[.cells (ρ x).cells true false])else none
 |.build z ps=>
  match dW z (ps.map λp=>(p.1,p.2.1,ρ p.2.2))with
  |some c=>some (.agg c,h)
  |none=>none
 |.load n a=>
  match ρ a with
  |.ptr b o=>
   match h[b]? with
   |some (.cells c _ _)=>
    match n with
    |none=>
     match c[o]? with
     |some x=>some (x,h)
     |none=>none
    |some n=>if o+n<=c.length then some (.agg ((c.drop o).take n),h)else none
   |_=>none
  |_=>none
 |.store n a x=>
  match ρ a with
  |.ptr b o=>
   match h[b]? with
   |some (.cells c true tl)=>
    if(ρ x).cells.length=n/\(ρ x).cells.all AV.one=true/\o+n<=c.length then some (au,h.set b (.cells (fq c o (ρ x).cells) true tl))else none
   |_=>none
  |_=>none
 |.bu x=>
  match ρ x with
  |.ptr b o=>some (.ptr b o,h)
  |.func (.func f) a c=>some (.func (.func f) a c,h)
  |.func (.yield f) a c=>some (.func (.yield f) a c,h)
  |.func (.methodOf t n) a c=>some (.func (.methodOf t n) a c,h)
  |.func (.via t p f q) a c=>some (.func (.via t p f q) a c,h)
  |_=>none
 |.bin op x y=>
  match dM op (ρ x) (ρ y)with
  |some v=>some (v,h)
  |none=>none
 |.eqv neg t x y=>
  match nw t (ρ x) (ρ y)with
  |some b=>some (.bool (if neg then !b else b),h)
  |none=>none
 |.un op x=>
  match uW op (ρ x)with
  |some v=>some (v,h)
  |none=>none
 |.conv k x=>jl k (ρ x) h
 |.rV f a c=>some (.func f (a.map ρ) (c.map ρ),h)
 |.mg=>some (.map h.length,h++[.aN []])
 |.tL es w z l c=>
  match ρ l,ρ c with
  |.int _ l,.int _ c=>
   if 0<=l/\l<=c/\(w:Int)*c<=2^48/\c<2^63 then some (.slice h.length 0 l.toNat es,h++[.cells (du l.toNat z) true true])else none
  |_,_=>none
 |.sl es x lo hi=>
  match ρ x with
  |.slice b o n es'=>
   if es' =es then
    match gx (lo.map ρ) (hi.map ρ) n with
    |some (l,h')=>some (.slice b (o+l*es) (h'-l) es,h)
    |none=>none
   else none
  |.ah=>
   match gx (lo.map ρ) (hi.map ρ) 0 with
   |some _=>some (.ah,h)
   |none=>none
  |_=>none
 |.Fk x lo hi=>
  match ρ x with
  |.str s=>
   match gx (lo.map ρ) (hi.map ρ) s.length with
   |some (l,h')=>some (.str ((s.drop l).take (h'-l)),h)
   |none=>none
  |_=>none
 |.Ko k es x lo hi=>
  match ρ x with
  |.ptr b o=>
   match h[b]? with
   |some (.cells c _ _)=>
    if o+k*es<=c.length then
     match gx (lo.map ρ) (hi.map ρ) k with
     |some (l,h')=>some (.slice b (o+l*es) (h'-l) es,h)
     |none=>none
    else none
   |_=>none
  |_=>none
 |.bP off x=>
  match ρ x with
  |.ptr b o=>some (.ptr b (o+off),h)
  |_=>none
 |.bT es x i=>
  match ρ x,ρ i with
  |.slice b o n es',.int _ i=>if es' =es/\0<=i/\i<n then some (.ptr b (o+i.toNat*es),h)else none
  |_,_=>none
 |.qg len es x i=>
  match ρ x,ρ i with
  |.ptr b o,.int _ i=>if 0<=i/\i<len then some (.ptr b (o+i.toNat*es),h)else none
  |_,_=>none
 |.part n off x=>
  match ρ x with
  |.agg cs=>
   match n with
   |none=>
    match cs[off]? with
    |some v=>some (v,h)
    |none=>none
   |some n=>some (.agg ((cs.drop off).take n),h)
  |_=>none
 |.Hr len es n x i=>
  match ρ x,ρ i with
  |.agg cs,.int _ i=>
   if 0<=i/\i<len then
    match n with
    |none=>
     match cs[i.toNat*es]? with
     |some v=>some (v,h)
     |none=>none
    |some n=>some (.agg ((cs.drop (i.toNat*es)).take n),h)
   else none
  |_,_=>none
 |.Gj x i=>
  match ρ x,ρ i with
  |.str s,.int _ i=>
   if 0<=i then
    match s[i.toNat]? with
    |some b=>some (.int .u8 b.toNat,h)
    |none=>none
   else none
  |_,_=>none
 |.look kk z ok m k=>
  match ρ m with
  |.cQ=>some (if ok then .dt [z,.bool false]else z,h)
  |.map r=>
   match h[r]? with
   |some (.aN es)=>
    match iw kk (ρ k) es with
    |some (some v)=>some (if ok then .dt [v,.bool true]else v,h)
    |some none=>some (if ok then .dt [z,.bool false]else z,h)
    |none=>none
   |_=>none
  |_=>none
 |.fu kk m k x=>
  match ρ m with
  |.map r=>
   match h[r]? with
   |some (.aN es)=>
    match mZ kk (ρ k) (ρ x) es with
    |some es'=>some (au,h.set r (.aN es'))
    |none=>none
   |_=>none
  |_=>none
 |.zS x=>
  match ρ x with
  |.str s=>some (.ptr h.length 0,h++[.iter s 0])
  |_=>none
 |.pz x=>
  match ρ x with
  |.ptr b 0=>
   match h[b]? with
   |some (.iter s pos)=>
    if pos<s.length then
     let d:=Utf8.decode ⟨⟨s⟩⟩ pos
     some (.dt [.bool true,.int .i64 pos,.int .i32 d.1],h.set b (.iter s (pos+d.2)))
    else some (.dt [.bool false],h)
   |_=>none
  |_=>none
 |.ext x i=>
  match ρ x with
  |.dt l=>
   match l[i]? with
   |some v=>some (v,h)
   |none=>none
  |_=>none
 |.len lk x=>
  match yq lk h (ρ x)with
  |some n=>some (.int .i64 n,h)
  |none=>none
 |.yp n=>some (.int .i64 n,h)
 |.xH es x y=>
  match ρ x,cellsIn es h (ρ y)with
  |.slice b o n es',some (ys,k)=>
   if es' =es then
    if min k n=0 then some (.int .i64 0,h)
    else
     match h[b]? with
     |some (.cells c true tl)=>if o+min k n*es<=c.length then some (.int .i64 (min k n:Nat),h.set b (.cells (fq c o (ys.take (min k n*es))) true tl))else none
     |_=>none
   else none
  |.ah,some _=>some (.int .i64 0,h)
  |_,_=>none
 |.mx x l=>
  match gu nX (ρ x) (l.map ρ)with
  |some v=>some (v,h)
  |none=>none
 |.mn x l=>
  match gu nW (ρ x) (l.map ρ)with
  |some v=>some (v,h)
  |none=>none
 |_=>none
inductive uN (es w:Nat) (s y:AV) (h:af):AV->af->Prop
 |none (hy:cellsIn es h y=some ([],0)) (hs:s=.ah\/∃b o n,s=.slice b o n es):uN es w s y h s h
 |new (ys:List AV) (k:Nat) (mu:Bool) (hy:cellsIn es h y=some (ys,k)) (hk:0<k) (hb:k*w<=2^46) (hs:s=.ah):
   uN es w s y h (.slice h.length 0 k es) (h++[.cells ys mu true])
 |on (ys:List AV) (k b o n:Nat) (c:List AV) (mu:Bool) (hy:cellsIn es h y=some (ys,k)) (hk:0<k) (hb:(n+k)*w<=2^46) (hs:s=.slice b o n es)
   (hc:h[b]? =some (.cells c mu true)) (hl:o+n*es=c.length):
   uN es w s y h (.slice h.length 0 (n+k) es) (h.set b (.cells c false false)++[.cells (c.drop o++ys) false true])
 |over (ys:List AV) (k b o n:Nat) (c:List AV) (mu:Bool) (hy:cellsIn es h y=some (ys,k)) (hk:0<k) (hb:(n+k)*w<=2^46) (hs:s=.slice b o n es)
   (hc:h[b]? =some (.cells c true true)) (hl:o+n*es<=c.length):
   uN es w s y h (.slice h.length 0 (n+k) es) (h.set b .dead++[.cells ((c.drop o).take (n*es)++ys) mu true])
 |full (ys:List AV) (k b o n:Nat) (c:List AV) (hy:cellsIn es h y=some (ys,k)) (hk:0<k) (hb:(n+k)*w<=2^46) (hs:s=.slice b o n es)
   (hc:h[b]? =some (.cells c true false)) (hl:o+n*es=c.length):
   uN es w s y h (.slice h.length 0 (n+k) es) (h++[.cells (c.drop o++ys) true true])
def wrap64{n}(h0:-9223372036854775808<=n)(h1:n<9223372036854775808):IntKind.i64.wrap n=n:=by
 show(if(true&&decide (n%(18446744073709551616:Int)>=(9223372036854775808:Int)))=true then n%(18446744073709551616:Int)-18446744073709551616 else n%(18446744073709551616:Int))=n;simp only[VS,UT];split<;>omega
def zf{n}(h0:0<=n)(h1:n<256):IntKind.u8.wrap n=n:=by
 show(if(false&&decide (n%(256:Int)>=(128:Int)))=true then n%(256:Int)-256 else n%(256:Int))=n;exact HA
def wm{n}(h0:0<=n)(h1:n<18446744073709551616):IntKind.u64.wrap n=n:=by
 show(if(false&&decide (n%(18446744073709551616:Int)>=(9223372036854775808:Int)))=true then n%(18446744073709551616:Int)-18446744073709551616 else n%(18446744073709551616:Int))=n;exact HA
def ed(P:Program)(m:bH)(h:af)(w:World)(v:AV)(h':af)(r:Result Next):Prop:=
 ∃cv w' m',(r=.ok (.value cv) w'\/(r=.ok .skip w'/\cv=undef))/\VR m' v cv/\HR P m' h' w'/\Grow m h w m' h' w'
def ed.same{P m h w v cv r}(hr:HR P m h w)(hv:VR m v cv)(e:r=.ok (.value cv) w):ed P m h w v h r:=
 ⟨cv,w,m,.inl e,hv,hr,Grow.refl m h w hr.cD⟩
def iV(m:bH):VR m au undef:=⟨[],rfl,rfl⟩
theorem tN(m:bH)(n:Nat)(ih:∀v a,kL n v=some a->VR m a v):∀(l:List Value) (r:List AV),l.mapM (kL n)=some r->cw m r l
 |[],r,h=>by simp at h;subst h;exact aT.2 rfl
 |v::l,r,h=>by
  simp only[WT,Wo,W8]at h;cases hv:kL n v with
  |none=>simp[hv]at h
  |some a=>
   cases hl:l.mapM (kL n)with
   |none=>simp[hv,hl]at h
   |some r'=>
    simp[hv,hl]at h;subst h;exact aF.2 ⟨v,l,rfl,ih v a hv,tN m n ih l r' hl⟩
def oJ(m:bH):∀(n:Nat) (v:Value) (a:AV),kL n v=some a->VR m a v
 | 0,v,a,h=>by simp[kL]at h
 |n+1,v,a,h=>by
  unfold kL at h;split at h
  ·cases h;rfl
  ·cases h;rfl
  ·cases h;exact⟨_,rfl,.inl rfl⟩
  ·cases h;exact⟨_,_,rfl,.inl rfl,.inl rfl⟩
  ·cases h;rfl
  ·cases h;rfl
  ·cases h;rfl
  ·cases h;rfl
  ·cases h;rfl
  ·exact Nh
  ·exact Nh
  ·cases h
def bK{P}{t:TypeId}{n}(h:dB P t=some n)(w:World):(sizeOf t).run P w=.ok n w:=by
 unfold dB at h;cases hi:P.info? t with
 |none=>simp[hi]at h
 |some i=>simp[hi]at h;subst h;simp[sizeOf,typeInfo,hi]
def km{P}{t:TypeId}{d:TypeDesc}(h:P.underlying t=some d)(w:World):(isAgg t).run P w=.ok (iQ d) w:=by
 cases d<;>simp[isAgg,Ux h,iQ]
def tH{P}{t:TypeId}{n}(h:y7 P t=some (some n))(w:World):(isAgg t).run P w=.ok true w/\dB P t=some n:=by
 unfold y7 at h;split at h
 case h_2=>cases h
 rename_i d hu;split at h
 case isFalse=>simp at h
 rename_i hd;refine⟨by rw[km hu,hd],?_⟩;cases hi:P.info? t with
 |none=>simp[hi]at h
 |some i=>simp[hi]at h;simp[dB,hi,h]
def tI{P}{t:TypeId}(h:y7 P t=some none)(w:World):(isAgg t).run P w=.ok false w:=by
 unfold y7 at h;split at h
 case h_2=>cases h
 rename_i d hu;split at h
 case isTrue=>cases hi:P.info? t<;>simp[hi]at h
 rename_i hd;rw[km hu];simp at hd;rw[hd]
def iU{P}{t:TypeId}{z}(h:iF P t=some z)(w:World)(m:bH):∃cz,(zeroValue t).run P w=.ok cz w/\VR m z cz:=by
 unfold iF at h;cases hi:P.info? t with
 |none=>simp[hi]at h
 |some i=>
  cases hz:i.zero with
  |none=>simp[hi,hz]at h
  |some cz=>
   simp[hi,hz]at h;exact⟨cz,by simp[zeroValue,typeInfo,hi,hz],oJ m 4 cz z h⟩
section
variable {P:Program}{m:bH}{h h':af}{w:World}{v:AV}{ρ:cK->AV}{hr:HR P m h w}
def qM(hr:HR P m h w){x cx}(hx:VR m x cx)(h1:x.cells.all AV.one=true)(t:TypeId)(mu tl:Bool):
  ∃m',(newVar t cx).run P w=.ok ⟨w.heap.size,0,none⟩ (w.alloc (.cells cx.cells t))/\VR m' (.ptr h.length 0) (.pointer (some ⟨w.heap.size,0,none⟩))/\
   HR P m' (h++[.cells x.cells mu tl]) (w.alloc (.cells cx.cells t))/\Grow m h w m' (h++[.cells x.cells mu tl]) (w.alloc (.cells cx.cells t)):=by
 obtain⟨m',h0,h2,h3⟩:=j9 hr hx.cells h1 t mu tl;refine⟨m',by simp[newVar,newRow],⟨_,h0,rfl⟩,h2,h3⟩
def zP{t:TypeId}{n a ca}(hn:y7 P t=some n)(hr:HR P m h w)(ha:VR m (ρ a) ca)(hf:cV (.load n a) ρ h=some (v,h')):
  ∃cv,(Instr.loadAt t ca).run P w=.ok cv w/\VR m v cv/\h' =h:=by
 simp only[cV]at hf;split at hf
 case h_2=>cases hf
 rename_i b o hρ;rw[hρ]at ha;obtain⟨e,he,rfl⟩:=ha;split at hf
 case h_2=>cases hf
 rename_i c mu tl hb;cases n with
 |none=>
  simp only at hf;split at hf
  case h_2=>cases hf
  rename_i x hx;cases hf;obtain⟨_,cv,P4,Ok⟩:=cell_of hr he hb hx;exact⟨cv,by simp[Instr.loadAt,Instr.sureAddr,loadVar,tI hn,P4],Ok,rfl⟩
 |some n=>
  simp only at hf;split at hf
  case isFalse=>cases hf
  rename_i hle;cases hf;obtain⟨hagg,dO⟩:=tH hn w;obtain⟨vs,Ot,OI,_⟩:=ll hr he hb o n hle;exact⟨.agg ⟨vs⟩,by simp[Instr.loadAt,Instr.sureAddr,loadVar,hagg,bK dO,Ot],⟨vs,rfl,OI⟩,rfl⟩
def B1{t:TypeId}{n a x ca cx}(hn:dB P t=some n)(hr:HR P m h w)(ha:VR m (ρ a) ca)(hx:VR m (ρ x) cx)(hf:cV (.store n a x) ρ h=some (v,h')):
  ∃w',(Instr.storeAt t ca cx).run P w=.ok () w'/\v=au/\HR P m h' w'/\Grow m h w m h' w':=by
 simp only[cV]at hf;split at hf
 case h_2=>cases hf
 rename_i b o hρ;rw[hρ]at ha;obtain⟨e,he,rfl⟩:=ha;split at hf
 case h_2=>cases hf
 rename_i c tl hb;split at hf
 case isFalse=>cases hf
 rename_i hc;cases hf;obtain⟨h1,h2,h3⟩:=hc;have hcl:=hx.cells;obtain⟨w',Ot,hr',OG⟩:=na (ρ x).cells cx.cells.toList hr he hb o 0 Om h2 hcl;have hlen:cx.cells.size=n:=by have:=hcl.length;simp at this;omega
 refine⟨w',?_,rfl,hr',OG⟩;simp only[Instr.storeAt,Instr.sureAddr,storeVar,Uy,UN,Uo,bK hn];simp[hlen,Ot]
def s8(c:List Value)(o:Nat):List Value->List Value
 |[]=>c
 |x::xs=>s8 (c.set o x) (o+1) xs
theorem qz{m}:∀{xs}{vs},cw m xs vs->∀{c}{cv}(o:Nat),cw m c cv->cw m (fq c o xs) (s8 cv o vs)
 |[],vs,hx,c,cv,o,hc=>by rw[aT]at hx;subst hx;exact hc
 |x::xs,vs,hx,c,cv,o,hc=>by
  obtain⟨v,vs',rfl,hv,OI⟩:=aF.1 hx;exact qz OI (o+1) (hc.set o hv)
theorem rf(off:Nat):∀(xs:List Value) (k:Nat) (cs:Array Value),(List.foldl (λcs (p:Value×Nat)=>cs.setIfInBounds (off+p.2) p.1) cs (xs.zipIdx k)).toList=s8 cs.toList (off+k) xs
 |[],k,cs=>rfl
 |x::xs,k,cs=>by
  simp only[List.zipIdx_cons,W9,s8];rw[rf off xs (k+1)];simp[Nat.add_assoc]
theorem oD{m}(place:Nat->Option (Nat×Nat)):∀(ps:List (Nat×Value)) (qs:List (Nat×Nat×AV)) (c:List AV) (cc:Array Value) (c':List AV),
  ps.length=qs.length->(∀(i:Nat) p q,ps[i]? =some p->qs[i]? =some q->place p.1=some (q.1,q.2.1)/\VR m q.2.2 p.2)->cw m c cc.toList->dW c qs=some c'->
  ∃OY,Instr.fill place cc ps=some OY/\cw m c' OY.toList
 |[],[],c,cc,c',_,_,hc,hf=>by simp[dW]at hf;subst hf;exact⟨cc,rfl,hc⟩
 |[],q::qs,c,cc,c',hl,_,_,_=>by simp at hl
 |p::ps,[],c,cc,c',hl,_,_,_=>by simp at hl
 |(i,x)::ps,(off,n,y)::qs,c,cc,c',hl,hp,hc,hf=>by
  obtain⟨QM,hxy⟩:=hp 0 (i,x) (off,n,y) Si Si;simp only at QM hxy;simp only[dW]at hf;split at hf
  case isFalse=>cases hf
  rename_i OF;obtain⟨hlen,hle⟩:=OF;have hcells:=hxy.cells;have dO:x.cells.size=n:=by have:=hcells.length;simp at this;omega
  have Qp:cc.size=c.length:=by have:=hc.length;simpa using this
  have hfold:(x.cells.zipIdx.foldl (λcs (p:Value×Nat)=>cs.setIfInBounds (off+p.2) p.1) cc).toList=s8 cc.toList off x.cells.toList:=by
   rw[<-Array.foldl_toList];have:=rf off x.cells.toList 0 cc
   simpa using this
  obtain⟨OY,h1,h2⟩:=oD place ps qs (fq c off y.cells) (x.cells.zipIdx.foldl (λcs (p:Value×Nat)=>cs.setIfInBounds (off+p.2) p.1) cc) c' (by simpa using hl)
   (λj p q hj hq=>hp (j+1) p q (by simpa using hj) (by simpa using hq)) (by rw[hfold];exact qz hcells off hc) hf
  refine⟨OY,?_,h2⟩;simp only[Instr.fill,QM];rw[Ur (by simp;omega)];exact h1
theorem om{P}{t:TypeId}:∀{ps}{l},kF P t ps=some l->ps.length=l.length/\
  ∀(i:Nat) p q,ps[i]? =some p->l[i]? =some q->iH P t p.1=some (q.1,q.2.1)/\cJ p.2=some q.2.2
 |[],l,h=>by simp[kF]at h;subst h;exact⟨rfl,λi p q hp=>by simp at hp⟩
 |(i,x)::ps,l,h=>by
  simp only[kF]at h;split at h
  case h_2=>cases h
  rename_i off n y r h1 h2 h3;cases h;obtain⟨hl,hp⟩:=om h3;refine⟨by simp[hl],λj p q hj hq=>?_⟩;cases j with
  |zero=>simp at hj hq;subst hj;subst hq;exact⟨h1,h2⟩
  |succ j=>exact hp j p q (by simpa using hj) (by simpa using hq)
def Bg{t:TypeId}{z:AV}{ps:List (Nat×Value)}{cz:Value}{OY:Array Value}(hz:(P.info? t).bind (·.zero)=some cz)(hp:lU P t=true)(hf:Instr.fill (iH P t) cz.cells ps=some OY):
  P.built t ps=some OY:=by
 unfold Program.built;cases hi:P.info? t with
 |none=>simp[hi]at hz
 |some it=>
  simp[hi]at hz;unfold lU at hp;split at hp
  ·rename_i fs hu;obtain⟨places,hpls⟩:=Option.isSome_iff_exists.1 hp;have QM:iH P t=λi=>places[i]? :=by
    funext i;simp only[iH,hu,hpls]
   rw[QM]at hf;simp only[hu,hz,hpls]
   simpa using hf
  ·rename_i n e hu;obtain⟨ie,hie⟩:=Option.isSome_iff_exists.1 hp;have QM:iH P t=λi=>some (i*ie.size,ie.size):=by
    funext i;simp only[iH,hu,hie];rfl
   rw[QM]at hf;simp only[hu,hz,hie];exact hf
  ·cases hp
def B4{t:TypeId}{z:AV}{ps:Array (Nat×Operand)}{l:List (Nat×Nat×cK)}{σ:Operand->Value}(hz:iF P t=some z)(hl:kF P t ps.toList=some l)(hp:lU P t=true)
  (hρ:∀p∈ps.toList,∀y,cJ p.2=some y->VR m (ρ y) (σ p.2)) (hf:cV (.build z.cells l) ρ h=some (v,h')):
  ∃cv,(Instr.build t (ps.map λ(i,x)=>(i,σ x))).run P w=.ok cv w/\VR m v cv/\h' =h:=by
 simp only[cV]at hf;split at hf
 case h_2=>cases hf
 rename_i c hc;cases hf;obtain⟨hlen,hpq⟩:=om hl;have Tz:∃cz,(P.info? t).bind (·.zero)=some cz/\VR m z cz:=by
  unfold iF at hz;cases hi:P.info? t with
  |none=>simp[hi]at hz
  |some i=>
   cases hzz:i.zero with
   |none=>simp[hi,hzz]at hz
   |some cz=>simp[hi,hzz]at hz;exact⟨cz,by simp[hzz],oJ m 4 cz z hz⟩
 obtain⟨cz,QF,Q7⟩:=Tz;obtain⟨OY,Pr,OI⟩:=oD (m:=m) (iH P t) (ps.toList.map λp=>(p.1,σ p.2)) (l.map λp=>(p.1,p.2.1,ρ p.2.2)) z.cells cz.cells c (by simp[hlen])
  (λi p q SS hq=>by
   simp only[Vw,Uz]at SS hq;obtain⟨p0,hp0,rfl⟩:=SS;obtain⟨q0,hq0,rfl⟩:=hq;obtain⟨h1,h2⟩:=hpq i p0 q0 hp0 hq0;exact⟨h1,hρ p0 (U5 hp0) _ h2⟩) Q7.cells hc
 refine⟨.agg OY,run_build w t _ OY ?_,⟨OY.toList,rfl,OI⟩,rfl⟩;have:=Bg (z:=z) QF hp Pr
 simpa using this
def zO{t:TypeId}{n off l l'}(hn:y7 P t=some n)(hl:cw m l l')
  (hf:(match n with|none=>(match l[off]? with|some v=>some (v,h)|none=>none)|some n=>some (.agg ((l.drop off).take n),h))=some (v,h')):
  ∃cv,(part t ⟨l'⟩ off).run P w=.ok cv w/\VR m v cv/\h' =h:=by
 cases n with
 |none=>
  simp only at hf;split at hf
  case h_2=>cases hf
  rename_i x hx;cases hf;obtain⟨cv,P4,Ok⟩:=hl.get hx;exact⟨cv,by simp[part,tI hn,P4],Ok,rfl⟩
 |some n=>
  cases hf;obtain⟨h1,h2⟩:=tH hn w;refine⟨.agg ⟨(l'.drop off).take n⟩,?_,⟨_,rfl,(hl.drop off).take n⟩,rfl⟩;simp only[part,Uy,h1,Uo,UD,bK h2,UN];simp[List.extract_eq_take_drop]
end
section
variable {P:Program}{m:bH}{h h':af}{w:World}
def vk{op k a b v}(hs:ec op=false)(hf:fw op k a b=some v)(t:TypeId):
  ∃cv,(binOp op t (.int k a) (.int k b)).run P w=.ok cv w/\VR m v cv:=by
 cases op<;>simp only[fw,ec]at hf hs<;>first
  |(cases hs;done)
  |(cases hf;done)
  |skip
 all_goals first
  |(cases hf;exact⟨_,by simp[binOp,Op.intArith,Op.intBits,Op.intCmp],rfl⟩)
  |(split at hf
    ·cases hf
    ·rename_i hb;cases hf;exact⟨_,by simp[binOp,Op.intDiv,hb],rfl⟩)
def vi{op k k' a b v}(hs:ec op=true)(hf:vd op k a b=some v)(t:TypeId):
  ∃cv,(binOp op t (.int k a) (.int k' b)).run P w=.ok cv w/\VR m v cv:=by
 unfold vd at hf;split at hf
 ·cases hf
 ·rename_i hb;cases op<;>first
   |(cases hs;done)
   |(cases hf;exact⟨_,by simp[binOp,Op.shift,hb],rfl⟩)
def toList_mk(l:By):(⟨⟨l⟩⟩:ByteArray).toList=l:=by rw[ByteArray.toList_eq]
def yM(a b:By):(⟨⟨a⟩⟩:ByteArray)++⟨⟨b⟩⟩=⟨⟨a++b⟩⟩:=by
 apply ByteArray.ext
 rw[ByteArray.data_append];simp
def vh{op a b v}(hf:o6 op a b=some v)(t:TypeId):
  ∃cv,(binOp op t (.string ⟨⟨a⟩⟩) (.string ⟨⟨b⟩⟩)).run P w=.ok cv w/\VR m v cv:=by
 cases op<;>simp only[o6]at hf<;>first
  |(cases hf;done)
  |skip
 all_goals first
  |(cases hf;exact⟨_,by simp[binOp,Op.stringOp,toList_mk],rfl⟩)
  |(split at hf
    ·rename_i hlen;cases hf;refine⟨.string ⟨⟨a++b⟩⟩,?_,rfl⟩;have hn:¬(IntKind.i64.max<(((⟨⟨a⟩⟩:ByteArray).size+(⟨⟨b⟩⟩:ByteArray).size:Nat):Int)):=by
      show ¬((9223372036854775807:Int)<((a.length+b.length:Nat):Int));omega
     simp only[binOp,Op.stringOp,GT.gt,Ur hn,yM,UN]
    ·cases hf)
def B5{op x v cx}(hx:VR m x cx)(hf:uW op x=some v):∃cv,(Op.unary op cx).run P w=.ok cv w/\VR m v cv:=by
 cases x with
 |int k n=>
  rw[VR]at hx;subst hx;cases op with
  |neg=>simp only[uW,UG]at hf;subst hf;exact⟨_,rfl,rfl⟩
  |xor=>simp only[uW,fw,UG]at hf;subst hf;exact⟨_,rfl,rfl⟩
  |not=>simp[uW]at hf
  |plus=>simp[uW]at hf
 |bool b=>
  rw[VR]at hx;subst hx;cases op<;>simp only[uW]at hf<;>first
   |(cases hf;done)
   |(cases hf;exact⟨_,by simp[Op.unary],rfl⟩)
 |_=>cases op<;>simp[uW]at hf
def pf{t:TypeId}{k}(ht:match k with|.b=>P.underlying t=some .bool|.i=>∃k,P.underlying t=some (.int k)|.s=>P.underlying t=some .string)
  {x y}{cx cy}{b}(hx:VR m x cx) (hy:VR m y cy) (hf:cR k x y=some b) (d:Nat):(Op.equalIn (d+1) t cx cy).run P w=.ok b w:=by
 unfold cR at hf;split at hf
 ·rw[VR]at hx hy;subst hx;subst hy;cases hf;exact run_equalIn_bool' w d t _ _ ht
 ·split at hf
  ·rename_i hk;rw[VR]at hx hy;subst hx;subst hy;subst hk;cases hf;obtain⟨k',hu⟩:=ht;exact run_equalIn_int w d t _ k' _ _ hu
  ·cases hf
 ·rw[VR]at hx hy;subst hx;subst hy;cases hf;rw[run_equalIn_string w d t _ _ ht,toList_mk,toList_mk]
 ·cases hf
theorem iz:∀(ks ks':List CK) (xs ys xs' ys':List AV) (b:Bool),xs.length=ks.length->ys.length=ks.length->c8 (ks++ks') (xs++xs') (ys++ys')=some b->
  (∃c,c8 ks xs ys=some c/\((c=true/\c8 ks' xs' ys' =some b)\/(c=false/\b=false)))
 |[],ks',[],[],xs',ys',b,_,_,h=>⟨true,rfl,.inl ⟨rfl,h⟩⟩
 |k::ks,ks',x::xs,y::ys,xs',ys',b,hx,hy,h=>by
  simp only[Vp,c8]at h ⊢;cases hc:cR k x y with
  |none=>simp[hc]at h
  |some c=>
   cases c with
   |false=>simp[hc]at h;subst h;exact⟨false,Si,.inr ⟨rfl,rfl⟩⟩
   |true=>
    simp only[hc]at h;obtain⟨c,h1,h2⟩:=iz ks ks' xs ys xs' ys' b (by simpa using hx) (by simpa using hy) h;exact⟨c,by simpa using h1,h2⟩
 |[],_,_::_,_,_,_,_,h,_,_=>by simp at h
 |[],_,_,_::_,_,_,_,_,h,_=>by simp at h
 |_::_,_,[],_,_,_,_,h,_,_=>by simp at h
 |_::_,_,_,[],_,_,_,_,h,_=>by simp at h
def gP(d:TypeDesc)(l:List Value):Value:=if iQ d then .agg ⟨l⟩else l.headD default
def lP{t:TypeId}{d:TypeDesc}{n}(hd:P.underlying t=some d)(hn:dB P t=some n)(h1:iQ d=false->n=1){l off}(hl:off+n<=l.length):
  (part t ⟨l⟩ off).run P w=.ok (gP d ((l.drop off).take n)) w:=by
 unfold gP;cases ha:iQ d with
 |true=>
  simp only[part,Uy,km hd,ha,Uo,UD,bK hn,UN];simp[List.extract_eq_take_drop]
 |false=>
  have:=h1 ha;subst this;have hlt:off<l.length:=Om
  simp only[part,Uy,km hd,ha,Uo];have e:(l.drop off).take 1=[l[off]]:=by
   rw[VC hlt,VY,Wf]
  simp[e,hlt]
def rh{d}{t:TypeId}{ks}(hf:flat P d t=some ks):∃ds,P.underlying t=some ds/\(iQ ds=false->ks.length=1):=by
 cases d with
 |zero=>simp[flat]at hf
 |succ d=>
  unfold flat at hf;split at hf
  ·exact z105
  ·exact z105
  ·exact z105
  ·rename_i hu;exact⟨_,hu,λh=>by cases h⟩
  ·rename_i hu;exact⟨_,hu,λh=>by cases h⟩
  ·cases hf
def ob{t:TypeId}{fs}(hu:P.underlying t=some (.struct fs)):P.fieldsOf t=fs:=by simp[Program.fieldsOf,hu]
def zR:∀(d:Nat) (t:TypeId) (ks:List CK),flat P d t=some ks->∀(D:Nat),d<=D->∀(ds:TypeDesc),P.underlying t=some ds->
  ∀(xs ys:List AV) (vx vy:List Value) (b:Bool),xs.length=ks.length->ys.length=ks.length->cw m xs vx->cw m ys vy->c8 ks xs ys=some b->
  ∀w:World,(Op.equalIn D t (gP ds vx) (gP ds vy)).run P w=.ok b w:=by
 intro d
 induction d with
 |zero=>intro t ks hf;simp[flat]at hf
 |succ d ih=>
  intro t ks hf D hD ds Rf xs ys vx vy b QO QN hx hy he w;obtain⟨D,rfl⟩:∃D',D=D'+1:=⟨D-1,Om⟩;have hone:∀{k:CK},ks=[k]->iQ ds=false->(match k with|.b=>P.underlying t=some .bool|.i=>∃k,P.underlying t=some (.int k)|.s=>P.underlying t=some .string)->(Op.equalIn (D+1) t (gP ds vx) (gP ds vy)).run P w=.ok b w:=by
   intro k hk hd ht;subst hk
   match xs,ys,QO,QN with
   |[x],[y],_,_=>
    obtain⟨cx,_,rfl,Sx,h2⟩:=aF.1 hx;obtain⟨cy,_,rfl,hcy,h3⟩:=aF.1 hy;rw[aT]at h2 h3;subst h2;subst h3;simp only[c8]at he;have Pd:cR k x y=some b:=by
     cases hc:cR k x y with
     |none=>simp[hc]at he
     |some c=>cases c<;>simp[hc]at he<;>simp[he]
    simp only[gP,hd,List.headD_cons,U3,UC];exact pf ht Sx hcy Pd D
  unfold flat at hf;split at hf
  ·exact HG
  ·rename_i hu;rw[hu]at Rf;cases Rf;cases hf;exact hone rfl rfl ⟨_,hu⟩
  ·exact HG
  ·rename_i fs hu;rw[hu]at Rf;cases Rf;split at hf
   case isFalse=>cases hf
   rename_i bE;simp only[gP,iQ,UD];rw[run_equalIn_struct w D t ⟨vx⟩ ⟨vy⟩ (by rw[ob hu];exact hu) bE,ob hu];have key:∀(fl:List Field) (off:Nat) (ks:List CK) (xs ys:List AV) (b:Bool),uv P (flat P d) fl off=some ks->xs.length=ks.length->ys.length=ks.length->
     cw m xs (vx.drop off)->cw m ys (vy.drop off)->c8 ks xs ys=some b->(Op.eqFields D ⟨vx⟩ ⟨vy⟩ fl).run P w=.ok b w:=by
    intro fl
    induction fl with
    |nil=>
     intro off ks xs ys b O1 QO QN hx hy he;simp only[uv,UG]at O1;subst O1
     match xs,ys,QO,QN with
     |[],[],_,_=>cases he;rfl
    |cons f fl ihf=>
     intro off ks xs ys b O1 QO QN hx hy he;simp only[uv]at O1;split at O1
     case h_2=>cases O1
     rename_i k1 i hk1 hi;split at O1
     case isFalse=>cases O1
     rename_i OF;obtain⟨hname,hoff,dO,hpos⟩:=OF;split at O1
     case h_2=>cases O1
     rename_i k2 Oi;cases O1;subst hoff;obtain⟨ds',QC,h1'⟩:=rh hk1;have OS:dB P f.type=some k1.length:=by simp[dB,hi,dO]
     have TT:xs=xs.take k1.length++xs.drop k1.length:=(U8 _ _).symm;have TR:ys=ys.take k1.length++ys.drop k1.length:=(U8 _ _).symm;simp only[Ud]at QO QN;rw[TT,TR]at he;obtain⟨c,hc1,S7⟩:=iz k1 k2 _ _ _ _ b (by simp;omega) (by simp;omega) he;have QV:f.offset+k1.length<=vx.length:=by have:=hx.length;simp at this;omega
     have hvy:f.offset+k1.length<=vy.length:=by have:=hy.length;simp at this;omega
     simp only[Op.eqFields,Ut hname,Uy,lP QC OS (λh=>h1' h) QV,lP QC OS (λh=>h1' h) hvy,Uo];rw[ih f.type k1 hk1 D Om ds' QC _ _ _ _ c (by simp;omega) (by simp;omega) (hx.take k1.length) (hy.take k1.length) hc1 w];rcases S7 with⟨rfl,hr⟩|⟨rfl,rfl⟩
     ·simp only[Uo,UA,U3,UC];exact ihf (f.offset+k1.length) k2 _ _ b Oi (by simp;omega) (by simp;omega) (by have:=hx.drop k1.length;rwa [VH]at this) (by have:=hy.drop k1.length;rwa [VH]at this) hr
     ·simp
   exact key fs.toList 0 ks xs ys b hf QO QN (by simpa using hx) (by simpa using hy) he
  ·rename_i len e hu;rw[hu]at Rf;cases Rf;split at hf
   case h_2=>cases hf
   rename_i k1 i hk1 hi;split at hf
   case isFalse=>cases hf
   rename_i OF;obtain⟨dO,hpos⟩:=OF;cases hf;obtain⟨ds',QC,h1'⟩:=rh hk1;have OS:dB P e=some k1.length:=by simp[dB,hi,dO]
   simp only[gP,iQ,UD];have key:∀(n j:Nat) (xs ys:List AV) (b:Bool),j+n=len->xs.length=(List.replicate n k1).flatten.length->ys.length=(List.replicate n k1).flatten.length->
     cw m xs (vx.drop (j*k1.length))->cw m ys (vy.drop (j*k1.length))->c8 (List.replicate n k1).flatten xs ys=some b->
     (forIn (m:=Sem) (List.range' j n) ((none,()):Option Bool×Unit) λ(i:Nat) (_:Option Bool×Unit)=>do
      let a <-part e ⟨vx⟩ (i*k1.length)
      let c <-part e ⟨vy⟩ (i*k1.length)
      let r <-Op.equalIn D e a c
      if(!r)=true then pure (ForInStep.done (some false,()))else pure (ForInStep.yield (none,()))).run P w=.ok (if b then(none,())else(some false,())) w:=by
    intro n
    induction n with
    |zero=>
     intro j xs ys b _ QO QN _ _ he;simp only[WX,List.flatten_nil,Ul]at QO QN he
     match xs,ys,QO,QN with
     |[],[],_,_=>cases he;rfl
    |succ n ihn=>
     intro j xs ys b hj QO QN hx hy he;simp only[VT,Vj,Ud]at QO QN he;have TT:xs=xs.take k1.length++xs.drop k1.length:=(U8 _ _).symm;have TR:ys=ys.take k1.length++ys.drop k1.length:=(U8 _ _).symm;rw[TT,TR]at he;obtain⟨c,hc1,S7⟩:=iz k1 _ _ _ _ _ b (by simp;omega) (by simp;omega) he;have QV:j*k1.length+k1.length<=vx.length:=by have:=hx.length;simp at this;omega
     have hvy:j*k1.length+k1.length<=vy.length:=by have:=hy.length;simp at this;omega
     simp only[List.range'_succ,List.forIn_cons,Uy,lP QC OS (λh=>h1' h) QV,lP QC OS (λh=>h1' h) hvy,Uo];rw[ih e k1 hk1 D Om ds' QC _ _ _ _ c (by simp;omega) (by simp;omega) (hx.take k1.length) (hy.take k1.length) hc1 w];rcases S7 with⟨rfl,hr⟩|⟨rfl,rfl⟩
     ·simp only[Uo,UA,U3,UC,UN];exact ihn (j+1) _ _ b Om (by rw[VB];omega) (by rw[VB];omega) (by have:=hx.drop k1.length;rw[VH]at this;rwa [Vv]) (by have:=hy.drop k1.length;rw[VH]at this;rwa [Vv]) hr
     ·simp
   have hk:=key len 0 xs ys b Om QO QN (by simpa using hx) (by simpa using hy) he;simp only[Op.equalIn,Uy,Ux hu,Uo,bK OS,Std.Legacy.Range.forIn_eq_forIn_range',Std.Legacy.Range.size];simp only[Nat.sub_zero,Nat.add_one_sub_one,Nat.div_one];rw[hk];cases b<;>rfl
  ·cases hf
end
def mT(m:bH)(ρ:cK->AV):Option cK->Option Value->Prop
 |none,none=>True
 |some x,some cx=>VR m (ρ x) cx
 |_,_=>False
section
variable {P:Program}{m:bH}{h h':af}{w:World}{ρ:cK->AV}{v:AV}
def eS{t e:TypeId}{i:TypeInfo}(hs:dD P t=some (e,i)):P.underlying t=some (.slice e)/\P.info? e=some i:=by
 unfold dD at hs;split at hs
 ·rename_i e' hu;cases hi:P.info? e' with
  |none=>simp[hi]at hs
  |some i'=>simp[hi]at hs;obtain⟨rfl,rfl⟩:=hs;exact⟨hu,hi⟩
 ·cases hs
def iE(n:Nat)(z:List AV):(du n z).length=n*z.length:=by simp[du]
def qo{z:List AV}{cz:Array Value}(hz:cw m z cz.toList)(hpos:0<z.length)(n k:Nat)(hk:k<=n):
  cw m (du k z) (((Array.range (n*cz.size)).map (cz[·% cz.size]!)).toList.take (k*z.length)):=by
 have dO:cz.size=z.length:=by have:=hz.length;simpa using this
 refine cw.gf ?_ ?_
 ·rw[iE];simp[dO,V5 hk]
 ·intro i x hx;have hi:i<k*z.length:=by have:=(Ue.1 hx).1;rw[iE]at this;exact this
  have hmod:i%z.length<z.length:=Nat.mod_lt _ hpos;have Ov:(du k z)[i]? =z[i%z.length]? :=by
   clear hx hk;unfold du
   induction k generalizing i with
   |zero=>omega
   |succ k ih=>
    rw[VT,Vj];by_cases hlt:i<z.length
    ·rw[Ug hlt,Nat.mod_eq_of_lt hlt]
    ·rw[Un Om,ih (i-z.length) (by rw[Vv]at hi;omega) (Nat.mod_lt _ hpos)];congr 1;rw[<-Nat.mod_eq_sub_mod Om]
  rw[Ov]at hx;obtain⟨y,hy,hr⟩:=hz.get hx;refine⟨y,?_,hr⟩;have hin:i<n*z.length:=Vg hi (Vf _ hk);rw[Wi hi,VE,Array.getElem?_map,Array.getElem?_range,dO,Ut hin];simp only[V6,UG];rw[getElem!_pos cz _ Om];have:=(Ue.1 hy).2
  simpa using this
def zb{z}(hz:z.all AV.one=true)(n:Nat):(du n z).all AV.one=true:=by
 rw[UJ]at hz ⊢;intro x hx;simp only[du,List.mem_flatten,List.mem_replicate]at hx;obtain⟨l,⟨_,rfl⟩,hx⟩:=hx;exact hz x hx
def Fs{t e:TypeId}{i:TypeInfo}{z:AV}{l c:cK}{cl cc:Value}(hs:dD P t=some (e,i))(hz:iF P e=some z)(hpos:0<i.size)(hzl:z.cells.length=i.size)(h1:z.cells.all AV.one=true)
  (hr:HR P m h w) (hl:VR m (ρ l) cl) (hc:VR m (ρ c) cc) (hf:cV (.tL i.size i.bytes z.cells l c) ρ h=some (v,h')):
  ∃cv w' m',(Instr.makeSlice t cl cc).run P w=.ok cv w'/\VR m' v cv/\HR P m' h' w'/\Grow m h w m' h' w':=by
 obtain⟨hu,hi⟩:=eS hs;simp only[cV]at hf;split at hf
 case h_2=>cases hf
 rename_i kl l' kc c' hρl hρc;rw[hρl,VR]at hl;rw[hρc,VR]at hc;subst hl;subst hc;split at hf
 case isFalse=>cases hf
 rename_i OF;obtain⟨h0,hlc,hb,hc63⟩:=OF;cases hf;obtain⟨cz,QF,Q7⟩:=iU hz w m;have hzc:=Q7.cells;obtain⟨n,rfl⟩:=Int.eq_ofNat_of_zero_le (Int.le_trans h0 hlc);obtain⟨k,rfl⟩:=Int.eq_ofNat_of_zero_le h0;have hkn:k<=n:=Om
 have hwl:IntKind.i64.wrap (k:Int)=k:=wrap64 Om Om;have hwc:IntKind.i64.wrap (n:Int)=n:=wrap64 Om Om;have dO:cz.cells.size=z.cells.length:=by have:=hzc.length;simpa using this
 let row:Array Value:=(Array.range (n*cz.cells.size)).map (cz.cells[·% cz.cells.size]!)
 have hrow:cw m (du k z.cells) (row.toList.take (k*z.cells.length)):=qo hzc Om n k hkn;have hrs:row.size=n*i.size:=by simp[row,dO,hzl]
 let e':qn:=⟨w.heap.size,0,row.size,true⟩
 have RQ:=jn hr (.cells row e) (.cells (du k z.cells) true true) e' rfl rfl (λm' hm=>by
  refine⟨row,e,(0,0),World.alloc_heap_new w _,⟨?_,?_,rfl⟩,?_,λ_=>⟨rfl,λi _=>by simp⟩,λ_=>⟨rfl,λx=>by cases x⟩⟩
  ·exact MW
  ·exact MW
  ·intro j x hx;obtain⟨y,hy,Ok⟩:=hrow.get hx;have hj:j<k*z.cells.length:=by have:=(Ue.1 hx).1;rw[iE]at this;exact this
   rw[Wi hj]at hy;refine⟨UJ.1 (zb h1 k) x (U5 hx),y,?_,VR.mono hm _ _ Ok⟩;show row[0+j]? =some y;rw[UX,<-VE];exact hy)
 refine⟨.slice (some ⟨w.heap.size,0,none⟩) k n,w.alloc (.cells row e),m.add h.length e',?_,⟨e',⟨w.heap.size,0,none⟩,n,by simp[bH.add],rfl,hkn,λ_=>rfl,?_⟩,RQ.1,RQ.2⟩
 ·have OC:(sizeOf e).run P w=.ok i.size w:=bK (by simp[dB,hi]) w;have Qe:¬((i.bytes:Int)*n > 2^48):=Om
  have RH:(typeInfo e).run P w=.ok i w:=by simp[typeInfo,hi]
  have TO:¬((n:Int)<0):=Om
  have hk0:¬((k:Int)<0):=Om
  have hkn':¬((k:Int)> (n:Int)):=Om
  simp only[Instr.makeSlice,Uy,Ux hu,Uo,asInt,asIntOf,UN,RH,hwl,hwc,TO,hk0,hkn',Qe];simp only[Va,Bool.or_self,U3,UC,run_askRoom,Uo,OC,Int.toNat_natCast,Uy,Sem.run_ite,UN,QF];by_cases Tz:n*i.size=0
  ·simp only[Tz,UD,Uo,newRow,run_newObj,Uy,UN];have:row=#[]:=by apply Array.eq_empty_of_size_eq_zero;omega
   have e0:(Array.range 0).map (λx=>(#[] :Array Value)[x%(#[] :Array Value).size]!)=#[]:=Si
   rw[this,e0];rfl
  ·simp only[Tz,UC,Uo,newRow,run_newObj,Uy,UN];have:row=(Array.range (n*i.size)).map (cz.cells[·% cz.cells.size]!):=by show(Array.range (n*cz.cells.size)).map _=_;rw[dO,hzl]
   rw[this];rfl
 ·show 0+0+n*i.size<=row.size;omega
def kG{lo hi}{n l u:Nat}(hb:gx lo hi n=some (l,u)):l<=u/\u<=n/\EB lo=some (l:Int)/\CW n hi=some (u:Int):=by
 unfold gx at hb;split at hb
 case h_2=>cases hb
 rename_i a b ha hb';split at hb
 case isFalse=>cases hb
 rename_i hc;obtain⟨h0,h1,h2⟩:=hc;simp only[UG,WH]at hb;obtain⟨rfl,rfl⟩:=hb;exact⟨Om,Om,by rw[ha];congr 1;omega,by rw[hb'];congr 1;omega⟩
def fD{lo hi Q3 QK}(hlo:mT m ρ lo Q3)
  (hhi:mT m ρ hi QK) {n l u}(hb:gx (lo.map ρ) (hi.map ρ) n=some (l,u)) (isSlice:Bool) (cap:Nat) (hcap:n<=cap):
  (Instr.sliceBounds isSlice n cap Q3 QK none).run P w=.ok (l,u,cap) w:=by
 obtain⟨So,hun,h1,h2⟩:=kG hb;have hh:∀(x:cK) (cx:Value),VR m (ρ x) cx->CW n (some (ρ x))=some (u:Int)->∃k,cx=.int k u:=by
  intro x cx hx hu;cases hρ:ρ x<;>simp[CW,hρ]at hu;subst hu;rw[hρ,VR]at hx;exact⟨_,hx⟩
 have hl:∀(x:cK) (cx:Value),VR m (ρ x) cx->EB (some (ρ x))=some (l:Int)->∃k,cx=.int k l:=by
  intro x cx hx hu;cases hρ:ρ x<;>simp[EB,hρ]at hu;subst hu;rw[hρ,VR]at hx;exact⟨_,hx⟩
 have hcu:(u:Int)<=cap:=Om
 have hlu':(l:Int)<=u:=Om
 have hbu:∀(k:IntKind) (code:BoundsCode) (w:World),(Instr.sliceBound (.int k u) cap code).run P w=.ok u w:=by
  intro k code w;simp[Instr.sliceBound,asIntOf,hcu]<;>omega
 have hbl:∀(k:IntKind) (code:BoundsCode) (w:World),(Instr.sliceBound (.int k l) u code).run P w=.ok l w:=by
  intro k code w;simp[Instr.sliceBound,asIntOf]<;>omega
 cases lo with
 |none=>
  cases Q3 with
  |some _=>exact hlo.elim
  |none=>
   simp only[Wz,EB,UG]at h1;cases hi with
   |none=>
    cases QK with
    |some _=>exact hhi.elim
    |none=>
     simp only[Wz,CW,UG]at h2;have hn:u=n:=Om
     have hl0:l=0:=Om
     subst hn;subst hl0;simp[Instr.sliceBounds]
   |some y=>
    cases QK with
    |none=>exact hhi.elim
    |some cy=>
     obtain⟨k,rfl⟩:=hh y cy hhi h2;have hl0:l=0:=Om
     subst hl0;simp[Instr.sliceBounds,hbu]
 |some x=>
  cases Q3 with
  |none=>exact hlo.elim
  |some cx=>
   obtain⟨kx,rfl⟩:=hl x cx hlo h1;cases hi with
   |none=>
    cases QK with
    |some _=>exact hhi.elim
    |none=>
     simp only[Wz,CW,UG]at h2;have hn:u=n:=Om
     subst hn;simp[Instr.sliceBounds,hbl]
   |some y=>
    cases QK with
    |none=>exact hhi.elim
    |some cy=>
     obtain⟨k,rfl⟩:=hh y cy hhi h2;simp[Instr.sliceBounds,hbu,hbl]
def extract_mk(s:By)(l u:Nat):(⟨⟨s⟩⟩:ByteArray).extract l u=⟨⟨(s.drop l).take (u-l)⟩⟩:=by
 apply ByteArray.ext
 simp[ByteArray.data_extract,List.extract_eq_take_drop]
def K2{t:TypeId}{es x lo hi cx Q3 QK}{e:TypeId}(hu:P.underlying t=some (.slice e))(hes:dB P e=some es)
  (hx:VR m (ρ x) cx) (hlo:mT m ρ lo Q3)
  (hhi:mT m ρ hi QK) (hf:cV (.sl es x lo hi) ρ h=some (v,h')):
  ∃cv,(Instr.sliceAt t cx Q3 QK none).run P w=.ok cv w/\VR m v cv/\h' =h:=by
 simp only[cV]at hf;split at hf
 ·rename_i b o n es' hρ;rw[hρ]at hx;obtain⟨en,ca,cap,OQ,rfl,OL,OW,hroom⟩:=hx;split at hf
  case isFalse=>cases hf
  rename_i hees;subst hees;split at hf
  case h_2=>cases hf
  rename_i l u hb;cases hf;obtain⟨So,hun,_,_⟩:=kG hb;refine⟨.slice (some (if cap=l then ca else ca.add (l*es'))) (u-l) (cap-l),?_,⟨en,_,cap-l,OQ,rfl,Om,?_,?_⟩,rfl⟩
  ·simp only[Instr.sliceAt,Uy,Ux hu,Uo,Instr.slice,fD hlo hhi hb true cap OL,bK hes,UN];by_cases hcl:cap=l<;>simp[hcl]
  ·intro hpos;rw[Ur Om,OW Om,fV];simp only[Addr.mk.injEq,Xc,and_true];omega
  ·have:cap=l+(cap-l):=Om
   rw[this,Wm]at hroom;omega
 ·rename_i hρ;rw[hρ,VR]at hx;subst hx;split at hf
  case h_2=>cases hf
  rename_i p hb;obtain⟨l,u⟩:=p;cases hf;obtain⟨So,hun,_,_⟩:=kG hb;have hl0:l=0:=Om
  have Q8:u=0:=Om
  subst hl0;subst Q8;refine⟨.slice none 0 0,?_,rfl,rfl⟩;simp only[Instr.sliceAt,Uy,Ux hu,Uo,Instr.slice,fD hlo hhi hb true 0 (Uq _),bK hes,UN];simp
 ·cases hf
def Iy{t:TypeId}{x lo hi cx Q3 QK}(hu:P.underlying t=some .string)
  (hx:VR m (ρ x) cx) (hlo:mT m ρ lo Q3)
  (hhi:mT m ρ hi QK) (hf:cV (.Fk x lo hi) ρ h=some (v,h')):
  ∃cv,(Instr.sliceAt t cx Q3 QK none).run P w=.ok cv w/\VR m v cv/\h' =h:=by
 simp only[cV]at hf;split at hf
 case h_2=>cases hf
 rename_i s hρ;rw[hρ,VR]at hx;subst hx;split at hf
 case h_2=>cases hf
 rename_i l u hb;cases hf;refine⟨.string ((⟨⟨s⟩⟩:ByteArray).extract l u),?_,by rw[extract_mk];rfl,rfl⟩;have hs:(⟨⟨s⟩⟩:ByteArray).size=s.length:=rfl;simp only[Instr.sliceAt,Uy,Ux hu,Uo,Instr.slice];simp[hs,fD hlo hhi hb false s.length (Uq _)]
def Iz{t:TypeId}{k es x lo hi cx Q3 QK}{e:TypeId}(hu:P.underlying t=some (.array k e))(hes:dB P e=some es)(hr:HR P m h w)
  (hx:VR m (ρ x) cx) (hlo:mT m ρ lo Q3)
  (hhi:mT m ρ hi QK) (hf:cV (.Ko k es x lo hi) ρ h=some (v,h')):
  ∃cv,(Instr.sliceAt t cx Q3 QK none).run P w=.ok cv w/\VR m v cv/\h' =h:=by
 simp only[cV]at hf;split at hf
 case h_2=>cases hf
 rename_i b o hρ;rw[hρ]at hx;obtain⟨en,OQ,rfl⟩:=hx;split at hf
 case h_2=>cases hf
 rename_i c mu tl hbk;split at hf
 case isFalse=>cases hf
 rename_i hle;split at hf
 case h_2=>cases hf
 rename_i l u hb;cases hf;obtain⟨So,hun,_,_⟩:=kG hb;obtain⟨_,_,_,_,⟨_,dO⟩,_⟩:=hr.dU b en _ OQ hbk;refine⟨.slice (some (if k=l then⟨en.cb,o+en.d,none⟩else(⟨en.cb,o+en.d,none⟩:Addr).add (l*es))) (u-l) (k-l),?_,⟨en,_,k-l,OQ,rfl,Om,?_,?_⟩,rfl⟩
 ·simp only[Instr.sliceAt,Uy,Ux hu,Uo,Instr.sureAddr,UN,fD hlo hhi hb false k (Uq _),bK hes]
 ·intro hpos;rw[Ur Om,fV];simp only[Addr.mk.injEq,Xc,and_true];omega
 ·have:k=l+(k-l):=Om
  rw[this,Wm]at hle;omega
def pe{a f n}(hn:dB P f.type=some n)(hpos:0<n):(fieldPlace a f).run P w=.ok (a.add f.offset) w:=by
 have:n≠0:=Om
 simp[fieldPlace,bK hn,this]
def Fw{t:TypeId}{i n f x cx}(hfa:fieldAt P t i=some f)(hn:dB P f.type=some n)(hpos:0<n)(hx:VR m (ρ x) cx)(hf:cV (.bP f.offset x) ρ h=some (v,h')):
  ∃cv,(Instr.fieldAt t cx i).run P w=.ok cv w/\VR m v cv/\h' =h:=by
 unfold Abs.fieldAt at hfa;split at hfa
 case h_2=>cases hfa
 rename_i fs hu;simp only[cV]at hf;split at hf
 case h_2=>cases hf
 rename_i b o hρ;cases hf;rw[hρ]at hx;obtain⟨e,he,rfl⟩:=hx;refine⟨_,?_,⟨e,he,rfl⟩,rfl⟩;simp only[Instr.fieldAt,Uy,Ux hu,Uo,hfa,Instr.sureAddr,UN,pe hn hpos,fV];rw[Nat.add_right_comm]
def Fu{t e:TypeId}{es x i cx ci}(hu:P.underlying t=some (.slice e))(hes:dB P e=some es)(hx:VR m (ρ x) cx)(hi:VR m (ρ i) ci)(hf:cV (.bT es x i) ρ h=some (v,h')):
  ∃cv,(Instr.indexAt t cx ci).run P w=.ok cv w/\VR m v cv/\h' =h:=by
 simp only[cV]at hf;split at hf
 case h_2=>cases hf
 rename_i b o n es' k j O8 Qr;rw[O8]at hx;rw[Qr,VR]at hi;subst hi;obtain⟨en,ca,cap,OQ,rfl,OL,OW,hroom⟩:=hx;split at hf
 case isFalse=>cases hf
 rename_i hc;obtain⟨rfl,h0,h1⟩:=hc;cases hf;refine⟨_,?_,⟨en,OQ,rfl⟩,rfl⟩;simp only[Instr.indexAt,asIntOf,Uy,UN,Uo,Ux hu];rw[Ut ⟨h0,h1⟩];simp only[Uy,bK hes,Uo,UN,OW Om,fV];rw[Nat.add_right_comm]
def Fv{t e:TypeId}{len es x i cx ci}(hu:P.underlying t=some (.array len e))(hes:dB P e=some es)(hx:VR m (ρ x) cx)(hi:VR m (ρ i) ci)(hf:cV (.qg len es x i) ρ h=some (v,h')):
  ∃cv,(Instr.indexAt t cx ci).run P w=.ok cv w/\VR m v cv/\h' =h:=by
 simp only[cV]at hf;split at hf
 case h_2=>cases hf
 rename_i b o k j O8 Qr;rw[O8]at hx;rw[Qr,VR]at hi;subst hi;obtain⟨en,OQ,rfl⟩:=hx;split at hf
 case isFalse=>cases hf
 rename_i hc;obtain⟨h0,h1⟩:=hc;cases hf;refine⟨_,?_,⟨en,OQ,rfl⟩,rfl⟩;simp only[Instr.indexAt,asIntOf,Uy,UN,Uo,Ux hu,Instr.sureAddr];rw[Ut ⟨h0,h1⟩];simp only[Uy,bK hes,Uo,UN,fV];rw[Nat.add_right_comm]
def B2{t:TypeId}{i f n x cx}(hfa:fieldAt P t i=some f)(hn:y7 P f.type=some n)(hx:VR m (ρ x) cx)(hf:cV (.part n f.offset x) ρ h=some (v,h')):
  ∃cv,(Instr.field t cx i).run P w=.ok cv w/\VR m v cv/\h' =h:=by
 unfold Abs.fieldAt at hfa;split at hfa
 case h_2=>cases hfa
 rename_i fs hu;simp only[cV]at hf;split at hf
 case h_2=>cases hf
 rename_i cs hρ;rw[hρ]at hx;obtain⟨l',rfl,hl⟩:=hx;obtain⟨cv,h1,h2,h3⟩:=zO (w:=w) hn hl (by cases n<;>exact hf);exact⟨cv,by simp only[Instr.field,Uy,Ux hu,Uo,hfa,asAgg,UN,h1],h2,h3⟩
def IB{t e:TypeId}{len es n x i cx ci}(hu:P.underlying t=some (.array len e))(hes:dB P e=some es)(hn:y7 P e=some n)(hx:VR m (ρ x) cx)(hi:VR m (ρ i) ci)
  (hf:cV (.Hr len es n x i) ρ h=some (v,h')):∃cv,(Instr.index t cx ci).run P w=.ok cv w/\VR m v cv/\h' =h:=by
 simp only[cV]at hf;split at hf
 case h_2=>cases hf
 rename_i cs k j O8 Qr;rw[O8]at hx;rw[Qr,VR]at hi;subst hi;obtain⟨l',rfl,hl⟩:=hx;split at hf
 case isFalse=>cases hf
 rename_i hc;obtain⟨cv,h1,h2,h3⟩:=zO (w:=w) (off:=j.toNat*es) hn hl (by cases n<;>exact hf);refine⟨cv,?_,h2,h3⟩;simp only[Instr.index,asIntOf,Uy,UN,Uo,Ux hu];rw[Ut hc];simp only[Uy,bK hes,Uo,h1]
def IA{t:TypeId}{x i cx ci}(hu:P.underlying t=some .string)(hx:VR m (ρ x) cx)(hi:VR m (ρ i) ci)
  (hf:cV (.Gj x i) ρ h=some (v,h')):∃cv,(Instr.index t cx ci).run P w=.ok cv w/\VR m v cv/\h' =h:=by
 simp only[cV]at hf;split at hf
 case h_2=>cases hf
 rename_i s k j O8 Qr;rw[O8,VR]at hx;rw[Qr,VR]at hi;subst hi;subst hx;split at hf
 case isFalse=>cases hf
 rename_i h0;split at hf
 case h_2=>cases hf
 rename_i b hb;cases hf;refine⟨.int .u8 b.toNat,?_,rfl,rfl⟩;have hb':(⟨⟨s⟩⟩:ByteArray)[j.toNat]? =some b:=by
  show(if h:j.toNat<s.length then some (s[j.toNat])else none)=some b;obtain⟨hlt,he⟩:=Ue.1 hb;rw[dif_pos hlt,he]
 simp only[Instr.index,asIntOf,Uy,UN,Uo,Ux hu,Ut h0,hb']
end
def ai.isObj:ai->Bool
 |.aN _=>true
 |.iter _ _=>true
 |.loop _ _ _ _ _ _=>true
 |_=>false
section
variable {P:Program}{m:bH}{h h':af}{w:World}{ρ:cK->AV}{v:AV}
def jc(hr:HR P m h w){b e k k' o}(he:m b=some e)(hb:h[b]? =some k)(hk:k.isObj=true)(hk':k'.isObj=true\/k' =.dead)
  (hnew:BR P m (w.putObj e.cb o) e k'):HR P m (h.set b k') (w.putObj e.cb o)/\Grow m h w m (h.set b k') (w.putObj e.cb o):=by
 have hbl:b<h.length:=hr.cD _ _ he;have RE:k.live=true:=by cases k<;>first|rfl|cases hk
 have hown:e.own=true:=by
  have:=hr.dU b e k he hb;cases k<;>first|exact this.1|(cases hk;done)
 have hother:∀i,i≠e.cb->(w.putObj e.cb o).heap[i]? =w.heap[i]? :=λi hi=>World.putObj_heap_other hi
 have hsep:∀b' e' k2,b'≠b->m b' =some e'->h[b']? =some k2->k2.live=true->e'.cb≠e.cb:=by
  intro b' e' k2 hne Pd Oi hl hcb;have:=hr.sep b' b e' e k2 k hne Pd he Oi hb hcb;cases k<;>cases k2<;>first|exact this|(cases hk;done)|(cases hl;done)
 refine⟨⟨?_,?_,?_,hr.fG,λb' e' hb'=>by simpa using hr.lt b' e' hb'⟩,⟨λ_ _=>rfl,Si,?_,?_,Si,rfl,rfl,rfl,?_⟩⟩
 ·intro b' e' hb';simpa using hr.cD b' e' hb'
 ·intro b' e' k2 Pd Oi;rw[aX h b b' _ hbl]at Oi;by_cases hbb:b' =b
  ·subst hbb;rw[Ut rfl]at Oi;cases Oi;rw[he]at Pd;cases Pd;exact hnew
  ·rw[Ur hbb]at Oi;have h0:=hr.dU b' e' k2 Pd Oi;by_cases hl:k2.live=true
   ·exact h0.heap (hother _ (hsep b' e' k2 hbb Pd Oi hl))
   ·exact z117
 ·intro b1 b2 e1 e2 k1 k2 hne PN OD hk1 Oi hcb;rw[aX h b _ _ hbl]at hk1 Oi;by_cases O7:b1=b
  ·subst O7;rw[Ut rfl]at hk1;cases hk1;rw[Ur (λx=>hne x.symm)]at Oi;rw[he]at PN;cases PN;by_cases hl:k2.live=true
   ·exact absurd hcb.symm (hsep b2 e2 k2 (λx=>hne x.symm) OD Oi hl)
   ·cases k2<;>first|(cases k'<;>trivial)|exact absurd rfl hl
  ·rw[Ur O7]at hk1;by_cases O0:b2=b
   ·subst O0;rw[Ut rfl]at Oi;cases Oi;rw[he]at OD;cases OD;by_cases hl:k1.live=true
    ·exact absurd hcb (hsep b1 e1 k1 hne PN hk1 hl)
    ·cases k1<;>first|trivial|exact absurd rfl hl
   ·exact Kk
 ·intro b' e' hb' Pd;exact absurd (hr.cD _ _ Pd) Om
 ·intro b' hb' ht;unfold dP at ht ⊢;rw[aX h b b' _ hbl]at ht;by_cases hbb:b' =b
  ·subst hbb;rw[Ut rfl]at ht;rcases hk' with hk'|hk'
   ·cases k'<;>first|(cases hk';done)|(cases ht;done)
   ·subst hk';cases ht
  ·exact z145
 ·intro i hi hno;exact hother i (λhcb=>hno b e he hown hcb.symm)
def js{r o}(ho:w.heap[r]? =some o)(hc:o.isCells=false):(getObj r).run P w=.ok o w:=by
 cases o<;>first|(cases hc;done)|simp[getObj,Sem.run,ho]
def k9{r o o'}(ho:w.heap[r]? =some o)(hc:o.isCells=false):(setObj r o').run P w=.ok () (w.putObj r o'):=by
 cases o<;>first|(cases hc;done)|simp[setObj,Sem.run,ho,World.putObj]
def Fp{t:TypeId}{x cx}(hu:P.underlying t=some .string)(hr:HR P m h w)(hx:VR m (ρ x) cx)(hf:cV (.zS x) ρ h=some (v,h')):
  ∃cv w' m',(Instr.range t cx).run P w=.ok cv w'/\VR m' v cv/\HR P m' h' w'/\Grow m h w m' h' w':=by
 simp only[cV]at hf;split at hf
 case h_2=>cases hf
 rename_i s hρ;rw[hρ,VR]at hx;subst hx;cases hf;have RQ:=jn hr (.stringIter ⟨⟨s⟩⟩ 0) (.iter s 0) ⟨w.heap.size,0,0,true⟩ rfl rfl (λm' _=>⟨rfl,rfl,World.alloc_heap_new w _⟩);exact⟨.pointer (some ⟨w.heap.size,0,none⟩),_,_,by simp[Instr.range,Ux hu],⟨⟨w.heap.size,0,0,true⟩,by simp[bH.add],rfl⟩,RQ.1,RQ.2⟩
def B3{t:TypeId}{x cx}(hr:HR P m h w)(hx:VR m (ρ x) cx)(hf:cV (.pz x) ρ h=some (v,h')):
  ∃cv w' m',(Instr.next cx true t).run P w=.ok cv w'/\VR m' v cv/\HR P m' h' w'/\Grow m h w m' h' w':=by
 simp only[cV]at hf;split at hf
 case h_2=>cases hf
 rename_i b hρ;rw[hρ]at hx;obtain⟨e,he,rfl⟩:=hx;split at hf
 case h_2=>cases hf
 rename_i s pos hb;obtain⟨hown,hd0,hheap⟩:=hr.dU b e _ he hb;have hg:=js (P:=P) hheap rfl;have dO:(⟨⟨s⟩⟩:ByteArray).size=s.length:=rfl;split at hf
 ·rename_i hlt;cases hf;have hbl:e.cb<w.heap.size:=(Uu.1 hheap).1;obtain⟨h1,h2⟩:=jc hr he hb rfl (k':=.iter s (pos+(Utf8.decode ⟨⟨s⟩⟩ pos).2)) (o:=.stringIter ⟨⟨s⟩⟩ (pos+(Utf8.decode ⟨⟨s⟩⟩ pos).2)) (.inl rfl) ⟨hown,hd0,World.putObj_heap_same hbl⟩;refine⟨.tuple #[.bool true,goInt pos,.int .i32 (Utf8.decode ⟨⟨s⟩⟩ pos).1],_,m,?_,⟨_,rfl,?_⟩,h1,h2⟩
  ·simp[Instr.next,hd0,hg,dO,hlt,k9 hheap rfl]
  ·exact⟨_,_,rfl,rfl,_,_,rfl,rfl,_,_,rfl,rfl,rfl⟩
 ·rename_i hlt;cases hf;refine⟨.tuple #[.bool false],w,m,?_,⟨_,rfl,_,_,rfl,rfl,rfl⟩,hr,Grow.refl m h w hr.cD⟩;simp[Instr.next,hd0,hg,dO,hlt]
def yr(kk:CK)(d:TypeDesc):Prop:=
 match kk with
 |.b=>d=.bool
 |.i=>∃i,d=.int i
 |.s=>d=.string
def qU{t:TypeId}{kk}(hk:vO P t=some kk):∃d,P.underlying t=some d/\yr kk d:=by
 unfold vO at hk;split at hk
 ·rename_i k hu;cases hk;exact⟨_,hu,k,rfl⟩
 ·rename_i hu;cases hk;exact⟨_,hu,rfl⟩
 ·rename_i hu;cases hk;exact⟨_,hu,rfl⟩
 ·cases hk
def wY{kk}{d:TypeDesc}(hd:yr kk d){k k' ck ck' b}(hk:VR m k ck)(hk':VR m k' ck')(he:cR kk k k' =some b):
  Instr.sameNow d ck ck' =some b:=by
 unfold cR at he;split at he
 ·rw[VR]at hk hk';subst hk;subst hk';cases hd;cases he;rfl
 ·split at he
  ·rename_i hkk;rw[VR]at hk hk';subst hk;subst hk';subst hkk;obtain⟨i,rfl⟩:=hd;cases he;simp[Instr.sameNow]
  ·cases he
 ·rw[VR]at hk hk';subst hk;subst hk';cases hd;cases he;simp[Instr.sameNow,toList_mk,beq_toListBytes]
 ·cases he
def kO(m:bH):List (AV×AV)->List MapEntry->Prop
 |[],l=>l=[]
 |p::r,l=>∃q s,l=q::s/\VR m p.1 q.key/\VR m p.2 q.val/\kO m r s
theorem kO.gf:∀{es}{l},l.length=es.length->(∀(i:Nat) (p:AV×AV),es[i]? =some p->∃q,l[i]? =some q/\VR m p.1 q.key/\VR m p.2 q.val)->kO m es l
 |[],l,hl,_=>Vd.1 (by simpa using hl)
 |p::r,[],hl,_=>by simp at hl
 |p::r,q::s,hl,h=>by
  obtain⟨q',hq,h1,h2⟩:=h 0 p Si;simp at hq;subst hq;exact⟨q,s,rfl,h1,h2,kO.gf (by simpa using hl) λi p hp=>by simpa using h (i+1) p (by simpa using hp)⟩
theorem kO.get:∀{es}{l},kO m es l->l.length=es.length/\∀(i:Nat) (p:AV×AV),es[i]? =some p->∃q,l[i]? =some q/\VR m p.1 q.key/\VR m p.2 q.val
 |[],l,h=>by cases h;exact⟨rfl,λi p hp=>by simp at hp⟩
 |p::r,l,h=>by
  obtain⟨q,s,rfl,h1,h2,h3⟩:=h;obtain⟨hl,hg⟩:=kO.get h3;refine⟨by simp[hl],λi p' hp=>?_⟩;cases i with
  |zero=>simp at hp;subst hp;exact⟨q,Si,h1,h2⟩
  |succ i=>simpa using hg i p' (by simpa using hp)
theorem pP{kk}{d:TypeDesc}(hd:yr kk d){k ck}(hk:VR m k ck):∀{es}{l}{r}(i:Nat),kO m es l->iw kk k es=some r->
  ∃cr,Instr.findNow d ck l i=some cr/\(match r,cr with|none,none=>True|some v,some (_,cv)=>VR m v cv|_,_=>False)
 |[],l,r,i,h,hf=>by cases h;cases hf;exact⟨none,rfl,trivial⟩
 |(a,v)::es,l,r,i,h,hf=>by
  obtain⟨q,s,rfl,h1,h2,h3⟩:=h;simp only[iw]at hf;cases he:cR kk k a with
  |none=>simp[he]at hf
  |some b=>
   have hs:=wY hd hk h1 he;cases b with
   |true=>
    simp[he]at hf;subst hf;exact⟨some (i,q.val),by simp[Instr.findNow,hs],h2⟩
   |false=>
    simp only[he]at hf;obtain⟨cr,hcr,hm⟩:=pP hd hk (i+1) h3 hf;exact⟨cr,by simp[Instr.findNow,hs,hcr],hm⟩
def qb{t:TypeId}{d:TypeDesc}{kk}(hu:P.underlying t=some d)(hd:yr kk d)(b:Bool)(v:Value)(n:Nat):(Instr.checkKey b (n+1) t v).run P w=.ok () w:=by
 cases kk with
 |b=>cases hd;cases v<;>simp[Instr.checkKey,Ux hu]
 |i=>obtain⟨i,rfl⟩:=hd;cases v<;>simp[Instr.checkKey,Ux hu]
 |s=>cases hd;cases v<;>simp[Instr.checkKey,Ux hu]
def run_checkKey{t:TypeId}{d:TypeDesc}{kk}(hu:P.underlying t=some d)(hd:yr kk d)(b:Bool)(v:Value):(Instr.checkKey b 10000 t v).run P w=.ok () w:=qb hu hd b v 9999
def Ft{t kt e:TypeId}{kk z ok x k cx ck}(hu:P.underlying t=some (.map kt e))(hkk:vO P kt=some kk)(hz:iF P e=some z)(hr:HR P m h w)(hx:VR m (ρ x) cx)(hk:VR m (ρ k) ck)
  (hf:cV (.look kk z ok x k) ρ h=some (v,h')):∃cv,(Instr.lookup t cx ck ok).run P w=.ok cv w/\VR m v cv/\h' =h:=by
 obtain⟨d,hud,hd⟩:=qU hkk;obtain⟨cz,QF,Q7⟩:=iU hz w m;simp only[cV]at hf;split at hf
 ·rename_i hρ;rw[hρ,VR]at hx;subst hx;cases hf;refine⟨if ok then .tuple #[cz,.bool false]else cz,?_,?_,rfl⟩
  ·simp only[Instr.lookup,Uy,Ux hu,Uo,UN,run_checkKey hud hd,Instr.findKey,Ux hud];simp[Instr.findNow,QF]
  ·exact z139
 ·rename_i r hρ;rw[hρ]at hx;obtain⟨en,OQ,rfl⟩:=hx;split at hf
  case h_2=>cases hf
  rename_i es hb;obtain⟨_,P8,clock,hheap,hlen,Ov⟩:=hr.dU r en _ OQ hb;have OV:kO m es P8.toList:=kO.gf (by simpa using hlen) (λi p hp=>by obtain⟨q,hq,h1,h2⟩:=Ov i p hp;exact⟨q,by simpa using hq,h1,h2⟩);have hg:=js (P:=P) hheap rfl;split at hf
  ·rename_i u Qg;cases hf;obtain⟨cr,hcr,hm⟩:=pP hd hk 0 OV Qg;cases cr with
   |none=>exact hm.elim
   |some p=>
    obtain⟨i,cu⟩:=p;refine⟨if ok then .tuple #[cu,.bool true]else cu,?_,?_,rfl⟩
    ·simp only[Instr.lookup,Uy,Ux hu,Uo,hg,UN,run_checkKey hud hd,Instr.findKey,Ux hud,hcr]
    ·cases ok
     ·exact hm
     ·exact⟨_,rfl,_,_,rfl,hm,_,_,rfl,rfl,rfl⟩
  ·rename_i Qg;cases hf;obtain⟨cr,hcr,hm⟩:=pP hd hk 0 OV Qg;cases cr with
   |some p=>exact hm.elim
   |none=>
    refine⟨if ok then .tuple #[cz,.bool false]else cz,?_,?_,rfl⟩
    ·simp only[Instr.lookup,Uy,Ux hu,Uo,hg,UN,run_checkKey hud hd,Instr.findKey,Ux hud,hcr,QF]
    ·exact z139
  ·cases hf
 ·cases hf
theorem VR.sameBits{kk k k' ck ck'}(hk:VR m k ck)(hk':VR m k' ck')(he:cR kk k k' =some true)(n:Nat):Instr.sameBits n ck' ck=true:=by
 unfold cR at he;split at he
 ·rw[VR]at hk hk';subst hk;subst hk';simp at he;simp[Instr.sameBits,he]
 ·split at he
  ·rename_i hkk;rw[VR]at hk hk';subst hk;subst hk';subst hkk;simp at he;simp[Instr.sameBits,he]
  ·cases he
 ·rw[VR]at hk hk';subst hk;subst hk';simp at he;subst he;simp[Instr.sameBits,beq_toListBytes]
 ·cases he
theorem wy{kk}{d:TypeDesc}(hd:yr kk d){k x ck cx}(hk:VR m k ck)(hx:VR m x cx)(clock:Nat):∀{es es'}{l}(i:Nat),kO m es l->mZ kk k x es=some es'->
  (∃j q,Instr.findNow d ck l i=some (some (i+j,q.val))/\l[j]? =some q/\Instr.sameBits 10000 q.key ck=true/\kO m es' (l.set j {q with key:=ck,val:=cx}))\/
  (Instr.findNow d ck l i=some none/\kO m es' (l++[{key:=ck,val:=cx,born:=clock}]))
 |[],es',l,i,h,hf=>by cases h;cases hf;exact .inr ⟨rfl,_,_,rfl,hk,hx,rfl⟩
 |(a,u)::es,es',l,i,h,hf=>by
  obtain⟨q,s,rfl,h1,h2,h3⟩:=h;simp only[mZ]at hf;cases he:cR kk k a with
  |none=>simp[he]at hf
  |some b=>
   have hs:=wY hd hk h1 he;cases b with
   |true=>
    simp[he]at hf;subst hf;exact .inl ⟨0,q,by simp[Instr.findNow,hs],Si,VR.sameBits hk h1 he 10000,_,_,rfl,hk,hx,h3⟩
   |false=>
    simp only[he,Uz]at hf;obtain⟨es2,hes2,rfl⟩:=hf;rcases wy hd hk hx clock (i+1) h3 hes2 with⟨j,q',hj,SR,hb,hr⟩|⟨hj,hr⟩
    ·exact .inl ⟨j+1,q',by simp[Instr.findNow,hs,hj];omega,by simpa using SR,hb,_,_,rfl,h1,h2,hr⟩
    ·exact .inr ⟨by simp[Instr.findNow,hs,hj],_,_,rfl,h1,h2,hr⟩
def Fq{t kt e:TypeId}{kk x k u cx ck cu}(hu:P.underlying t=some (.map kt e))(hkk:vO P kt=some kk)(hr:HR P m h w)(hx:VR m (ρ x) cx)(hk:VR m (ρ k) ck)(hv:VR m (ρ u) cu)
  (hf:cV (.fu kk x k u) ρ h=some (v,h')):∃w',(Instr.mapUpdate t cx ck cu).run P w=.ok () w'/\v=au/\HR P m h' w'/\Grow m h w m h' w':=by
 obtain⟨d,hud,hd⟩:=qU hkk;simp only[cV]at hf;split at hf
 case h_2=>cases hf
 rename_i r hρ;rw[hρ]at hx;obtain⟨en,OQ,rfl⟩:=hx;split at hf
 case h_2=>cases hf
 rename_i es hb;split at hf
 case h_2=>cases hf
 rename_i es' hupd;cases hf;obtain⟨hown,P8,clock,hheap,hlen,Ov⟩:=hr.dU r en _ OQ hb;have OV:kO m es P8.toList:=kO.gf (by simpa using hlen) (λi p hp=>by obtain⟨q,hq,h1,h2⟩:=Ov i p hp;exact⟨q,by simpa using hq,h1,h2⟩);have hg:=js (P:=P) hheap rfl;have hbl:en.cb<w.heap.size:=(Uu.1 hheap).1;have done:∀(ces':Array MapEntry) (c:Nat),kO m es' ces'.toList->HR P m (h.set r (.aN es')) (w.putObj en.cb (.map ces' c))/\Grow m h w m (h.set r (.aN es')) (w.putObj en.cb (.map ces' c)):=by
  intro ces' c Qh;obtain⟨OJ,OG⟩:=Qh.get;exact jc hr OQ hb rfl (.inl rfl) ⟨hown,ces',c,World.putObj_heap_same hbl,by simpa using OJ,λi p hp=>by obtain⟨q,hq,h1,h2⟩:=OG i p hp;exact⟨q,by simpa using hq,h1,h2⟩⟩
 rcases wy hd hk hv clock 0 OV hupd with⟨j,q,hj,hq,hbits,Qh⟩|⟨hj,Qh⟩
 ·have SR:P8[j]? =some q:=by simpa using hq
  obtain⟨h1,h2⟩:=done (P8.modify j λe=>{e with key:=ck,val:=cu}) clock (by
   have:(P8.modify j λe=>{e with key:=ck,val:=cu}).toList=P8.toList.set j {q with key:=ck,val:=cu}:=by
    apply WI
    intro i;rw[VE,Array.getElem?_modify,List.getElem?_set];by_cases hij:j=i
    ·subst hij;obtain⟨hlt,heq⟩:=Uu.1 SR;simp[SR,hlt,heq]
    ·simp[hij]
   rw[this];exact Qh)
  refine⟨_,?_,rfl,h1,h2⟩;simp only[Instr.mapUpdate,Uy,Ux hu,Uo,hg,run_checkKey hud hd,Instr.findKey,Ux hud,hj,UN,UX,SR,V6,Wt,Instr.keyThatStays,hbits,UD,k9 hheap rfl]
 ·obtain⟨h1,h2⟩:=done (P8.push {key:=ck,val:=cu,born:=clock}) (clock+1) (by simpa using Qh);refine⟨_,?_,rfl,h1,h2⟩;simp only[Instr.mapUpdate,Uy,Ux hu,Uo,hg,run_checkKey hud hd,Instr.findKey,Ux hud,hj,UN,k9 hheap rfl]
end
section
variable {P:Program}{m:bH}{h h':af}{w:World}{ρ:cK->AV}{v:AV}
theorem lj(m:bH):∀(s:By),cw m (s.map λb=>AV.int .u8 b.toNat) (s.map λb=>Value.int .u8 b.toNat)
 |[]=>aT.2 rfl
 |b::s=>aF.2 ⟨_,_,rfl,rfl,lj m s⟩
def pE(s:By):(s.map λb=>AV.int .u8 b.toNat).all AV.one=true:=by
 rw[UJ];intro x hx;simp only[UI]at hx;obtain⟨b,_,rfl⟩:=hx;rfl
def cE{es y cy ys k}(hr:HR P m h w)(hy:VR m y cy)(hc:cellsIn es h y=some (ys,k)):
  (Builtin.lenOf cy).run P w=.ok k w/\ys.length=k*es/\ys.all AV.one=true/\
   ∀n,n<=k->∃vs,(Builtin.firstCells es n cy).run P w=.ok ⟨vs⟩ w/\cw m (ys.take (n*es)) vs:=by
 unfold cellsIn at hc;split at hc
 ·rw[VR]at hy;subst hy;cases hc;exact⟨rfl,Si,rfl,λn hn=>⟨[],by simp[Builtin.firstCells],by simp[aT]⟩⟩
 ·rename_i b o n es';obtain⟨e,ca,cap,he,rfl,OL,OW,hroom⟩:=hy;split at hc
  case isFalse=>cases hc
  rename_i hes;subst hes;split at hc
  case h_2=>cases hc
  rename_i c mu tl hb;split at hc
  case isFalse=>cases hc
  rename_i hle;cases hc;obtain⟨_,_,_,hone⟩:=ll hr he hb o (k*es') hle;refine⟨rfl,by simp;omega,hone,λn hn=>?_⟩;have hmul:n*es'<=k*es':=Vf _ hn;by_cases h0:cap=0
  ·have hk0:k=0:=Om
   have TO:n=0:=Om
   subst TO;exact⟨[],by simp[Builtin.firstCells,loadCells,loadCellsFrom],by simp[aT]⟩
  ·rw[OW Om];obtain⟨vs,Ot,OI,_⟩:=ll hr he hb o (n*es') Om;refine⟨vs,by simp[Builtin.firstCells,Ot],?_⟩;rw[List.take_take,V5 hmul];exact OI
 ·rename_i s;rw[VR]at hy;subst hy;split at hc
  case isFalse=>cases hc
  rename_i hes;subst hes;cases hc;refine⟨rfl,Si,pE s,λn hn=>⟨(s.take n).map λb=>Value.int .u8 b.toNat,?_,?_⟩⟩
  ·simp only[Builtin.firstCells,UN,extract_mk];simp
  ·rw[Wp,<-List.map_take];exact lj m _
 ·cases hc
theorem qv{cb}{el:TypeId}{fz}:∀(vs:List Value) (p j:Nat) (cc:Array Value) (w:World),w.heap[cb]? =some (.cells cc el fz)->p+j+vs.length<=cc.size->
  (∀i,i<cc.size->¬(fz.1<=i/\i<fz.2))->(∀v∈vs,v.oneCell' =true)->
  ∃w' OY,(storeCells ⟨cb,p,none⟩ vs j).run P w=.ok () w'/\w'.heap[cb]? =some (.cells OY el fz)/\OY.size=cc.size/\
   (∀i,OY[i]? =if p+j<=i/\i<p+j+vs.length then vs[i-(p+j)]? else cc[i]?)/\(∀k,k≠cb->w'.heap[k]? =w.heap[k]?)/\w'.heap.size=w.heap.size/\w'.os=w.os/\w'.output=w.output/\w'.tape=w.tape
 |[],p,j,cc,w,hw,_,_,_=>⟨w,cc,rfl,hw,rfl,λi=>by simp;omega,λ_ _=>rfl,rfl,rfl,rfl,rfl⟩
 |v::vs,p,j,cc,w,hw,hlen,hfz,hone=>by
  simp only[Ui]at hlen;have O6:w.cell? ⟨cb,p+j,none⟩=some (cc[p+j]'Om):=by simp only[World.cell?,hw];exact UZ Om
  have hfr:w.frozen? ⟨cb,p+j,none⟩=false:=mv hw (hfz _ Om);have Ru:=heap_setCell_same (i:=p+j) hw v;have PS:(cc.setIfInBounds (p+j) v).size=cc.size:=Si
  obtain⟨w',OY,h1,h2,h3,h4,h5,h6,h7,h8,h9⟩:=qv vs p (j+1) (cc.setIfInBounds (p+j) v) (w.setCell ⟨cb,p+j,none⟩ v) Ru (by rw[PS];omega) (by rw[PS];exact hfz) (λu hu=>hone u (UL _ hu));refine⟨w',OY,?_,h2,Om,?_,?_,by simpa using h6,h7,h8,h9⟩
  ·simp only[storeCells,Uy];rw[fV,run_store P w _ v .plain (hone v (U4 ..)),O6];simp only[hfr,U3,UC,Uo];exact h1
  ·intro i;rw[h4 i];by_cases hi:i=p+j
   ·subst hi;rw[Ur Om,Ut (by simp only[Ui];omega)];rw[Vt Om];simp
   ·rw[VX (λx=>hi x.symm)];by_cases hin:p+(j+1)<=i/\i<p+(j+1)+vs.length
    ·rw[Ut hin,Ut (by simp only[Ui];omega)];rw[show i-(p+j)=(i-(p+(j+1)))+1 from by omega];simp
    ·rw[Ur hin,Ur (by simp only[Ui];omega)]
  ·intro k hk;rw[h5 k hk];exact Go.RowKit.Below.heap_setCell w _ v k hk
def Cm(need cap:Nat)(hc:cap<need):Builtin.nextslicecap need cap<=2*need+192:=by
 unfold Builtin.nextslicecap;split
 ·omega
 ·split
  ·omega
  ·have grow:∀(r c:Nat),c<need+(need+768) / 4->Builtin.growBy need r c<=need+(need+768) / 4:=by
    intro r
    induction r with
    |zero=>intro c Rg;simp only[Builtin.growBy];omega
    |succ r ih=>
     intro c Rg;simp only[Builtin.growBy];split
     ·omega
     ·rename_i hlt;have h1:c<need:=Om
      by_cases hh:c+(c+768) / 4<need+(need+768) / 4
      ·exact ih _ hh
      ·have:c+(c+768) / 4<=need+(need+768) / 4:=Om
       have e:c+(c+768) / 4=need+(need+768) / 4:=Om
       rw[e];cases r with
       |zero=>simp[Builtin.growBy]
       |succ r=>simp only[Builtin.growBy];rw[Ut Om];exact Uq _
   have:=grow 4 cap Om;omega
theorem cw.tC:∀{l}{vs},cw m l vs->l.all AV.one=true->∀v∈vs,v.oneCell' =true
 |[],vs,h,_,v,hv=>by rw[aT]at h;subst h;cases hv
 |x::xs,vs,h,h1,v,hv=>by
  obtain⟨y,ys,rfl,hy,hys⟩:=aF.1 h;simp only[VJ,UH]at h1;rcases UR.1 hv with rfl|hv
  ·exact hy.rO h1.1
  ·exact cw.tC hys h1.2 v hv
def pO(hr:HR P m h w){b o q e c ys mu mu' k0}(he:m b=some e)(hb:h[b]? =some (.cells c mu true))(hoq:o+q<=c.length)
  (hk0:(k0=.cells c false false/\o+q=c.length/\mu' =false)\/(k0=.dead/\mu=true)) {vs}(hys:cw m ys vs) (h1:ys.all AV.one=true) (hroom:o+q+e.d+ys.length<=e.sz) (j:Nat):
  ∃w' m',(storeCells ⟨e.cb,o+e.d+q,none⟩ vs 0).run P w=.ok () w'/\m' h.length=some ⟨e.cb,e.d+o,e.sz,true⟩/\
   HR P m' (h.set b k0++[.cells ((c.drop o).take q++ys) mu' true]) w'/\Grow m h w m' (h.set b k0++[.cells ((c.drop o).take q++ys) mu' true]) w':=by
 have _:=j;obtain⟨cc,el,fz,hw,⟨hle,hle'⟩,Ov,hown,hmt⟩:=hr.dU b e _ he hb;have ho:e.own=true:=(hmt (.inr rfl)).1;obtain⟨dO,hfz⟩:=hown ho;have hlv:=hys.length;obtain⟨w',OY,Ot,hw',OB,hcc',hoth,hhs,hos,hout,htape⟩:=qv (P:=P) vs (o+e.d+q) 0 cc w hw Om hfz (hys.tC h1);have hbl:b<h.length:=hr.cD _ _ he
 let e':qn:=⟨e.cb,e.d+o,e.sz,true⟩
 have Pf:m h.length=none:=by
  exact Kl
 have Qz:m.le (m.add h.length e'):=bH.pZ e' Pf;have hlen:(h.set b k0).length=h.length:=Si
 have Rt:∀b2 e2 k2,b2≠b->m b2=some e2->h[b2]? =some k2->k2.live=true->e2.cb=e.cb->mu=false/\∃c2,k2=.cells c2 false false/\e2.d+c2.length<=e.d+c.length:=by
  intro b2 e2 k2 hne OD Oi hl hcb;have:=hr.sep b b2 e e2 _ k2 (λx=>hne x.symm) he OD hb Oi hcb.symm;cases k2 with
  |cells c2 mu2 tl2=>
   obtain⟨Ra,R4,ht⟩:=this;obtain⟨ht2,P3⟩:=ht rfl;subst R4;subst ht2;exact⟨Ra,c2,rfl,P3⟩
  |dead=>cases hl
  |aN _=>exact this.elim
  |iter _ _=>exact this.elim
  |loop _ _ _ _ _ _=>exact this.elim
 have SX:∀i,i<e.d+o+q->OY[i]? =cc[i]? :=by
  intro i hi;rw[hcc' i,Ur Om]
 have hnew:BR P (m.add h.length e') w' e' (.cells ((c.drop o).take q++ys) mu' true):=by
  refine⟨OY,el,fz,hw',⟨?_,?_,(by rw[OB,dO])⟩,?_,λ_=>⟨by rw[OB,dO],λi hi=>hfz i Om⟩,λ_=>⟨rfl,λx=>by cases x⟩⟩
  ·show e.d+o+((c.drop o).take q++ys).length<=OY.size;simp;omega
  ·show e.d+o+((c.drop o).take q++ys).length<=e.sz;simp;omega
  ·intro i x hx;by_cases hi:i<q
   ·rw[Ug (by simp;omega),Wi hi,Wv]at hx;obtain⟨hone,v,hv,Ok⟩:=Ov (o+i) x hx;refine⟨hone,v,?_,VR.mono Qz _ _ Ok⟩;show OY[e.d+o+i]? =some v;rw[SX _ Om,show e.d+o+i=e.d+(o+i)from by omega];exact hv
   ·have Rb:((c.drop o).take q).length=q:=by simp;omega
    rw[Un Om,Rb]at hx;obtain⟨v,hv,Ok⟩:=hys.get hx;have hlt:i-q<ys.length:=(Ue.1 hx).1;refine⟨UJ.1 h1 x (U5 hx),v,?_,VR.mono Qz _ _ Ok⟩;show OY[e.d+o+i]? =some v;rw[hcc',Ut Om,show e.d+o+i-(o+e.d+q+0)=i-q from by omega];exact hv
 have hbr0:∀b2 e2 k2,m b2=some e2->(h.set b k0)[b2]? =some k2->BR P (m.add h.length e') w' e2 k2:=by
  intro b2 e2 k2 OD Oi;rw[aX h b b2 _ hbl]at Oi;by_cases hbb:b2=b
  ·subst hbb;rw[Ut rfl]at Oi;cases Oi;rw[he]at OD;cases OD;rcases hk0 with⟨rfl,hcl,_⟩|⟨rfl,_⟩
   ·refine⟨OY,el,fz,hw',⟨Om,Om⟩,?_,λ_=>⟨by rw[OB,dO],λi hi=>hfz i Om⟩,λx=>by rcases x with x|x<;>cases x⟩;intro i x hx;obtain⟨hone,v,hv,Ok⟩:=Ov i x hx;have hi:i<c.length:=(Ue.1 hx).1;exact HM
   ·trivial
  ·rw[Ur hbb]at Oi;have h0:=hr.dU b2 e2 k2 OD Oi;by_cases hl:k2.live=true
   ·by_cases hcb:e2.cb=e.cb
    ·obtain⟨hmf,c2,rfl,P3⟩:=Rt b2 e2 k2 hbb OD Oi hl hcb;rcases hk0 with⟨_,hcl,_⟩|⟨_,Rz⟩
     ·obtain⟨cc2,el2,fz2,hw2,⟨hle2a,hle2b⟩,hget2,hown2,hmt2⟩:=h0;rw[hcb,hw]at hw2;cases hw2;refine⟨OY,el,fz,by rw[hcb];exact hw',⟨Om,Om⟩,?_,λho2=>by have:=hown2 ho2;exact⟨Om,λi hi=>this.2 i Om⟩,hmt2⟩;intro i x hx;obtain⟨hone,v,hv,Ok⟩:=hget2 i x hx;have hi:i<c2.length:=(Ue.1 hx).1;exact HM
     ·rw[hmf]at Rz;cases Rz
    ·exact(h0.mono Qz).heap (hoth _ hcb)
   ·exact z117
 have hget0:∀b2 k2,b2<h.length->(h.set b k0++[.cells ((c.drop o).take q++ys) mu' true])[b2]? =some k2->(h.set b k0)[b2]? =some k2:=by
  intro b2 k2 hlt Oi
  rwa [Ug Om]at Oi
 have hsep1:∀b2 e2 k2,m b2=some e2->(h.set b k0)[b2]? =some k2->e2.cb=e.cb->nQ e' e2 (.cells ((c.drop o).take q++ys) mu' true) k2/\nQ e2 e' k2 (.cells ((c.drop o).take q++ys) mu' true):=by
  intro b2 e2 k2 OD Oi hcb;rw[aX h b b2 _ hbl]at Oi;by_cases hbb:b2=b
  ·subst hbb;rw[Ut rfl]at Oi;cases Oi;rw[he]at OD;cases OD;rcases hk0 with⟨rfl,hcl,rfl⟩|⟨rfl,_⟩
   ·refine⟨⟨rfl,rfl,λ_=>⟨rfl,?_⟩⟩,⟨rfl,rfl,λx=>by cases x⟩⟩;show e.d+c.length<=e.d+o+((c.drop o).take q++ys).length;simp;omega
   ·exact⟨trivial,trivial⟩
  ·rw[Ur hbb]at Oi;by_cases hl:k2.live=true
   ·obtain⟨hmf,c2,rfl,P3⟩:=Rt b2 e2 k2 hbb OD Oi hl hcb;rcases hk0 with⟨_,hcl,rfl⟩|⟨_,Rz⟩
    ·refine⟨⟨rfl,rfl,λ_=>⟨rfl,?_⟩⟩,⟨rfl,rfl,λx=>by cases x⟩⟩;show e2.d+c2.length<=e.d+o+((c.drop o).take q++ys).length;simp;omega
    ·rw[hmf]at Rz;cases Rz
   ·cases k2<;>first|exact⟨trivial,trivial⟩|exact absurd rfl hl
 have hsep2:∀b1 b2 e1 e2 k1 k2,b1≠b2->m b1=some e1->m b2=some e2->(h.set b k0)[b1]? =some k1->(h.set b k0)[b2]? =some k2->e1.cb=e2.cb->nQ e1 e2 k1 k2:=by
  intro b1 b2 e1 e2 k1 k2 hne PN OD hk1 Oi hcb;rw[aX h b _ _ hbl]at hk1 Oi;by_cases O7:b1=b
  ·subst O7;rw[Ut rfl]at hk1;cases hk1;rw[Ur (λx=>hne x.symm)]at Oi;have:=hr.sep b1 b2 e1 e2 _ k2 hne PN OD hb Oi hcb;rcases hk0 with⟨rfl,_⟩|⟨rfl,_⟩
   ·cases k2<;>first|exact⟨rfl,this.2.1,λx=>by cases x⟩|trivial|exact this
   ·trivial
  ·rw[Ur O7]at hk1;by_cases O0:b2=b
   ·subst O0;rw[Ut rfl]at Oi;cases Oi;have:=hr.sep b1 b2 e1 e2 k1 _ hne PN OD hk1 hb hcb;rcases hk0 with⟨rfl,_⟩|⟨rfl,_⟩
    ·cases k1<;>first|exact⟨this.1,rfl,λx=>absurd (this.2.2 x).1 Si⟩|trivial|exact this
    ·cases k1<;>trivial
   ·exact Kk
 refine⟨w',m.add h.length e',by simpa using Ot,by simp[bH.add,e'],⟨?_,?_,?_,?_,?_⟩,⟨?_,Si,?_,?_,Om,hos,hout,htape,?_⟩⟩
 ·intro b2 e2 O0;unfold bH.add at O0;by_cases hx:b2=h.length
  ·subst hx;simp
  ·rw[Ur hx]at O0;have:=hr.cD _ _ O0;simp;omega
 ·intro b2 e2 k2 OD Oi;unfold bH.add at OD;by_cases hx:b2=h.length
  ·subst hx;rw[Ut rfl]at OD;cases OD;rw[Un Om]at Oi;simp at Oi;subst Oi;exact hnew
  ·rw[Ur hx]at OD;exact hbr0 b2 e2 k2 OD (hget0 b2 k2 (hr.cD _ _ OD) Oi)
 ·intro b1 b2 e1 e2 k1 k2 hne PN OD hk1 Oi hcb;unfold bH.add at PN OD;by_cases hx1:b1=h.length
  ·subst hx1;rw[Ut rfl]at PN;cases PN;rw[Ur (λx=>hne x.symm)]at OD;rw[Un Om]at hk1;simp at hk1;subst hk1;exact(hsep1 b2 e2 k2 OD (hget0 b2 k2 (hr.cD _ _ OD) Oi) hcb.symm).1
  ·rw[Ur hx1]at PN;have hk1':=hget0 b1 k1 (hr.cD _ _ PN) hk1;by_cases QU:b2=h.length
   ·subst QU;rw[Ut rfl]at OD;cases OD;rw[Un Om]at Oi;simp at Oi;subst Oi;exact(hsep1 b1 e1 k1 PN hk1' hcb).2
   ·rw[Ur QU]at OD;exact hsep2 b1 b2 e1 e2 k1 k2 hne PN OD hk1' (hget0 b2 k2 (hr.cD _ _ OD) Oi) hcb
 ·intro g hg;obtain⟨x,hx,h2⟩:=hr.fG g hg;exact⟨x,Qz _ _ hx,h2⟩
 ·intro b2 e2 OD;unfold bH.add at OD;by_cases hx:b2=h.length
  ·rw[Ut hx]at OD;cases OD;have:=hr.lt _ _ he;show e.cb<_;omega
  ·rw[Ur hx]at OD;have:=hr.lt _ _ OD;omega
 ·intro b2 O0;unfold bH.add;rw[Ur Om]
 ·intro b2 e2 O0 OD;unfold bH.add at OD;by_cases hx:b2=h.length
  ·rw[Ut hx]at OD;cases OD;refine⟨rfl,.inr ⟨b,e,he,rfl,ho,by simp[dP,hb],?_⟩⟩;unfold dP;rw[Ug Om,aX h b b _ hbl,Ut rfl];rcases hk0 with⟨rfl,_⟩|⟨rfl,_⟩<;>rfl
  ·rw[Ur hx]at OD;exact absurd (hr.cD _ _ OD) Om
 ·intro b2 O0 ht;unfold dP at ht ⊢;rw[Ug Om,aX h b b2 _ hbl]at ht;by_cases hbb:b2=b
  ·subst hbb;rw[Ut rfl]at ht;rcases hk0 with⟨rfl,_⟩|⟨rfl,_⟩<;>cases ht
  ·exact z145
 ·intro i hi hno;exact hoth i (λx=>hno b e he ho x.symm)
end
section
variable {P:Program}{m:bH}{h h':af}{w:World}{ρ:cK->AV}{v:AV}
def wh:ai->ai->Prop
 |.cells c mu tl,k=>k=.dead\/∃mu' tl',k=.cells c mu' tl'/\(mu' =true->mu=true/\(tl' =false->tl=false))/\(tl' =true->tl=true)
 |k,k'=>k' =.dead\/k' =k
def wh.K1{e1 e2 k k' k2}(hw:wh k k')(hs:nQ e1 e2 k k2):nQ e1 e2 k' k2:=by
 cases k with
 |cells c mu tl=>
  rcases hw with rfl|⟨mu',tl',rfl,hm,ht⟩
  ·trivial
  ·cases k2 with
   |cells c2 mu2 tl2=>
    refine⟨?_,hs.2.1,λx=>hs.2.2 (ht x)⟩;cases mu' with
    |false=>rfl
    |true=>have:=hs.1;rw[(hm rfl).1]at this;cases this
   |_=>first|trivial|exact hs
 |dead=>rcases hw with rfl|rfl<;>trivial
 |aN es=>rcases hw with rfl|rfl<;>first|trivial|exact hs
 |iter s p=>rcases hw with rfl|rfl<;>first|trivial|exact hs
 |loop a b c d e f=>rcases hw with rfl|rfl<;>first|trivial|exact hs
def wh.KZ{e1 e2 k k' k1}(hw:wh k k')(hs:nQ e1 e2 k1 k):nQ e1 e2 k1 k':=by
 cases k with
 |cells c mu tl=>
  rcases hw with rfl|⟨mu',tl',rfl,hm,ht⟩
  ·cases k1<;>trivial
  ·cases k1 with
   |cells c1 mu1 tl1=>
    refine⟨hs.1,?_,λx=>⟨?_,(hs.2.2 x).2⟩⟩
    ·cases mu' with
     |false=>rfl
     |true=>have:=hs.2.1;rw[(hm rfl).1]at this;cases this
    ·cases tl' with
     |false=>rfl
     |true=>have:=(hs.2.2 x).1;rw[ht rfl]at this;cases this
   |_=>first|trivial|exact hs
 |dead=>rcases hw with rfl|rfl<;>cases k1<;>trivial
 |aN es=>rcases hw with rfl|rfl<;>first|exact hs|(cases k1<;>trivial)
 |iter s p=>rcases hw with rfl|rfl<;>first|exact hs|(cases k1<;>trivial)
 |loop a b c d e f=>rcases hw with rfl|rfl<;>first|exact hs|(cases k1<;>trivial)
def wh.br{e k k'}(hw:wh k k')(hb:BR P m w e k):BR P m w e k':=by
 cases k with
 |cells c mu tl=>
  rcases hw with rfl|⟨mu',tl',rfl,hm,ht⟩
  ·trivial
  ·obtain⟨cc,el,fz,h1,h2,h3,h4,h5⟩:=hb;refine⟨cc,el,fz,h1,h2,h3,h4,λx=>⟨(h5 (x.elim (λy=>.inl (hm y).1) (λy=>.inr (ht y)))).1,λy=>?_⟩⟩;rcases x with x|x
   ·exact(h5 (.inl (hm x).1)).2 ((hm x).2 y)
   ·rw[x]at y;cases y
 |dead=>rcases hw with rfl|rfl<;>trivial
 |aN es=>rcases hw with rfl|rfl<;>first|trivial|exact hb
 |iter s p=>rcases hw with rfl|rfl<;>first|trivial|exact hb
 |loop a b c d e f=>rcases hw with rfl|rfl<;>first|trivial|exact hb
def uk(hr:HR P m h w){b k k'}(hb:h[b]? =some k)(hk:wh k k'):HR P m (h.set b k') w/\Grow m h w m (h.set b k') w:=by
 have hbl:b<h.length:=(Ue.1 hb).1;refine⟨⟨?_,?_,?_,hr.fG,hr.lt⟩,⟨λ_ _=>rfl,Si,?_,?_,Uq _,rfl,rfl,rfl,λ_ _ _=>rfl⟩⟩
 ·intro b' e' hb';simpa using hr.cD b' e' hb'
 ·intro b' e' k2 Pd Oi;rw[aX h b b' _ hbl]at Oi;by_cases hbb:b' =b
  ·subst hbb;rw[Ut rfl]at Oi;cases Oi;exact hk.br (hr.dU b' e' k Pd hb)
  ·rw[Ur hbb]at Oi;exact hr.dU b' e' k2 Pd Oi
 ·intro b1 b2 e1 e2 k1 k2 hne PN OD hk1 Oi hcb;rw[aX h b _ _ hbl]at hk1 Oi;by_cases O7:b1=b
  ·subst O7;rw[Ut rfl]at hk1;cases hk1;rw[Ur (λx=>hne x.symm)]at Oi;exact hk.K1 (hr.sep b1 b2 e1 e2 k k2 hne PN OD hb Oi hcb)
  ·rw[Ur O7]at hk1;by_cases O0:b2=b
   ·subst O0;rw[Ut rfl]at Oi;cases Oi;exact hk.KZ (hr.sep b1 b2 e1 e2 k1 k hne PN OD hk1 hb hcb)
   ·exact Kk
 ·intro b' e' hb' Pd;exact absurd (hr.cD _ _ Pd) Om
 ·intro b' hb' ht;unfold dP at ht ⊢;rw[aX h b b' _ hbl]at ht;by_cases hbb:b' =b
  ·subst hbb;rw[Ut rfl]at ht;rw[hb];cases k with
   |cells c mu tl=>
    rcases hk with rfl|⟨mu',tl',rfl,_,h2⟩
    ·cases ht
    ·exact h2 ht
   |dead=>rcases hk with rfl|rfl<;>cases ht
   |aN es=>rcases hk with rfl|rfl<;>cases ht
   |iter s p=>rcases hk with rfl|rfl<;>cases ht
   |loop a b c d e f=>rcases hk with rfl|rfl<;>cases ht
  ·exact z145
def jm(hr:HR P m h w){c vs}(hc:cw m c vs)(h1:c.all AV.one=true)(rest:List Value)(el:TypeId)(mu tl:Bool)(hml:mu=true->tl=true):
  ∃m',m' h.length=some ⟨w.heap.size,0,vs.length+rest.length,true⟩/\HR P m' (h++[.cells c mu tl]) (w.alloc (.cells ⟨vs++rest⟩ el))/\Grow m h w m' (h++[.cells c mu tl]) (w.alloc (.cells ⟨vs++rest⟩ el)):=by
 have hl:=hc.length;refine⟨_,by simp[bH.add],jn hr (.cells ⟨vs++rest⟩ el) (.cells c mu tl) ⟨w.heap.size,0,vs.length+rest.length,true⟩ rfl rfl (λm' hm=>?_)⟩;refine⟨⟨vs++rest⟩,el,(0,0),World.alloc_heap_new w _,⟨by simp;omega,by refine⟨?_,Si⟩;show 0+c.length<=vs.length+rest.length;omega⟩,?_,λ_=>⟨Si,λi _=>by simp⟩,λx=>⟨rfl,λy=>by
  rcases x with x|x
  ·rw[hml x]at y;cases y
  ·rw[x]at y;cases y⟩⟩
 intro i x hx;obtain⟨v,hv,Ok⟩:=hc.get hx;have hi:i<c.length:=(Ue.1 hx).1;refine⟨UJ.1 h1 x (U5 hx),v,?_,VR.mono hm _ _ Ok⟩;show(⟨vs++rest⟩:Array Value)[0+i]? =some v;rw[UX,VF,Ug Om];exact hv
def lQ{sT xT e:TypeId}{i:TypeInfo}{y ts}(hts0:ts[0]? =some sT)(hts1:ts[1]? =some xT)(hs:dD P sT=some (e,i))(hbytes:0<i.bytes)(hbytes':i.bytes<=2^20)
  {d:TypeDesc}(hud:P.underlying xT=some d) (hdk:∀k,d≠.int k) {cz}(hz:(zeroValue e).run P w.drew=.ok cz w.drew) {base}{n cap k}(hcap:cap<n+k) (hb:(n+k)*i.bytes<=2^46)
  (hlen:(Builtin.lenOf y).run P w=.ok k w) {vo vn}(ho:(Builtin.firstCells i.size n (.slice base n cap)).run P w.drew=.ok ⟨vo⟩ w.drew) (hn:(Builtin.firstCells i.size k y).run P w.drew=.ok ⟨vn⟩ w.drew) (T:TypeId) (dO:i.size=cz.cells.size):
  ∃newCap rest,n+k<=newCap/\rest.length=(newCap-(n+k))*i.size/\
   (Builtin.append_ ts T #[.slice base n cap,y]).run P w=.ok (.slice (some ⟨w.heap.size,0,none⟩) (n+k) newCap) (w.drew.alloc (.cells ⟨vo++vn++rest⟩ e)):=by
 obtain⟨hu,hi⟩:=eS hs;have Rx:=Cm (n+k) cap hcap;have hno:¬(Builtin.nextslicecap (n+k) cap*i.bytes > 2^48):=by
  have h1:Builtin.nextslicecap (n+k) cap*i.bytes<=(2*(n+k)+192)*i.bytes:=Vf _ Rx;have h2:(2*(n+k)+192)*i.bytes=2*((n+k)*i.bytes)+192*i.bytes:=by rw[Wm,Nat.mul_assoc]
  omega
 obtain⟨q,hq⟩:∃q:Question,q=.appendCap (n+k) cap e:=⟨_,rfl⟩;obtain⟨nc,Ry⟩:∃nc:Nat,nc=q.cut (w.tape w.drawn q):=⟨_,rfl⟩;have R2:n+k<=nc:=by rw[Ry,hq];show n+k<=(n+k)+_;omega
 have PV:(match d with|.int _=>true|_=>false)=false:=by
  cases d<;>first|rfl|exact absurd rfl (hdk _)
 have OC:∀w,(sizeOf e).run P w=.ok i.size w:=λw=>bK (by simp[dB,hi]) w
 have RH:∀w,(typeInfo e).run P w=.ok i w:=λw=>by simp[typeInfo,hi]
 have PR:¬(i.bytes=0):=Om
 have P6:(choose (.appendCap (n+k) cap e)).run P w=.ok nc w.drew:=by
  rw[run_choose,Ry,hq];rfl
 refine⟨nc,(Builtin.zeroCells cz.cells (nc-(n+k))).toList,R2,by simp[Builtin.zeroCells,dO],?_⟩;simp only[Builtin.append_,hts0,hts1,VF,Vm,Vy,Uy,Ux hu,Uo,OC,Ux hud,UN,PV,
  U3,UC,hlen,Nat.not_le.2 hcap]
 simp only[Sem.run_ite,Uy,RH,Uo,hno,UC,PR,V3,and_false,U3,P6,run_askRoom,ho,hn,hz,UF,UD,newRow,run_newObj,UN];have earr:((⟨vo⟩:Array Value)++⟨vn⟩++Builtin.zeroCells cz.cells (nc-(n+k)))=⟨vo++vn++(Builtin.zeroCells cz.cells (nc-(n+k))).toList⟩:=by
  apply WZ
  simp
 rw[earr];rfl
def kT{c:List AV}{o q:Nat}(h:o+q=c.length):(c.drop o).take q=c.drop o:=UO (by simp;omega)
def IE{sT xT e:TypeId}{i:TypeInfo}{ts:Array TypeId}(hts0:ts[0]? =some sT)(hts1:ts[1]? =some xT)(hs:dD P sT=some (e,i))(hspos:0<i.size)(hbytes:0<i.bytes)(hbytes':i.bytes<=2^20)
  {d:TypeDesc}(hud:P.underlying xT=some d) (hdk:∀k,d≠.int k) {z:AV}(hz:i.zero.bind (kL 4)=some z) (hzs:z.cells.length=i.size)
  (hr:HR P m h w) {x y:AV}{cx cy:Value}(hx:VR m x cx) (hy:VR m y cy) (hf:uN i.size i.bytes x y h v h') (T:TypeId):
  ∃cv w' m',(Builtin.append_ ts T #[cx,cy]).run P w=.ok cv w'/\VR m' v cv/\HR P m' h' w'/\Grow m h w m' h' w':=by
 obtain⟨hu,hi⟩:=eS hs;have hzA:iF P e=some z:=by simp[iF,hi,hz]
 obtain⟨cz,QF,Q7⟩:=iU hzA w.drew m;have Se:i.size=cz.cells.size:=by have:=Q7.cells.length;simp at this;omega
 have OC:∀w,(sizeOf e).run P w=.ok i.size w:=λw=>bK (by simp[dB,hi]) w
 have PV:(match d with|.int _=>true|_=>false)=false:=by
  cases d<;>first|rfl|exact absurd rfl (hdk _)
 have room:∀{base:Option Addr}{n cap k:Nat}{vn:List Value}{w1:World},n+k<=cap->(Builtin.lenOf cy).run P w=.ok k w->(Builtin.firstCells i.size k cy).run P w=.ok ⟨vn⟩ w->
   (match base with|some a=>(storeCells (a.add (n*i.size)) vn).run P w=.ok () w1|none=>w1=w)->
   (Builtin.append_ ts T #[.slice base n cap,cy]).run P w=.ok (.slice base (n+k) cap) w1:=by
  intro base n cap k vn w1 hle hlen Ox bE;cases base with
  |none=>
   subst bE;simp only[Builtin.append_,hts0,hts1,VF,Vm,Vy,Uy,Ux hu,Uo,OC,Ux hud,UN,PV,
    U3,UC,hlen,hle,UD,UF,Ox]
  |some a=>
   simp only at bE;simp only[Builtin.append_,hts0,hts1,VF,Vm,Vy,Uy,Ux hu,Uo,OC,Ux hud,UN,PV,
    U3,UC,hlen,hle,UD,UF,Ox,bE]
 cases hf with
 |none PH OS=>
  obtain⟨hlen,_,_,Ox⟩:=cE hr hy PH;obtain⟨vn,Qc,Ok⟩:=Ox 0 (Uq _);have TC:vn=[]:=by simp[aT]at Ok;exact Ok
  subst TC;rcases OS with rfl|⟨b,o,n,rfl⟩
  ·rw[VR]at hx;subst hx;exact⟨.slice none 0 0,w,m,room Om hlen Qc rfl,rfl,hr,Grow.refl m h w hr.cD⟩
  ·have hx0:=hx;obtain⟨en,ca,cap,OQ,rfl,OL,OW,hroom⟩:=hx;exact⟨.slice (some ca) n cap,w,m,room Om hlen Qc (by simp[storeCells]),hx0,hr,Grow.refl m h w hr.cD⟩
 |new ys k mu PH hk hb OS=>
  subst OS;rw[VR]at hx;subst hx;obtain⟨hlen,Qa,hone,_⟩:=cE hr hy PH;obtain⟨_,_,_,Ox⟩:=cE hr.drew hy PH;obtain⟨vn,Qc,Ok⟩:=Ox k (Uq _);rw[UO Om]at Ok;obtain⟨nc,rest,R2,OO,Ot⟩:=lQ (n:=0) (cap:=0) (base:=none) (vo:=[]) hts0 hts1 hs hbytes hbytes' hud hdk QF Om (by rw[UX];exact hb) hlen (by simp[Builtin.firstCells]) Qc T Se;obtain⟨m',h0,h1,h2⟩:=jm hr.drew Ok hone rest e mu true (λ_=>rfl);have Pc:=Ok.length;refine⟨_,_,m',Ot,⟨_,_,nc,h0,by rw[UX];rfl,Om,λ_=>rfl,?_⟩,by simpa using h1,by simpa using h2.A0⟩;show 0+0+nc*i.size<=vn.length+rest.length;rw[OO,Pc,Qa];have:nc*i.size=k*i.size+(nc-(0+k))*i.size:=by rw[<-Wm];congr 1;omega
  omega
 |on ys k b o n c mu PH hk hb OS hc hl=>
  subst OS;obtain⟨en,ca,cap,OQ,rfl,OL,OW,hroom⟩:=hx;obtain⟨hlen,Qa,hone,Ox⟩:=cE hr hy PH;have RZ:cellsIn i.size h (.slice b o n i.size)=some ((c.drop o).take (n*i.size),n):=by simp[cellsIn,hc];omega
  have hdt:=kT hl;by_cases RK:n+k<=cap
  ·obtain⟨vn,Qc,Ok⟩:=Ox k (Uq _);rw[UO Om]at Ok;have RN:=OW Om;have hr1:(n+k)*i.size<=cap*i.size:=Vf _ RK;rw[Wm]at hr1;obtain⟨w',m',h0,h1,h2,h3⟩:=pO (mu':=false) (k0:=.cells c false false) (q:=n*i.size) hr OQ hc Om (.inl ⟨rfl,hl,rfl⟩) Ok hone Om 0;rw[hdt]at h2 h3;exact Nr
  ·obtain⟨_,_,_,hfo⟩:=cE hr.drew (y:=.slice b o n i.size) ⟨en,ca,cap,OQ,rfl,OL,OW,hroom⟩ RZ;obtain⟨vo,hvo,PB⟩:=hfo n (Uq _);obtain⟨_,_,PD,_⟩:=cE hr (y:=.slice b o n i.size) ⟨en,ca,cap,OQ,rfl,OL,OW,hroom⟩ RZ;obtain⟨_,_,_,Pk⟩:=cE hr.drew hy PH;obtain⟨vn,Qc,Ok⟩:=Pk k (Uq _);rw[UO Om]at Ok;rw[UO (by simp;omega),hdt]at PB;rw[hdt]at PD;obtain⟨nc,rest,R2,OO,Ot⟩:=lQ hts0 hts1 hs hbytes hbytes' hud hdk QF Om hb hlen hvo Qc T Se;obtain⟨g1,g2⟩:=uk (k':=.cells c false false) hr hc (.inr ⟨false,false,rfl,λx=>(by cases x),λx=>(by cases x)⟩);obtain⟨m',h0,h1,h2⟩:=jm g1.drew (PB.append Ok) (by simp[PD,hone]) rest e false true (λ_=>rfl)
   have OE:(h.set b (.cells c false false)).length=h.length:=Si
   rw[OE]at h0;have Pc:=Ok.length;have TB:=PB.length;refine⟨_,_,m',Ot,⟨_,_,nc,h0,rfl,R2,λ_=>rfl,?_⟩,h1,(g2.drew.trans h2 hr.cD)⟩;exact KJ
 |over ys k b o n c mu PH hk hb OS hc hl=>
  subst OS;obtain⟨en,ca,cap,OQ,rfl,OL,OW,hroom⟩:=hx;obtain⟨hlen,Qa,hone,Ox⟩:=cE hr hy PH;have RZ:cellsIn i.size h (.slice b o n i.size)=some ((c.drop o).take (n*i.size),n):=by simp[cellsIn,hc];omega
  by_cases RK:n+k<=cap
  ·obtain⟨vn,Qc,Ok⟩:=Ox k (Uq _);rw[UO Om]at Ok;have RN:=OW Om;have hr1:(n+k)*i.size<=cap*i.size:=Vf _ RK;rw[Wm]at hr1;obtain⟨w',m',h0,h1,h2,h3⟩:=pO (mu':=mu) (k0:=.dead) (q:=n*i.size) hr OQ hc Om (.inr ⟨rfl,rfl⟩) Ok hone Om 0;exact Nr
  ·obtain⟨_,_,_,hfo⟩:=cE hr.drew (y:=.slice b o n i.size) ⟨en,ca,cap,OQ,rfl,OL,OW,hroom⟩ RZ;obtain⟨vo,hvo,PB⟩:=hfo n (Uq _);obtain⟨_,_,PD,_⟩:=cE hr (y:=.slice b o n i.size) ⟨en,ca,cap,OQ,rfl,OL,OW,hroom⟩ RZ;obtain⟨_,_,_,Pk⟩:=cE hr.drew hy PH;obtain⟨vn,Qc,Ok⟩:=Pk k (Uq _);rw[UO Om]at Ok;rw[UO (by simp;omega)]at PB;obtain⟨nc,rest,R2,OO,Ot⟩:=lQ hts0 hts1 hs hbytes hbytes' hud hdk QF Om hb hlen hvo Qc T Se;obtain⟨g1,g2⟩:=uk (k':=.dead) hr hc (.inl rfl);obtain⟨m',h0,h1,h2⟩:=jm g1.drew (PB.append Ok) (by rw[Wj,PD,hone];rfl) rest e mu true (λ_=>rfl);have OE:(h.set b .dead).length=h.length:=Si
   rw[OE]at h0;have Pc:=Ok.length;have TB:=PB.length;refine⟨_,_,m',Ot,⟨_,_,nc,h0,rfl,R2,λ_=>rfl,?_⟩,h1,(g2.drew.trans h2 hr.cD)⟩;exact KJ
 |full ys k b o n c PH hk hb OS hc hl=>
  subst OS;obtain⟨en,ca,cap,OQ,rfl,OL,OW,hroom⟩:=hx;obtain⟨hlen,Qa,hone,Ox⟩:=cE hr hy PH;have RZ:cellsIn i.size h (.slice b o n i.size)=some ((c.drop o).take (n*i.size),n):=by simp[cellsIn,hc];omega
  have hdt:=kT hl;have S1:cap<=n:=by
   obtain⟨_,_,_,_,_,_,_,hex⟩:=hr.dU b en _ OQ hc;have he:=(hex (.inl rfl)).2 rfl;by_cases hle:cap<=n
   ·exact hle
   ·have h2:(n+1)*i.size<=cap*i.size:=Vf _ Om;rw[Vv]at h2;omega
  obtain⟨_,_,_,hfo⟩:=cE hr.drew (y:=.slice b o n i.size) ⟨en,ca,cap,OQ,rfl,OL,OW,hroom⟩ RZ;obtain⟨vo,hvo,PB⟩:=hfo n (Uq _);obtain⟨_,_,PD,_⟩:=cE hr (y:=.slice b o n i.size) ⟨en,ca,cap,OQ,rfl,OL,OW,hroom⟩ RZ;obtain⟨_,_,_,Pk⟩:=cE hr.drew hy PH;obtain⟨vn,Qc,Ok⟩:=Pk k (Uq _);rw[UO Om]at Ok;rw[UO (by simp;omega),hdt]at PB;rw[hdt]at PD;obtain⟨nc,rest,R2,OO,Ot⟩:=lQ hts0 hts1 hs hbytes hbytes' hud hdk QF Om hb hlen hvo Qc T Se;obtain⟨m',h0,h1,h2⟩:=jm hr.drew (PB.append Ok) (by simp[PD,hone]) rest e true true (λ_=>rfl);have Pc:=Ok.length;have TB:=PB.length;refine⟨_,_,m',Ot,⟨_,_,nc,h0,rfl,R2,λ_=>rfl,?_⟩,h1,h2.A0⟩
  exact KJ
def BV(n es cap:Nat)(h:n<=cap):n*es<=cap*es:=Vf _ h
def IC{dT e:TypeId}{i:TypeInfo}{ts}(hts0:ts[0]? =some dT)(hs:dD P dT=some (e,i))(hspos:0<i.size)
  (hr:HR P m h w) {x y}{cx cy}(hx:VR m (ρ x) cx) (hy:VR m (ρ y) cy) (hf:cV (.xH i.size x y) ρ h=some (v,h')) (T:TypeId):
  ∃cv w' m',(Builtin.copy_ ts T #[cx,cy]).run P w=.ok cv w'/\VR m' v cv/\HR P m' h' w'/\Grow m h w m' h' w':=by
 obtain⟨hu,hi⟩:=eS hs;have OC:∀w,(sizeOf e).run P w=.ok i.size w:=λw=>bK (by simp[dB,hi]) w
 simp only[cV]at hf;split at hf
 ·rename_i b o n es' ys k O8 PH;rw[O8]at hx;obtain⟨en,ca,cap,OQ,rfl,OL,OW,hroom⟩:=hx;obtain⟨hlen,Qa,hone,Ox⟩:=cE hr hy PH;obtain⟨vn,Qc,Ok⟩:=Ox (min k n) (Nat.min_le_left _ _);split at hf
  case isFalse=>cases hf
  rename_i hes;subst hes;have QY:Nat.min k n=min k n:=rfl;split at hf
  ·rename_i h0;cases hf;have TC:vn=[]:=by rw[h0]at Ok;simp[aT]at Ok;exact Ok
   subst TC;refine⟨.int .i64 0,w,m,?_,rfl,hr,Grow.refl m h w hr.cD⟩;simp only[Builtin.copy_,hts0,VF,Vm,Vy,Uy,Ux hu,Uo,hlen,OC,QY,Qc,UN,storeCells];simp[goInt,h0]
  ·rename_i h0;split at hf
   case h_2=>cases hf
   rename_i c tl hb;split at hf
   case isFalse=>cases hf
   rename_i hle;cases hf;have QT:(ys.take (min k n*i.size)).all AV.one=true:=by
    rw[UJ]at hone ⊢
    exactλa ha=>hone a (Vi ha)
   have SW:(ys.take (min k n*i.size)).length=min k n*i.size:=by
    have:=BV (min k n) i.size k (Nat.min_le_left _ _);simp;omega
   obtain⟨w',bE,h1,h2⟩:=na (ys.take (min k n*i.size)) vn hr OQ hb o 0 Om QT Ok;refine⟨.int .i64 (min k n:Nat),w',m,?_,rfl,h1,h2⟩;have RN:=OW Om;subst RN;simp only[Builtin.copy_,hts0,VF,Vm,Vy,Uy,Ux hu,Uo,hlen,OC,QY,Qc,UN,bE,goInt]
 ·rename_i O8 PH;rename_i p;obtain⟨ys,k⟩:=p;rw[O8,VR]at hx;subst hx;cases hf;obtain⟨hlen,Qa,hone,Ox⟩:=cE hr hy PH;obtain⟨vn,Qc,Ok⟩:=Ox 0 (UK _);have QY:Nat.min k 0=0:=Nat.min_zero k;refine⟨.int .i64 0,w,m,?_,rfl,hr,Grow.refl m h w hr.cD⟩;simp only[Builtin.copy_,hts0,VF,Vm,Vy,Uy,Ux hu,Uo,hlen,OC,QY,Qc,UN,goInt];rfl
 ·cases hf
end
section
variable {P:Program}{m:bH}{h h':af}{w:World}{ρ:cK->AV}{v:AV}
theorem uF:∀{l}{vs}{bs},cw m l vs->l.mapM byteOf=some bs->
  ∀(acc:ByteArray),(forIn (m:=Sem) vs acc λc s=>
    match c with
    |.int .u8 n=>pure (ForInStep.yield (s.push (UInt8.ofNat n.toNat)))
    |_=>do
     (stuck "bytesToString: byte expected" :Sem PUnit)
     pure (ForInStep.yield s)).run P w=.ok ⟨⟨acc.data.toList++bs⟩⟩ w
 |[],vs,bs,hv,hb,acc=>by
  rw[aT]at hv;subst hv;simp at hb;subst hb;simp
 |x::xs,vs,bs,hv,hb,acc=>by
  obtain⟨y,ys,rfl,hy,hys⟩:=aF.1 hv;simp only[WT,Wo,W8]at hb;cases hx:byteOf x with
  |none=>simp[hx]at hb
  |some b=>
   cases hl:xs.mapM byteOf with
   |none=>simp[hx,hl]at hb
   |some bs'=>
    simp[hx,hl]at hb;subst hb;unfold byteOf at hx;split at hx
    case h_2=>cases hx
    rename_i n;cases hx;rw[VR]at hy;subst hy;have:=uF hys hl (acc.push (UInt8.ofNat n.toNat));simp only[List.forIn_cons,Uy,UN,Uo];rw[this];simp[ByteArray.push]
def wZ{e:TypeId}(h:CR P e=true):P.underlying e=some (.int .u8):=by
 unfold CR at h;split at h
 ·assumption
 ·cases h
def Fx{s d:TypeId}{k x cx}(hk:Bd P s d=some k)(hr:HR P m h w)(hx:VR m (ρ x) cx)(hf:cV (.conv k x) ρ h=some (v,h')):
  ∃cv w' m',(convert s d cx).run P w=.ok cv w'/\VR m' v cv/\HR P m' h' w'/\Grow m h w m' h' w':=by
 simp only[cV]at hf;have same:∀{cv:Value},(convert s d cx).run P w=.ok cv w->VR m v cv->h' =h->∃cv w' m',(convert s d cx).run P w=.ok cv w'/\VR m' v cv/\HR P m' h' w'/\Grow m h w m' h' w':=by
  intro cv h1 h2 h3;exact HC
 unfold Bd at hk;split at hk
 ·rename_i k1 k2 hs hd;cases hk;simp only[jl]at hf;split at hf
  case h_2=>cases hf
  rename_i hρ;rw[hρ,VR]at hx;subst hx;cases hf;exact same (by simp[convert,Ux hs,Ux hd,Conv.intToInt]) rfl rfl
 ·rename_i k1 k2 hs hd;cases hk;simp only[jl]at hf;split at hf
  case h_2=>cases hf
  rename_i hρ;rw[hρ,VR]at hx;subst hx;cases hf;exact same (by simp[convert,Ux hs,Ux hd,Conv.intToFloat]) ⟨_,rfl,.inl rfl⟩ rfl
 ·rename_i k1 k2 hs hd;cases hk;simp only[jl]at hf;split at hf
  case h_2=>cases hf
  rename_i sk b hρ;rw[hρ]at hx;obtain⟨b',rfl,hfr⟩:=hx;split at hf
  case h_2=>cases hf
  rename_i n hn;split at hf
  case isFalse=>cases hf
  rename_i hc;cases hf;have hbb:b' =b:=by
   rcases hfr with h1|⟨h1,_⟩
   ·exact h1
   ·rw[hc.1]at h1;cases h1
  subst hbb;exact same (by simp[convert,Ux hs,Ux hd,Conv.floatToInt,hn,hc.2]) rfl rfl
 ·rename_i k1 k2 hs hd;cases hk;simp only[jl]at hf;split at hf
  case h_2=>cases hf
  rename_i sk b hρ;rw[hρ]at hx;obtain⟨b',rfl,hfr⟩:=hx;split at hf
  case isFalse=>cases hf
  rename_i hc;cases hf;subst hc;exact same (by simp[convert,Ux hs,Ux hd,Conv.floatToFloat]) ⟨_,rfl,hfr⟩ rfl
 ·rename_i hs hd;cases hk;simp only[jl]at hf;split at hf
  case h_2=>cases hf
  rename_i hρ;rw[hρ,VR]at hx;subst hx;cases hf;exact same (by simp[convert,Ux hs,Ux hd]) rfl rfl
 ·rename_i e hs hd;split at hk
  case isFalse=>cases hk
  rename_i he;have hue:P.underlying e=some (.int .u8):=wZ he;cases hk;simp only[jl]at hf;split at hf
  case h_2=>cases hf
  rename_i s hρ;rw[hρ,VR]at hx;subst hx;cases hf;obtain⟨q,hq⟩:∃q:Question,q=.appendCap s.length 0 e:=⟨_,rfl⟩;obtain⟨nc,Ry⟩:∃nc:Nat,nc=q.cut (w.tape w.drawn q):=⟨_,rfl⟩;have R2:s.length<=nc:=by rw[Ry,hq];show s.length<=s.length+_;omega
  have P6:(choose (.appendCap s.length 0 e)).run P w=.ok nc w.drew:=by
   rw[run_choose,Ry,hq];rfl
  let vs:List Value:=s.map λb=>.int .u8 b.toNat
  let rest:List Value:=List.replicate (nc-s.length) (.int .u8 0)
  have Pc:vs.length=s.length:=by simp[vs]
  have Po:rest.length=nc-s.length:=by simp[rest]
  let W:World:=(w.drew.alloc (.cells ⟨vs++rest⟩ e))
  let W':World:=W.freeze ⟨w.heap.size,nc,none⟩ 1
  have hWh:W.heap[w.heap.size]? =some (.cells ⟨vs++rest⟩ e):=World.alloc_heap_new w.drew _;have hlt:w.heap.size<W.heap.size:=(Uu.1 hWh).1;have hW':W'.heap[w.heap.size]? =some (.cells ⟨vs++rest⟩ e (nc,nc+1)):=by
   have hk:W.heap[w.heap.size]=.cells ⟨vs++rest⟩ e:=(Uu.1 hWh).2;show((if(1:Nat)=0 then W else {W with heap:=W.heap.modify w.heap.size _}).heap)[w.heap.size]? =_;rw[Ur Om];show(W.heap.modify w.heap.size _)[w.heap.size]? =_;rw[UZ (by rw[Array.size_modify];exact hlt),Array.getElem_modify_self,hk];rfl
  have hother:∀i,i≠w.heap.size->W'.heap[i]? =W.heap[i]? :=by
   intro i hi;show((if(1:Nat)=0 then W else {W with heap:=W.heap.modify w.heap.size _}).heap)[i]? =_;rw[Ur Om];show(W.heap.modify w.heap.size _)[i]? =_;rw[Array.getElem?_modify,Ur (λx=>hi x.symm)]
  have OC:W'.heap.size=W.heap.size:=by
   show((if(1:Nat)=0 then W else {W with heap:=W.heap.modify w.heap.size _}).heap).size=_;rw[Ur Om];simp
  obtain⟨m',h0,h1,h2⟩:=jm hr.drew (lj m s) (pE s) rest e true true (λ_=>rfl);have h0':m' h.length=some ⟨w.heap.size,0,vs.length+rest.length,true⟩:=h0;have hne:∀b e2 k2,m' b=some e2->b≠h.length->(h++[.cells (s.map λb=>.int .u8 b.toNat) true true])[b]? =some k2->k2.live=true->e2.cb≠w.heap.size:=by
   intro b e2 k2 hb hbl Oi hl hcb;have:=h1.sep h.length b _ e2 (.cells (s.map λb=>.int .u8 b.toNat) true true) k2 (λx=>hbl x.symm) h0' hb Si Oi hcb.symm;cases k2<;>first|exact absurd this.1 Si|exact this|(cases hl;done)
  have hgrow:Grow m h w m' (h++[.cells (s.map λb=>.int .u8 b.toNat) true true]) W':=by
   have g:=h2.A0;refine⟨g.ext,g.len,g.new,g.tl,by rw[OC];exact g.size,?_,?_,?_,?_⟩
   ·exact g.os
   ·exact g.out
   ·exact g.tape
   ·intro i hi hno;rw[hother i Om];exact g.frame i hi hno
  refine⟨.slice (some ⟨w.heap.size,0,none⟩) s.length nc,W',m',?_,⟨_,_,nc,h0',rfl,R2,λ_=>rfl,by show 0+0+nc*1<=vs.length+rest.length;omega⟩,⟨h1.cD,?_,h1.sep,h1.fG,λb' e' hb'=>by have:=h1.lt b' e' hb';rw[OC];exact this⟩,hgrow⟩
  ·have dO:(⟨⟨s⟩⟩:ByteArray).size=s.length:=rfl;have Qw:(⟨s⟩:Array UInt8).map (λb=>Value.int .u8 b.toNat)=⟨vs⟩:=by apply WZ;simp[vs]
   have O4:(⟨vs⟩:Array Value)++Array.replicate (nc-s.length) (.int .u8 0)=⟨vs++rest⟩:=by apply WZ;simp[rest]
   have TG:W.shape? w.heap.size=some (e,nc):=by
    simp only[World.shape?,hWh];simp[Pc,Po];omega
   simp only[convert,Uy,Ux hs,Ux hd,Uo,Ux hue,Conv.stringToBytes,dO,P6,Qw,O4,newRow,run_newObj,UN];simp only[markStringish,Uy,run_shape];have OX:World.shape? {heap:=w.drew.heap.push (Obj.cells ⟨vs++rest⟩ e),tape:=w.drew.tape,drawn:=w.drew.drawn,os:=w.drew.os,output:=w.drew.output} w.drew.heap.size=some (e,nc):=TG;simp only[OX,Uo,run_freeze];rfl
  ·intro b e2 k2 hb Oi;have PR:=h1.dU b e2 k2 hb Oi;by_cases hbl:b=h.length
   ·subst hbl;rw[h0']at hb;cases hb;simp at Oi;subst Oi;obtain⟨cc,el,fz,hh,h3,h4,h5,h6⟩:=PR;have hWh':W.heap[w.heap.size]? =some (.cells cc el fz):=hh;rw[hWh]at hWh';cases hWh';refine⟨⟨vs++rest⟩,e,(nc,nc+1),hW',h3,h4,λ_=>⟨(h5 rfl).1,λi hi=>?_⟩,h6⟩;have:(⟨vs++rest⟩:Array Value).size=nc:=by simp[Pc,Po];omega
    simp only;omega
   ·by_cases hl:k2.live=true
    ·exact PR.heap (hother _ (hne b e2 k2 hb hbl Oi hl))
    ·exact z117
 ·rename_i e hs hd;split at hk
  case isFalse=>cases hk
  rename_i he;have hue:P.underlying e=some (.int .u8):=wZ he;cases hk;simp only[jl]at hf;split at hf
  ·rename_i hρ;rw[hρ,VR]at hx;subst hx;cases hf;exact same (by simp[convert,Ux hs,Ux hd,Ux hue,Conv.bytesToString];rfl) rfl rfl
  ·rename_i b o n es hρ;rw[hρ]at hx;split at hf
   case h_2=>cases hf
   rename_i l k hc;split at hf
   case h_2=>cases hf
   rename_i r hl;cases hf;obtain⟨hlen,Qa,hone,Ox⟩:=cE hr hx hc;obtain⟨vs,OI,Ok⟩:=Ox k (Uq _);rw[UO Om]at Ok;have hkn:k=n:=by
    unfold cellsIn at hc;simp only at hc;split at hc
    ·split at hc
     ·split at hc
      ·cases hc;rfl
      ·cases hc
     ·cases hc
    ·cases hc
   subst hkn;obtain⟨en,ca,cap,OQ,rfl,OL,OW,hroom⟩:=hx;simp only[Builtin.firstCells,Wp]at OI;refine same (cv:=.string ⟨⟨r⟩⟩) ?_ rfl rfl;have hb:=uF (P:=P) (w:=w) Ok hl ByteArray.empty;simp only[convert,Uy,Ux hs,Ux hd,Uo,Ux hue,Conv.bytesToString,OI];rw[<-Array.forIn_toList]
   erw [hb]
   simp
  ·cases hf
 ·cases hk
theorem ur:∀{l}{vs}{x v}{cx},VR m x cx->cw m l vs->gu nX x l=some v->∃cv,(vs.foldlM (m:=Sem) Builtin.max2 cx).run P w=.ok cv w/\VR m v cv
 |[],vs,x,v,cx,hx,hl,hf=>by
  exact Hy
 |y::l,vs,x,v,cx,hx,hl,hf=>by
  obtain⟨cy,vs',rfl,hy,OJ⟩:=aF.1 hl;simp only[gu]at hf;split at hf
  case h_2=>cases hf
  rename_i z hz;unfold nX at hz;split at hz
  case h_2=>cases hz
  rename_i k a k' b;split at hz
  case isFalse=>cases hz
  cases hz;rw[VR]at hx hy;subst hx;subst hy;obtain⟨cv,h1,h2⟩:=ur (x:=.int k (if b > a then b else a)) (cx:=.int k (if b > a then b else a)) rfl OJ hf;exact⟨cv,by simp only[List.foldlM_cons,Uy,Builtin.max2,UN,Uo];exact h1,h2⟩
theorem uq:∀{l}{vs}{x v}{cx},VR m x cx->cw m l vs->gu nW x l=some v->∃cv,(vs.foldlM (m:=Sem) Builtin.min2 cx).run P w=.ok cv w/\VR m v cv
 |[],vs,x,v,cx,hx,hl,hf=>by
  exact Hy
 |y::l,vs,x,v,cx,hx,hl,hf=>by
  obtain⟨cy,vs',rfl,hy,OJ⟩:=aF.1 hl;simp only[gu]at hf;split at hf
  case h_2=>cases hf
  rename_i z hz;unfold nW at hz;split at hz
  case h_2=>cases hz
  rename_i k a k' b;split at hz
  case isFalse=>cases hz
  cases hz;rw[VR]at hx hy;subst hx;subst hy;obtain⟨cv,h1,h2⟩:=uq (x:=.int k (if b<a then b else a)) (cx:=.int k (if b<a then b else a)) rfl OJ hf;exact⟨cv,by simp only[List.foldlM_cons,Uy,Builtin.min2,UN,Uo];exact h1,h2⟩
def zQ{t e:TypeId}{i:TypeInfo}{n:Nat}{z:AV}{ps:Array (Nat×Operand)}{l:List (Nat×cK)}{σ:Operand->Value}(hs:dD P t=some (e,i))(hz:iF P e=some z)
  (hl:ps.toList.mapM (λp=>(cJ p.2).map λy=>(p.1*i.size,y))=some l) (hspos:0<i.size) (hzs:z.cells.length=i.size) (h1:z.cells.all AV.one=true) (hn:n*i.size<=2^24)
  (hr:HR P m h w) (hρ:∀p∈ps.toList,∀y,cJ p.2=some y->VR m (ρ y) (σ p.2)) {c:List AV}(hf:dW (du n z.cells) (l.map λp=>(p.1,i.size,ρ p.2))=some c) (hc1:c.all AV.one=true) (hcl:c.length=n*i.size) (mu tl:Bool):
  ∃cv w' m',(Instr.buildSlice t n (ps.map λ(i,x)=>(i,σ x))).run P w=.ok cv w'/\VR m' (.slice h.length 0 n i.size) cv/\HR P m' (h++[.cells c mu tl]) w'/\Grow m h w m' (h++[.cells c mu tl]) w':=by
 have _:=h1;obtain⟨hu,hi⟩:=eS hs;obtain⟨cz,QF,Q7⟩:=iU hz w m;have hzc:=Q7.cells;have dO:cz.cells.size=z.cells.length:=by have:=hzc.length;simpa using this
 have hzero:∀(row:Array Value),row=(Array.range (n*cz.cells.size)).map (cz.cells[·% cz.cells.size]!)->cw m (du n z.cells) row.toList:=by
  intro row hrow;have:=qo hzc Om n n (Uq _);rw[<-hrow,UO]at this
  ·exact this
  ·rw[hrow];simp[dO]
 have TM:∀(qs:List (Nat×Operand)) (l:List (Nat×cK)),qs.mapM (λp=>(cJ p.2).map λy=>(p.1*i.size,y))=some l->qs.length=l.length/\∀(j:Nat) p q,qs[j]? =some p->l[j]? =some q->q.1=p.1*i.size/\cJ p.2=some q.2:=by
  intro qs
  induction qs with
  |nil=>intro l hl;simp at hl;subst hl;exact⟨rfl,λj p q hp=>by simp at hp⟩
  |cons p qs ih=>
   intro l hl;simp only[WT,Wo,W8]at hl;cases ho:cJ p.2 with
   |none=>simp[ho]at hl
   |some y=>
    cases hr':qs.mapM (λp=>(cJ p.2).map λy=>(p.1*i.size,y))with
    |none=>simp[ho,hr']at hl
    |some l'=>
     simp[ho,hr']at hl;subst hl;obtain⟨h2,h3⟩:=ih l' hr';refine⟨by simp[h2],λj a b ha hb=>?_⟩;cases j with
     |zero=>simp at ha hb;subst ha;subst hb;exact⟨rfl,ho⟩
     |succ j=>exact h3 j a b (by simpa using ha) (by simpa using hb)
 obtain⟨QM,hpq⟩:=TM _ _ hl;by_cases TO:n*i.size=0
 ·have hnz:n=0:=by
   rcases Nat.mul_eq_zero.1 TO with h|h
   ·exact h
   ·omega
  obtain⟨OY,Pr,OI⟩:=oD (m:=m) (λj=>some (j*i.size,i.size)) (ps.toList.map λp=>(p.1,σ p.2)) (l.map λp=>(p.1,i.size,ρ p.2)) (du n z.cells) #[] c (by simp[QM])
   (λj p q hp hq=>by
    simp only[Vw,Uz]at hp hq;obtain⟨p0,hp0,rfl⟩:=hp;obtain⟨q0,hq0,rfl⟩:=hq;obtain⟨h2,h3⟩:=hpq j p0 q0 hp0 hq0;exact⟨by simp[h2],hρ p0 (U5 hp0) _ h3⟩) (by subst hnz;simp[du,aT]) hf
  obtain⟨m',h2,h3,h4⟩:=j9 hr OI hc1 e mu tl;have Pc:=OI.length;refine⟨.slice (some ⟨w.heap.size,0,none⟩) n n,_,m',?_,⟨_,_,n,h2,rfl,Uq _,λ_=>rfl,by show 0+0+n*i.size<=OY.toList.length;omega⟩,h3,h4⟩;have OH:¬(n*i.size > 2^24):=Om
  have OC:(sizeOf e).run P w=.ok i.size w:=bK (by simp[dB,hi]) w;have e0:(Array.range 0).map (λx=>(#[] :Array Value)[x%(#[] :Array Value).size]!)=#[]:=Si
  simp only[Instr.buildSlice,Uy,Ux hu,Uo,OC,OH,UC];simp only[TO,UD,Uy,Uo,UN,e0];exact M1
 ·obtain⟨OY,Pr,OI⟩:=oD (m:=m) (λj=>some (j*i.size,i.size)) (ps.toList.map λp=>(p.1,σ p.2)) (l.map λp=>(p.1,i.size,ρ p.2)) (du n z.cells) ((Array.range (n*i.size)).map (cz.cells[·% cz.cells.size]!)) c (by simp[QM])
   (λj p q hp hq=>by
    simp only[Vw,Uz]at hp hq;obtain⟨p0,hp0,rfl⟩:=hp;obtain⟨q0,hq0,rfl⟩:=hq;obtain⟨h2,h3⟩:=hpq j p0 q0 hp0 hq0;exact⟨by simp[h2],hρ p0 (U5 hp0) _ h3⟩) (hzero _ (by rw[dO,hzs])) hf
  obtain⟨m',h2,h3,h4⟩:=j9 hr OI hc1 e mu tl;have Pc:=OI.length;refine⟨.slice (some ⟨w.heap.size,0,none⟩) n n,_,m',?_,⟨_,_,n,h2,rfl,Uq _,λ_=>rfl,by show 0+0+n*i.size<=OY.toList.length;omega⟩,h3,h4⟩;have OH:¬(n*i.size > 2^24):=Om
  have OC:(sizeOf e).run P w=.ok i.size w:=bK (by simp[dB,hi]) w;simp only[Instr.buildSlice,Uy,Ux hu,Uo,OC,OH,UC,TO,UN,QF];exact M1
def ux{op}{t:TypeId}{x y xs ys}(hm:P.eqGuardType P.depth t=false):(eqGuard op t x y (.agg xs) (.agg ys)).run P w=.ok () w:=by
 cases op<;>simp[eqGuard,run_program,hm]
def jz{op}{t:TypeId}{x y a b}(h1:∀l,a≠.agg l)(h2:a≠.nilIface):(eqGuard op t x y a b).run P w=.ok () w:=by
 cases op<;>cases a<;>first
  |rfl
  |exact absurd rfl h2
  |exact absurd rfl (h1 _)
def VR.IU{x cx}(hx:VR m x cx)(h1:x.one=true):(∀l,cx≠.agg l)/\cx≠.nilIface:=by
 have hc:=hx.rO h1;refine⟨λl e=>?_,λe=>?_⟩
 ·subst e;cases hc
 ·subst e;cases x<;>simp[VR,AV.one]at hx h1
def B6{t:TypeId}{e:TypeId}(hu:P.underlying t=some (.slice e)){x y cx cy b}(hx:VR m x cx)(hy:VR m y cy)(hb:Ma x y=some b)(d:Nat):
  (Op.equalIn (d+1) t cx cy).run P w=.ok b w/\(∀l,cx≠.agg l)/\cx≠.nilIface/\(binOp .eql t cx cy=do pure (.bool (<-Op.equal t cx cy)))/\(binOp .neq t cx cy=do pure (.bool (!(<-Op.equal t cx cy)))):=by
 unfold Ma at hb;split at hb
 ·rw[VR]at hx hy;subst hx;subst hy;cases hb;exact y3
 ·rw[VR]at hx;obtain⟨_,ca,cap,_,rfl,_⟩:=hy;subst hx;cases hb;exact y3
 ·rw[VR]at hy;obtain⟨_,ca,cap,_,rfl,_⟩:=hx;subst hy;cases hb;exact y3
 ·cases hb
def B7{t:TypeId}{e:TypeId}(hu:P.underlying t=some (.pointer e)){x y cx cy b}(hx:VR m x cx)(hy:VR m y cy)(hb:Mb x y=some b)(d:Nat):
  (Op.equalIn (d+1) t cx cy).run P w=.ok b w/\(∀l,cx≠.agg l)/\cx≠.nilIface/\(binOp .eql t cx cy=do pure (.bool (<-Op.equal t cx cy)))/\(binOp .neq t cx cy=do pure (.bool (!(<-Op.equal t cx cy)))):=by
 unfold Mb at hb;split at hb
 ·rw[VR]at hx hy;subst hx;subst hy;cases hb;exact y3
 ·rw[VR]at hx;obtain⟨_,_,rfl⟩:=hy;subst hx;cases hb;exact y3
 ·rw[VR]at hy;obtain⟨_,_,rfl⟩:=hx;subst hy;cases hb;exact y3
 ·cases hb
def B9{t:TypeId}{e f g}(hu:P.underlying t=some (.func e f g)){x y cx cy b}(hx:VR m x cx)(hy:VR m y cy)(hb:Md x y=some b)(d:Nat):
  (Op.equalIn (d+1) t cx cy).run P w=.ok b w/\(∀l,cx≠.agg l)/\cx≠.nilIface/\(binOp .eql t cx cy=do pure (.bool (<-Op.equal t cx cy)))/\(binOp .neq t cx cy=do pure (.bool (!(<-Op.equal t cx cy)))):=by
 unfold Md at hb;split at hb
 ·rw[VR]at hx hy;subst hx;subst hy;cases hb;exact y3
 ·rw[VR]at hx;obtain⟨_,_,_,rfl,_⟩:=hy;subst hx;cases hb;exact y3
 ·rw[VR]at hy;obtain⟨_,_,_,rfl,_⟩:=hx;subst hy;cases hb;exact y3
 ·cases hb
def B8{t:TypeId}{e f:TypeId}(hu:P.underlying t=some (.map e f)){x y cx cy b}(hx:VR m x cx)(hy:VR m y cy)(hb:Mc x y=some b)(d:Nat):
  (Op.equalIn (d+1) t cx cy).run P w=.ok b w/\(∀l,cx≠.agg l)/\cx≠.nilIface/\(binOp .eql t cx cy=do pure (.bool (<-Op.equal t cx cy)))/\(binOp .neq t cx cy=do pure (.bool (!(<-Op.equal t cx cy)))):=by
 unfold Mc at hb;split at hb
 ·rw[VR]at hx hy;subst hx;subst hy;cases hb;exact y3
 ·rw[VR]at hx;obtain⟨_,_,rfl⟩:=hy;subst hx;cases hb;exact y3
 ·rw[VR]at hy;obtain⟨_,_,rfl⟩:=hx;subst hy;cases hb;exact y3
 ·cases hb
def Es{t:TypeId}{neg k x y ox oy cx cy}(hk:Gv P neg t x y=some (.eqv neg k x y))(hx:VR m (ρ x) cx)(hy:VR m (ρ y) cy)(hf:cV (.eqv neg k x y) ρ h=some (v,h')):
  ∃cv,(do eqGuard (if neg then .neq else .eql) t ox oy cx cy;binOp (if neg then .neq else .eql) t cx cy:Sem Value).run P w=.ok cv w/\VR m v cv/\h' =h:=by
 simp only[cV]at hf;split at hf
 case h_2=>cases hf
 rename_i b hb;cases hf;have fin:(eqGuard (if neg then .neq else .eql) t ox oy cx cy).run P w=.ok () w->(Op.equalIn 10000 t cx cy).run P w=.ok b w->(binOp .eql t cx cy=do pure (.bool (<-Op.equal t cx cy)))->(binOp .neq t cx cy=do pure (.bool (!(<-Op.equal t cx cy))))->
   ∃cv,(do eqGuard (if neg then .neq else .eql) t ox oy cx cy;binOp (if neg then .neq else .eql) t cx cy:Sem Value).run P w=.ok cv w/\VR m (.bool (if neg then !b else b)) cv/\h=h:=by
  intro h1 h2 h3 h4;refine⟨.bool (if neg then !b else b),?_,rfl,rfl⟩;simp only[Uy,h1,Uo];cases neg
  ·simp only[U3,UC,h3,Uy,Op.equal,Op.maxDepth,h2,Uo,UN]
  ·simp only[UD,h4,Uy,Op.equal,Op.maxDepth,h2,Uo,UN]
 unfold Gv at hk;split at hk<;>first
  |(cases hk;done)
  |skip
 ·rename_i hu;cases hk;have hb':cR .b (ρ x) (ρ y)=some b:=hb;have hone:(ρ x).one=true:=by unfold cR at hb';split at hb'<;>first|(cases hb';done)|simp_all [AV.one]
  obtain⟨n1,n2⟩:=hx.IU hone;obtain⟨a,c,hxa,PH⟩:∃a c,ρ x=.bool a/\ρ y=.bool c:=by unfold cR at hb';split at hb'<;>first|(cases hb';done)|simp_all
  rw[hxa,VR]at hx;rw[PH,VR]at hy;subst hx;subst hy;refine fin (jz n1 n2) ?_ rfl rfl;exact pf (m:=m) (t:=t) (k:=.b) hu (x:=.bool a) (y:=.bool c) rfl rfl (by rw[<-hxa,<-PH];exact hb') 9999
 ·rename_i fs hu;exact Nx
 ·rename_i n e hu;exact Nx
 ·rename_i e hu;cases hk;obtain⟨h1,h2,h3,h4,h5⟩:=B6 (w:=w) hu hx hy hb 9999;exact BM
 ·rename_i e hu;cases hk;obtain⟨h1,h2,h3,h4,h5⟩:=B7 (w:=w) hu hx hy hb 9999;exact BM
 ·rename_i hu;cases hk;obtain⟨h1,h2,h3,h4,h5⟩:=B9 (w:=w) hu hx hy hb 9999;exact BM
 ·rename_i hu;cases hk;obtain⟨h1,h2,h3,h4,h5⟩:=B8 (w:=w) hu hx hy hb 9999;exact BM
end
def kX(k:mU)(ρ:cK->AV)(h:af)(v:AV)(h':af):Prop:=
 match k with
 |.call _ _=>False
 |.app es w x y=>uN es w (ρ x) (ρ y) h v h'
 |.aY es n z ps=>∃c mu tl,dW (du n z) (ps.map λp=>(p.1,es,ρ p.2))=some c/\c.all AV.one=true/\c.length=n*es/\v=.slice h.length 0 n es/\h' =h++[.cells c mu tl]
 |k=>cV k ρ h=some (v,h')
section
variable {P:Program}{m:bH}{h h':af}{w:World}{ρ:cK->AV}{v:AV}{σ:Operand->Value}
def ed.lG{r:Result Value}(hr:HR P m h w)(hx:∃cv,r=.ok cv w/\VR m v cv/\h' =h){R:Result Next}(hR:∀cv,r=.ok cv w->R=.ok (.value cv) w):ed P m h w v h' R:=by
 obtain⟨cv,h1,h2,rfl⟩:=hx;exact ed.same hr h2 (hR cv h1)
def ed.x7{r:Result Value}(hx:∃cv w' m',r=.ok cv w'/\VR m' v cv/\HR P m' h' w'/\Grow m h w m' h' w'){R:Result Next}(hR:∀cv w',r=.ok cv w'->R=.ok (.value cv) w'):ed P m h w v h' R:=by
 obtain⟨cv,w',m',h1,h2,h3,h4⟩:=hx;exact⟨cv,w',m',.inl (hR cv w' h1),h2,h3,h4⟩
def lY{l l'}(hl:wO l=some l')(hρ:∀x∈l,∀x',cJ x=some x'->VR m (ρ x') (σ x)):cw m (l'.map ρ) (l.map σ).toList:=by
 have key:∀(l:List Operand) (l':List cK),l.mapM cJ=some l'->(∀x∈l,∀x',cJ x=some x'->VR m (ρ x') (σ x))->cw m (l'.map ρ) (l.map σ):=by
  intro l
  induction l with
  |nil=>intro l' h _;simp at h;subst h;exact aT.2 rfl
  |cons x l ih=>
   intro l' h hρ;simp only[WT,Wo,W8]at h;cases hx:cJ x with
   |none=>simp[hx]at h
   |some y=>
    cases hl:l.mapM cJ with
    |none=>simp[hx,hl]at h
    |some l2=>
     simp[hx,hl]at h;subst h;exact aF.2 ⟨_,_,rfl,hρ x Si y hx,ih l2 hl (λx' Oo=>hρ x' (by simp[Oo]))⟩
 have:=key l.toList l' hl (λx hx=>hρ x (by simpa using hx))
 simpa using this
def pr{lo lo'}(hl:tz lo=some lo')(hρ:∀x∈lo,∀x',cJ x=some x'->VR m (ρ x') (σ x)):
  mT m ρ lo' (lo.map σ):=by
 cases lo with
 |none=>simp[tz]at hl;subst hl;trivial
 |some x=>
  simp only[tz,Uz]at hl;obtain⟨y,hy,rfl⟩:=hl;exact hρ x rfl y hy
def ID{op}{t:TypeId}{x y ox oy cx cy}(hr:HR P m h w)(hx:VR m (ρ x) cx)(hy:VR m (ρ y) cy)(hf:cV (.bin op x y) ρ h=some (v,h')):
  ∃cv w' m',(do eqGuard op t ox oy cx cy;binOp op t cx cy:Sem Value).run P w=.ok cv w'/\VR m' v cv/\HR P m' h' w'/\Grow m h w m' h' w':=by
 simp only[cV]at hf;split at hf
 case h_2=>cases hf
 rename_i u hu;cases hf;have fin:∀{cv:Value},(eqGuard op t ox oy cx cy).run P w=.ok () w->(binOp op t cx cy).run P w=.ok cv w->VR m v cv->
   ∃cv w' m',(do eqGuard op t ox oy cx cy;binOp op t cx cy:Sem Value).run P w=.ok cv w'/\VR m' v cv/\HR P m' h w'/\Grow m h w m' h w':=by
  intro cv h1 h2 h3;exact⟨cv,w,m,by simp only[Uy,h1,Uo,h2],h3,hr,Grow.refl m h w hr.cD⟩
 unfold dM at hu;split at hu
 ·rename_i k a k' b O8 Tw;rw[O8,VR]at hx;rw[Tw,VR]at hy;subst hx;subst hy;have hg:(eqGuard op t ox oy (.int k a) (.int k' b)).run P w=.ok () w:=jz (λl=>by simp) Si;split at hu
  ·rename_i hs;obtain⟨cv,h1,h2⟩:=vi (P:=P) (m:=m) (w:=w) (k':=k') hs hu t;exact fin hg h1 h2
  ·rename_i hs;split at hu
   case isFalse=>cases hu
   rename_i hk;subst hk;obtain⟨cv,h1,h2⟩:=vk (P:=P) (m:=m) (w:=w) (by simpa using hs) hu t;exact fin hg h1 h2
 ·rename_i a b O8 Tw;rw[O8,VR]at hx;rw[Tw,VR]at hy;subst hx;subst hy;obtain⟨cv,h1,h2⟩:=vh (P:=P) (m:=m) (w:=w) hu t;exact fin (jz (λl=>by simp) Si) h1 h2
 ·cases hu
def qj{b ts l k Ps}(hk:mA P b ts l=some k)(hargs:cw m (l.map ρ) Ps.toList)(hr:HR P m h w)(hs:kX k ρ h v h')(T:TypeId)(cs:Array Bool):
  ∃cv w' m',(builtin b ts T cs Ps).run P w=.ok (.value cv) w'/\VR m' v cv/\HR P m' h' w'/\Grow m h w m' h' w':=by
 have same:∀{cv:Value},(builtin b ts T cs Ps).run P w=.ok (.value cv) w->VR m v cv->h' =h->∃cv w' m',(builtin b ts T cs Ps).run P w=.ok (.value cv) w'/\VR m' v cv/\HR P m' h' w'/\Grow m h w m' h' w':=by
  intro cv h1 h2 h3;exact HC
 have args1:∀{x:cK},cw m [ρ x] Ps.toList->∃cx,Ps=#[cx]/\VR m (ρ x) cx:=by
  intro x h1;obtain⟨cx,r,Sx,QV,SQ⟩:=aF.1 h1;rw[aT]at SQ;subst SQ;exact⟨cx,by apply WZ;rw[Sx],QV⟩
 have Tg:∀{x y:cK},cw m [ρ x,ρ y] Ps.toList->∃cx cy,Ps=#[cx,cy]/\VR m (ρ x) cx/\VR m (ρ y) cy:=by
  intro x y h1;obtain⟨cx,r,Sx,QV,SQ⟩:=aF.1 h1;obtain⟨cy,r',hcy,hvy,hr1⟩:=aF.1 SQ;rw[aT]at hr1;subst hr1;subst hcy;exact⟨cx,cy,by apply WZ;rw[Sx],QV,hvy⟩
 unfold mA at hk;split at hk
 ·
  rename_i x;obtain⟨cx,rfl,hx⟩:=args1 hargs;have rW:∀(lk:LK) (t0:TypeId) (d:TypeDesc),ts[0]? =some t0->P.underlying t0=some d->(match lk with|.sl=>∃e,d=.slice e|.st=>d=.string|.mp=>∃a b,d=.map a b)->cV (.len lk x) ρ h=some (v,h')->
    ∃cv w' m',(builtin .len ts T cs #[cx]).run P w=.ok (.value cv) w'/\VR m' v cv/\HR P m' h' w'/\Grow m h w m' h' w':=by
   intro lk t0 d Qd hu hd On;simp only[cV]at On;split at On
   case h_2=>cases On
   rename_i n hn;cases On;have go:(Builtin.len_ ts T #[cx]).run P w=.ok (.int .i64 n) w:=by
    unfold yq at hn;split at hn
    ·rename_i s hρ;rw[hρ,VR]at hx;subst hx;split at hn
     case isFalse=>cases hn
     rename_i PM;subst PM;cases hn;cases hd;have:(⟨⟨s⟩⟩:ByteArray).size=s.length:=rfl;simp[Builtin.len_,Qd,Ux hu,goInt,this]
    ·rename_i b o n' es hρ;rw[hρ]at hx;obtain⟨_,ca,cap,_,rfl,_⟩:=hx;exact M5
    ·rename_i hρ;rw[hρ,VR]at hx;subst hx;exact M5
    ·rename_i r hρ;rw[hρ]at hx;obtain⟨e,he,rfl⟩:=hx;split at hn
     case h_2=>cases hn
     rename_i es hb;split at hn
     case isFalse=>cases hn
     rename_i PM;subst PM;cases hn;obtain⟨a,b,rfl⟩:=hd;obtain⟨_,P8,clock,hheap,hlen,_⟩:=hr.dU r e _ he hb;simp[Builtin.len_,Qd,Ux hu,goInt,js hheap rfl,hlen]
    ·rename_i hρ;rw[hρ,VR]at hx;subst hx;split at hn
     case isFalse=>cases hn
     rename_i PM;subst PM;cases hn;obtain⟨a,b,rfl⟩:=hd;simp[Builtin.len_,Qd,Ux hu,goInt]
    ·cases hn
   exact⟨.int .i64 n,w,m,by simp only[builtin,Uy,go,Uo,UN],rfl,hr,Grow.refl m h w hr.cD⟩
  split at hk
  ·rename_i e hd;cases hk;obtain⟨t0,Qd,Q8⟩:=Ve.1 hd;exact rW .sl t0 _ Qd Q8 ⟨e,rfl⟩ hs
  ·rename_i hd;cases hk;obtain⟨t0,Qd,Q8⟩:=Ve.1 hd;exact rW .st t0 _ Qd Q8 rfl hs
  ·rename_i a b hd;cases hk;obtain⟨t0,Qd,Q8⟩:=Ve.1 hd;exact rW .mp t0 _ Qd Q8 ⟨a,b,rfl⟩ hs
  ·rename_i n e hd;cases hk;obtain⟨t0,Qd,Q8⟩:=Ve.1 hd;have On:cV (.yp n) ρ h=some (v,h'):=hs;simp only[cV,UG,WH]at On;obtain⟨rfl,rfl⟩:=On;exact same (cv:=.int .i64 n) (by simp[builtin,Builtin.len_,Qd,Ux Q8,goInt]) rfl rfl
  ·cases hk
 ·
  rename_i x y;obtain⟨cx,cy,rfl,hx,hy⟩:=Tg hargs;have appF:∀(e:TypeId) (i:TypeInfo) (d:TypeDesc),(ts[0]?).bind (dD P)=some (e,i)->(ts[1]?).bind P.underlying=some d->(∀k,d≠.int k)->
    (if 0<i.size/\0<i.bytes/\i.bytes<=2^20 then(i.zero.bind (kL 4)).bind λz=>if z.cells.length=i.size then some (mU.app i.size i.bytes x y)else none else none)=some k->
    ∃cv w' m',(builtin .append ts T cs #[cx,cy]).run P w=.ok (.value cv) w'/\VR m' v cv/\HR P m' h' w'/\Grow m h w m' h' w':=by
   intro e i d h0 h1 hd hk;obtain⟨sT,hts0,hsl⟩:=Ve.1 h0;obtain⟨xT,hts1,hud⟩:=Ve.1 h1;split at hk
   case isFalse=>cases hk
   rename_i hc;obtain⟨c1,c2,c3⟩:=hc;obtain⟨z,hz,hk⟩:=Ve.1 hk;split at hk
   case isFalse=>cases hk
   rename_i hzl;cases hk;obtain⟨cv,w',m',h2,h3,h4,h5⟩:=IE (w:=w) hts0 hts1 hsl c1 c2 c3 hud hd hz hzl hr hx hy hs T;exact⟨cv,w',m',by simp only[builtin,Uy,h2,Uo,UN],h3,h4,h5⟩
  split at hk
  ·rename_i e i e2 h0 h1;exact appF e i _ h0 h1 (λk=>by simp) hk
  ·rename_i e i h0 h1;exact appF e i _ h0 h1 (λk=>by simp) hk
  ·cases hk
 ·
  rename_i x y;obtain⟨cx,cy,rfl,hx,hy⟩:=Tg hargs;split at hk
  case h_2=>cases hk
  rename_i e i h0;split at hk
  case isFalse=>cases hk
  rename_i hpos;cases hk;obtain⟨dT,hts0,hsl⟩:=Ve.1 h0;obtain⟨cv,w',m',h2,h3,h4,h5⟩:=IC (w:=w) hts0 hsl hpos hr hx hy hs T;exact⟨cv,w',m',by simp only[builtin,Uy,h2,Uo,UN],h3,h4,h5⟩
 ·
  rename_i x l;cases hk;have On:cV (.mx x l) ρ h=some (v,h'):=hs;simp only[cV]at On;split at On
  case h_2=>cases On
  rename_i u hu;cases On;obtain⟨cx,r,Sx,QV,Ok⟩:=aF.1 hargs;obtain⟨cv,h1,h2⟩:=ur (P:=P) (w:=w) QV Ok hu;exact same (by simp only[builtin,Builtin.max_,Sx,Uy,h1,Uo,UN]) h2 rfl
 ·
  rename_i x l;cases hk;have On:cV (.mn x l) ρ h=some (v,h'):=hs;simp only[cV]at On;split at On
  case h_2=>cases On
  rename_i u hu;cases On;obtain⟨cx,r,Sx,QV,Ok⟩:=aF.1 hargs;obtain⟨cv,h1,h2⟩:=uq (P:=P) (w:=w) QV Ok hu;exact same (by simp only[builtin,Builtin.min_,Sx,Uy,h1,Uo,UN]) h2 rfl
 ·cases hk
def uY{o:Oper}{k:mU}(hc:dJ P o=some k)(hρ:∀x∈o.op.operands,∀x',cJ x=some x'->VR m (ρ x') (σ x))(hcst:∀z,ρ (.c z)=z)(hr:HR P m h w)(hs:kX k ρ h v h'):
  ed P m h w v h' ((execOp σ o).run P w):=by
 unfold dJ at hc;cases Oh:o.op with
 |move x=>
  exact Nt
 |assign x=>
  exact Nt
 |pick c a b=>
  simp only[Oh]at hc;split at hc
  case h_2=>cases hc
  rename_i c' a' b' Py SA hb';cases hc;have On:cV (.pick c' a' b') ρ h=some (v,h'):=hs;simp only[cV]at On;split at On
  case h_2=>cases On
  rename_i t ht;cases On;have h1:=hρ c (by simp[Oh,Op.operands]) c' Py;rw[ht,VR]at h1;refine ed.same (cv:=if t then σ a else σ b) hr ?_ (by simp[execOp,Oh,h1,asBool]);cases t
  ·exact hρ b (by simp[Oh,Op.operands]) b' hb'
  ·exact hρ a (by simp[Oh,Op.operands]) a' SA
 |alloc e=>
  simp only[Oh]at hc;split at hc
  case h_2=>cases hc
  rename_i z hz;split at hc
  case isFalse=>cases hc
  rename_i h1;cases hc;have On:cV (.box (.c z)) ρ h=some (v,h'):=hs;simp only[cV,hcst,h1,UD,UG,WH]at On;obtain⟨rfl,rfl⟩:=On;obtain⟨cz,QF,Q7⟩:=iU hz w m;obtain⟨m',h2,h3,h4,h5⟩:=qM hr Q7 h1 e true false;exact⟨_,_,m',.inl (by simp only[execOp,Oh,Instr.alloc,Uy,QF,Uo,h2,UN]),h3,h4,h5⟩
 |box e x=>
  simp only[Oh,Uz]at hc;obtain⟨x',Oo,rfl⟩:=hc;have On:cV (.box x') ρ h=some (v,h'):=hs;simp only[cV]at On;split at On
  case isFalse=>cases On
  rename_i h1;cases On;obtain⟨m',h2,h3,h4,h5⟩:=qM hr (hρ x (by simp[Oh,Op.operands]) x' Oo) h1 e true false;exact⟨_,_,m',.inl (by simp only[execOp,Oh,Instr.box,Uy,Uo,h2,UN]),h3,h4,h5⟩
 |build t ps=>
  simp only[Oh]at hc;split at hc
  case h_2=>cases hc
  rename_i z l hz hl;split at hc
  case isFalse=>cases hc
  rename_i hp;cases hc;have On:cV (.build z.cells l) ρ h=some (v,h'):=hs;exact ed.lG hr (B4 (w:=w) (σ:=σ) hz hl hp (λp hp y hy=>hρ p.2 (by simp only[Oh,Op.operands];simp only[List.mem_toArray,UI];exact⟨p,hp,rfl⟩) y hy) On) (λcv h=>by simp[execOp,Oh,h])
 |buildSlice t n ps=>
  simp only[Oh]at hc;split at hc
  case h_2=>cases hc
  rename_i e i hsl;split at hc
  case h_2=>cases hc
  rename_i z l hz hl;split at hc
  case isFalse=>cases hc
  rename_i OF;obtain⟨h1,h2,h3,h4⟩:=OF;cases hc;obtain⟨c,mu,tl,Pr,hc1,hcl,rfl,rfl⟩:=hs;exact ed.x7 (zQ (w:=w) (σ:=σ) hsl hz hl h1 h2 h3 h4 hr (λp hp y hy=>hρ p.2 (by simp only[Oh,Op.operands];simp only[List.mem_toArray,UI];exact⟨p,hp,rfl⟩) y hy) Pr hc1 hcl mu tl) (λcv w' h=>by simp[execOp,Oh,h])
 |load t a=>
  simp only[Oh]at hc;split at hc
  case h_2=>cases hc
  rename_i n a' hn SA;cases hc;exact ed.lG hr (zP hn hr (hρ a (by simp[Oh,Op.operands]) a' SA) hs) (λcv h=>by simp[execOp,Oh,h])
 |store t a x=>
  simp only[Oh]at hc;split at hc
  case h_2=>cases hc
  rename_i n a' x' hn SA Oo;cases hc;obtain⟨w',h1,rfl,h2,h3⟩:=B1 (w:=w) hn hr (hρ a (by simp[Oh,Op.operands]) a' SA) (hρ x (by simp[Oh,Op.operands]) x' Oo) hs;exact⟨undef,w',m,.inr ⟨by simp[execOp,Oh,h1],rfl⟩,iV m,h2,h3⟩
 |nilCheck x=>
  simp only[Oh,Uz]at hc;obtain⟨x',Oo,rfl⟩:=hc;have On:cV (.bu x') ρ h=some (v,h'):=hs;have h1:=hρ x (by simp[Oh,Op.operands]) x' Oo;simp only[cV]at On;split at On
  ·rename_i b o hv;cases On;rw[hv]at h1;have h1':=h1;obtain⟨e,he,h2⟩:=h1;exact ed.same hr h1' (by simp[execOp,Oh,h2])
  ·rename_i f a c hv;exact KD
  ·rename_i f a c hv;cases On;rw[hv]at h1;have h1':=h1;obtain⟨f',a',c',h2,h3,_⟩:=h1;obtain⟨e,he,rfl⟩:=h3;exact ed.same hr h1' (by simp[execOp,Oh,h2])
  ·rename_i t' n a c hv;exact KD
  ·rename_i t' p f q a c hv;exact KD
  ·cases On
 |binOp op t x y ty=>
  simp only[Oh]at hc;split at hc
  case h_2=>cases hc
  rename_i x' y' Oo hy';have hx:=hρ x (by simp[Oh,Op.operands]) x' Oo;have hy:=hρ y (by simp[Oh,Op.operands]) y' hy';have bin:∀{op':BinOp},o.op=.binOp op' t x y ty->k=.bin op' x' y'->ed P m h w v h' ((execOp σ o).run P w):=by
   intro op' ho hk;subst hk;exact ed.x7 (ID (op:=op') (t:=t) (ox:=x) (oy:=y) hr hx hy hs) (λcv w' h=>by simp only[execOp,ho];rw[Uy,h];rfl)
  have eqv:∀(neg:Bool),o.op=.binOp (if neg then .neq else .eql) t x y ty->Gv P neg t x' y' =some k->ed P m h w v h' ((execOp σ o).run P w):=by
   intro neg ho hk;have hk0:=hk;unfold Gv at hk;split at hk
   ·cases hk;exact bin ho rfl
   ·cases hk;exact bin ho rfl
   ·cases hk;exact bin ho rfl
   ·exact z20
   ·exact No
   ·exact No
   ·exact z20
   ·exact z20
   ·exact z20
   ·exact z20
   ·cases hk
  split at hc
  ·exact eqv false Oh hc
  ·exact eqv true Oh hc
  ·cases hc;exact bin Oh rfl
 |unOp op t x=>
  simp only[Oh,Uz]at hc;obtain⟨x',Oo,rfl⟩:=hc;have On:cV (.un op x') ρ h=some (v,h'):=hs;simp only[cV]at On;split at On
  case h_2=>cases On
  rename_i u hu;cases On;obtain⟨cv,h1,h2⟩:=B5 (P:=P) (w:=w) (hρ x (by simp[Oh,Op.operands]) x' Oo) hu;exact ed.same hr h2 (by simp[execOp,Oh,h1])
 |convert s d x=>
  simp only[Oh]at hc;split at hc
  case h_2=>cases hc
  rename_i ck x' RM Oo;cases hc;exact ed.x7 (Fx RM hr (hρ x (by simp[Oh,Op.operands]) x' Oo) hs) (λcv w' h=>by simp[execOp,Oh,h])
 |makeInterface u x=>
  simp only[Oh]at hc;split at hc
  ·cases hc
  ·rename_i d x' hni hd Oo;cases hc;have On:cV (.conv (.sN u) x') ρ h=some (v,h'):=hs;simp only[cV,jl,UG,WH]at On;obtain⟨rfl,rfl⟩:=On;have QU:=hρ x (by simp[Oh,Op.operands]) x' Oo;refine ed.same (cv:=.iface u (σ x)) hr ⟨_,rfl,QU⟩ ?_;simp only[execOp,Oh,Instr.makeInterface,Uy,Ux hd,Uo];cases d<;>first|rfl|exact absurd rfl (hni _)
  ·cases hc
 |makeFunc fn a c=>
  simp only[Oh]at hc;split at hc
  case isFalse=>cases hc
  rename_i hfn;split at hc
  case h_2=>cases hc
  rename_i a' c' SA Py;cases hc;have On:cV (.rV fn a' c') ρ h=some (v,h'):=hs;simp only[cV,UG,WH]at On;obtain⟨rfl,rfl⟩:=On;have h1:=lY (m:=m) (ρ:=ρ) (σ:=σ) SA (λx hx=>hρ x (by simp only[Oh,Op.operands];exact Array.mem_append.2 (.inl hx)));have h2:=lY (m:=m) (ρ:=ρ) (σ:=σ) Py (λx hx=>hρ x (by simp only[Oh,Op.operands];exact Array.mem_append.2 (.inr hx)));refine ed.same (cv:=.func fn (a.map σ) (c.map σ)) hr ⟨fn,(a.map σ).toList,(c.map σ).toList,rfl,?_,h1,h2⟩ (by simp[execOp,Oh,Instr.makeFunc]);cases fn<;>first
   |rfl
   |(cases hfn;done)
 |makeMap t r=>
  simp only[Oh]at hc;cases r with
  |some _=>simp at hc
  |none=>
   simp only[UG]at hc;subst hc;have On:cV .mg ρ h=some (v,h'):=hs;simp only[cV,UG,WH]at On;obtain⟨rfl,rfl⟩:=On;have RQ:=jn hr (.map #[] 0) (.aN []) ⟨w.heap.size,0,0,true⟩ rfl rfl (λm' _=>⟨rfl,#[],0,World.alloc_heap_new w _,rfl,λi p hp=>by simp at hp⟩);exact⟨.map (some w.heap.size),_,_,.inl (by simp[execOp,Oh,Instr.makeMap]),⟨⟨w.heap.size,0,0,true⟩,by simp[bH.add],rfl⟩,RQ.1,RQ.2⟩
 |makeSlice t l c=>
  simp only[Oh]at hc;split at hc
  case h_2=>cases hc
  rename_i e i l' c' hsl OJ Py;split at hc
  case h_2=>cases hc
  rename_i z hz;split at hc
  case isFalse=>cases hc
  rename_i OF;obtain⟨h1,h2,h3⟩:=OF;cases hc;exact ed.x7 (Fs hsl hz h1 h2 h3 hr (hρ l (by simp[Oh,Op.operands]) l' OJ) (hρ c (by simp[Oh,Op.operands]) c' Py) hs) (λcv w' h=>by simp[execOp,Oh,h])
 |slice t x lo hi mx=>
  simp only[Oh]at hc;cases mx with
  |some _=>simp at hc
  |none=>
   simp only at hc;split at hc
   case h_2=>cases hc
   rename_i x' lo' hi' Oo hlo' hhi';have hx:=hρ x (by simp[Oh,Op.operands]) x' Oo;have hlo:=pr (m:=m) (ρ:=ρ) (σ:=σ) hlo' (λy hy=>hρ y (by simp only[Oh,Op.operands];cases hy;simp));have hhi:=pr (m:=m) (ρ:=ρ) (σ:=σ) hhi' (λy hy=>hρ y (by simp only[Oh,Op.operands];cases hy;simp));split at hc
   ·rename_i hu;cases hc;exact ed.lG hr (Iy hu hx hlo hhi hs) (λcv h=>by simp only[execOp,Oh,Wz];rw[Uy,h];rfl)
   ·rename_i e hu;simp only[Uz]at hc;obtain⟨n,hn,rfl⟩:=hc;exact ed.lG hr (K2 hu hn hx hlo hhi hs) (λcv h=>by simp only[execOp,Oh,Wz];rw[Uy,h];rfl)
   ·rename_i n e hu;simp only[Uz]at hc;obtain⟨es,hes,rfl⟩:=hc;exact ed.lG hr (Iz hu hes hr hx hlo hhi hs) (λcv h=>by simp only[execOp,Oh,Wz];rw[Uy,h];rfl)
   ·cases hc
 |fieldAddr t x i=>
  simp only[Oh]at hc;split at hc
  case h_2=>cases hc
  rename_i f x' hf Oo;split at hc
  case h_2=>cases hc
  rename_i n hn;split at hc
  case isFalse=>cases hc
  rename_i hpos;cases hc;exact ed.lG hr (Fw hf hn hpos (hρ x (by simp[Oh,Op.operands]) x' Oo) hs) (λcv h=>by simp[execOp,Oh,h])
 |indexAddr t x i=>
  simp only[Oh]at hc;split at hc
  case h_2=>cases hc
  rename_i x' i' Oo hi';have hx:=hρ x (by simp[Oh,Op.operands]) x' Oo;have hi:=hρ i (by simp[Oh,Op.operands]) i' hi';split at hc
  ·rename_i e hu;simp only[Uz]at hc;obtain⟨n,hn,rfl⟩:=hc;exact ed.lG hr (Fu hu hn hx hi hs) (λcv h=>by simp[execOp,Oh,h])
  ·rename_i len e hu;simp only[Uz]at hc;obtain⟨n,hn,rfl⟩:=hc;exact ed.lG hr (Fv hu hn hx hi hs) (λcv h=>by simp[execOp,Oh,h])
  ·cases hc
 |field t x i=>
  simp only[Oh]at hc;split at hc
  case h_2=>cases hc
  rename_i f x' hf Oo;simp only[Uz]at hc;obtain⟨n,hn,rfl⟩:=hc;exact ed.lG hr (B2 hf hn (hρ x (by simp[Oh,Op.operands]) x' Oo) hs) (λcv h=>by simp[execOp,Oh,h])
 |index t x i=>
  simp only[Oh]at hc;split at hc
  case h_2=>cases hc
  rename_i x' i' Oo hi';have hx:=hρ x (by simp[Oh,Op.operands]) x' Oo;have hi:=hρ i (by simp[Oh,Op.operands]) i' hi';split at hc
  ·rename_i hu;cases hc;exact ed.lG hr (IA hu hx hi hs) (λcv h=>by simp[execOp,Oh,h])
  ·rename_i len e hu;split at hc
   case h_2=>cases hc
   rename_i n q hn hq;cases hc;exact ed.lG hr (IB hu hn hq hx hi hs) (λcv h=>by simp[execOp,Oh,h])
  ·cases hc
 |lookup t x i ok=>
  simp only[Oh]at hc;split at hc
  case h_2=>cases hc
  rename_i kt e x' i' hu Oo hi';split at hc
  case h_2=>cases hc
  rename_i kk z hkk hz;cases hc;exact ed.lG hr (Ft hu hkk hz hr (hρ x (by simp[Oh,Op.operands]) x' Oo) (hρ i (by simp[Oh,Op.operands]) i' hi') hs) (λcv h=>by simp[execOp,Oh,h])
 |mapUpdate t x i y=>
  exact Nv
 |insert t x i y=>
  exact Nv
 |range t x=>
  simp only[Oh]at hc;split at hc
  case h_2=>cases hc
  rename_i hu;simp only[Uz]at hc;obtain⟨x',Oo,rfl⟩:=hc;exact ed.x7 (Fp hu hr (hρ x (by simp[Oh,Op.operands]) x' Oo) hs) (λcv w' h=>by simp[execOp,Oh,h])
 |next x isS=>
  simp only[Oh]at hc;cases isS with
  |false=>simp at hc
  |true=>
   simp only[Uz]at hc;obtain⟨x',Oo,rfl⟩:=hc;exact ed.x7 (B3 (t:=o.type) hr (hρ x (by simp[Oh,Op.operands]) x' Oo) hs) (λcv w' h=>by simp[execOp,Oh,h])
 |extract x i=>
  simp only[Oh,Uz]at hc;obtain⟨x',Oo,rfl⟩:=hc;have On:cV (.ext x' i) ρ h=some (v,h'):=hs;simp only[cV]at On;split at On
  case h_2=>cases On
  rename_i l hl;split at On
  case h_2=>cases On
  rename_i u hu;cases On;have h1:=hρ x (by simp[Oh,Op.operands]) x' Oo;rw[hl]at h1;obtain⟨l',h2,h3⟩:=h1;obtain⟨cv,P4,Ok⟩:=h3.get hu;exact ed.same hr Ok (by simp[execOp,Oh,Instr.extract,h2,P4])
 |call c=>
  simp only[Oh]at hc;split at hc
  case h_2=>cases hc
  rename_i l hl;have hargs:=lY (m:=m) (ρ:=ρ) (σ:=σ) hl (λx hx=>hρ x (by simp only[Oh,Op.operands,Call.operands];exact Array.mem_append.2 (.inr hx)));split at hc
  ·exact HT
  ·exact HT
  ·rename_i b hb;obtain⟨cv,w',m',h1,h2,h3,h4⟩:=qj (w:=w) hc hargs hr hs o.type (c.args.map λ|.const _=>true|_=>false);refine⟨cv,w',m',.inl ?_,h2,h3,h4⟩;simp only[execOp,Oh,resolve,hb,Uy,UN,Uo,invoke];exact h1
 |_=>simp[Oh]at hc
end
def Rel(P:Program)(m:bH)(h:af)(w:World)(v:AV)(h':af)(e:Ending)(w':World):Prop:=
 ∃cv m',e=.returned cv/\VR m' v cv/\HR P m' h' w'/\Grow m h w m' h' w'
def ke(P:Program)(f:FuncId)(args:List AV)(h:af)(v:AV)(h':af):Prop:=
 ∀(m:bH) (w:World) (vs:List Value),HR P m h w->cw m args vs->Calls P f ⟨vs⟩ w (Rel P m h w v h')
def BI(P:Program)(R:Ending->World->Prop):Result Next->Prop
 |.ok (.value cv) w'=>R (.returned cv) w'
 |.ok (.enter f args) w'=>CallsIn Fence.wide 0 P f args w' R
 |.ok (.round l f tmps asg body) w'=>RoundIn Fence.wide 0 P l f tmps asg body w' R
 |_=>False
def eG(P:Program)(fv:AV)(args:List AV)(h:af)(v:AV)(h':af):Prop:=
 ∀(m:bH) (w:World) (cv:Value) (vs:List Value),HR P m h w->VR m fv cv->cw m args vs->
  ∃d,(∀w,(Deferred.ofValue cv ⟨vs⟩).run P w=.ok d w)/\BI P (Rel P m h w v h') ((invoke d.target d.args).run P w)
def nL(P:Program)(k:mU)(ρ:cK->AV)(h:af)(v:AV)(h':af):Prop:=
 match k with
 |.call f args=>eG P (ρ f) (args.map ρ) h v h'
 |k=>kX k ρ h v h'
abbrev Fd(ro:Option Nat):Fence:={Fence.wide with round:=ro}
def jt{P f fn args w}(hf:P.funcs[f]? =some fn)(hb:fn.body.isSome=true)(hn:(fn.name == "runtime.NumGoroutine")=false):
  (callFunc f args).run P w=.ok (.enter f args) w:=by
 have hb':fn.body≠none:=by cases h:fn.body<;>simp_all
 have R3:fn.name≠ "runtime.NumGoroutine":=by simpa using hn
 simp[callFunc,Uy,run_program,hf,R3,hb',Result.andThen]
section
variable {P:Program}{m:bH}{h h':af}{w:World}{v:AV}
def oW{ro:Option Nat}{o:Oper}{a:Act}{next:Act->World->Prop}{Q:Exit->Act->World->Prop}{r:Result Next}
  (hr:BI P (Rel P m h w v h') r) (hn:∀cv m' w',VR m' v cv->HR P m' h' w'->Grow m h w m' h' w'->next (a.put o.dst cv) w'):o.uponIn (Fd ro) 0 P a next Q r:=by
 cases r with
 |halt x w'=>exact hr.elim
 |ok x w'=>
  cases x<;>first
   |exact hr.elim
   |skip
  case value cv=>
   obtain⟨cv',m',he,h1,h2,h3⟩:=hr;cases he;exact hn cv m' w' h1 h2 h3
  case enter f args=>
   rw[Oper.uponIn_enter];refine⟨λhd=>by simp[Fd,Fence.wide]at hd,CallsIn.mono (F:=Fd ro) (show CallsIn (Fd ro) (0-1) P f args w' (Rel P m h w v h')from hr) λe w'' he=>?_⟩;exact HI
  case round l f tmps asg body=>
   rw[Oper.uponIn_round];refine⟨λhd=>by simp[Fd,Fence.wide]at hd,RoundIn.mono (F:=Fd ro) (show RoundIn (Fd ro) (0-1) P l f tmps asg body w' (Rel P m h w v h')from hr) λe w'' he=>?_⟩;exact HI
def tA{o:Oper}{k:mU}{ρ:cK->AV}(hc:dJ P o=some k){a:Act}(hρ:∀x∈o.op.operands,∀x',cJ x=some x'->VR m (ρ x') (a.eval x))(hcst:∀z,ρ (.c z)=z)
  (hr:HR P m h w) (hs:nL P k ρ h v h') (ro:Option Nat) (next:Act->World->Prop) (Q:Exit->Act->World->Prop)
  (hn:∀cv m' w',VR m' v cv->HR P m' h' w'->Grow m h w m' h' w'->next (a.put o.dst cv) w'):o.wpIn (Fd ro) 0 P a w next Q:=by
 refine⟨λ_ _=>trivial,?_⟩;have hdef:∀c,o.op≠.defer c:=by
  intro c Oh;simp[dJ,Oh]at hc
 rw[Oper.semAt_eq _ _ _ hdef];by_cases Qj:∃f args,k=.call f args
 ·obtain⟨f,args,rfl⟩:=Qj;have On:eG P (ρ f) (args.map ρ) h v h':=hs;cases Oh:o.op with
  |call c=>
   have Py:=hc;simp only[dJ,Oh]at Py;split at Py
   case h_2=>cases Py
   rename_i l hl;have hargs:=lY (m:=m) (ρ:=ρ) (σ:=a.eval) hl (λx hx=>hρ x (by simp only[Oh,Op.operands,Call.operands];exact Array.mem_append.2 (.inr hx)));split at Py
   ·rename_i g hg;simp only[Uz]at Py;obtain⟨g',OG,he⟩:=Py;cases he;have hf:=hρ g (by simp[Oh,Op.operands,Call.operands,hg]) _ OG;obtain⟨d,hd,haf⟩:=On m w _ _ hr hf hargs;refine oW (m:=m) (h:=h) (w:=w) (v:=v) (h':=h') ?_ hn;simp only[execOp,Oh,resolve,hg,Uy];have OR:(Deferred.ofValue (a.eval g) (c.args.map a.eval)).run P w=.ok d w:=hd w;rw[OR];exact haf
   ·rename_i r name hg;simp only[Uz]at Py;obtain⟨r',hr',he⟩:=Py;cases he;have hrv:=hρ r (by simp[Oh,Op.operands,Call.operands,hg]) _ hr';have hf:VR m (ρ (.c (.func (.method name) [] []))) (.func (.method name) #[] #[]):=by
     rw[hcst,VR];exact⟨_,[],[],rfl,rfl,rfl,rfl⟩
    obtain⟨d,hd,haf⟩:=On m w _ (a.eval r:: (c.args.map a.eval).toList) hr hf (aF.2 ⟨_,_,rfl,hrv,hargs⟩);refine oW (m:=m) (h:=h) (w:=w) (v:=v) (h':=h') ?_ hn;simp only[execOp,Oh,resolve,hg,Uy];have OR:=hd w;have:(#[]++(⟨a.eval r:: (c.args.map a.eval).toList⟩:Array Value))=#[a.eval r]++c.args.map a.eval:=by
     apply WZ;simp
    simp only[Deferred.ofValue,this]at OR;cases OR;exact haf
   ·rename_i b hb;exfalso;unfold mA at Py
    repeat' split at Py
    all_goals first|(cases Py;done)|(simp only[Ve]at Py;obtain⟨z,_,hz⟩:=Py;split at hz<;>cases hz)
  |makeMap t r=>cases r<;>simp[dJ,Oh]at hc
  |next x b=>
   cases b
   ·simp[dJ,Oh]at hc
   ·simp[dJ,Oh,Uz]at hc
  |slice t x lo hi mx=>
   cases mx with
   |some _=>simp[dJ,Oh]at hc
   |none=>
    exfalso;simp only[dJ,Oh]at hc
    repeat' split at hc
    all_goals first
     |(cases hc;done)
     |(simp[Uz]at hc;done)
  |_=>
   exfalso;simp only[dJ,Oh]at hc
   repeat' split at hc
   all_goals first
    |(cases hc;done)
    |(simp[Uz,Ve]at hc;done)
    |(unfold Gv at hc;repeat' split at hc;all_goals first|(cases hc;done)|(simp[Uz]at hc;done))
 ·have On:kX k ρ h v h':=by
   cases k<;>first|exact hs|exact absurd ⟨_,_,rfl⟩ Qj
  obtain⟨cv,w',m',he,h1,h2,h3⟩:=uY (w:=w) hc hρ hcst hr On;rcases he with he|⟨he,rfl⟩
  ·rw[he];exact hn cv m' w' h1 h2 h3
  ·rw[he];exact hn undef m' w' h1 h2 h3
def GV(P:Program)(m:bH):Prop:=∀g,g<P.globals.size->∃e,m g=some e/\e.cb=g/\e.d=0
def HR.gv(hr:HR P m h w):GV P m:=λg hg=>by obtain⟨e,h1,h2,h3,_⟩:=hr.fG g hg;exact⟨e,h1,h2,h3⟩
def xz(hg:GV P m){ts:TS}{a:Act}{x:Operand}{x':cK}(hx:cJ x=some x')(hok:Kq P x=true)(ht:∀t,x=.tmp t->VR m (ts.getD t au) (a.tmps.getD t undef)):VR m (val ts x') (a.eval x):=by
 cases x with
 |tmp t=>cases hx;exact ht t rfl
 |const c=>
  simp only[cJ,Uz]at hx;obtain⟨y,hy,rfl⟩:=hx;exact oJ m 4 _ _ hy
 |global g=>
  cases hx;simp only[Kq,UT]at hok;obtain⟨e,he,hcb,hd⟩:=hg g hok;exact⟨e,he,by rw[hcb,hd];rfl⟩
 |func f=>cases hx;exact⟨.func f,[],[],rfl,rfl,rfl,rfl⟩
def lN{ts:TS}{vs:Array Value}(h:cw m ts vs.toList)(t:Nat):VR m (ts.getD t au) (vs.getD t undef):=by
 have hl:=h.length;by_cases ht:t<ts.length
 ·have hx:ts[t]? =some ts[t]:=Uj ht;obtain⟨y,hy,hr⟩:=h.get hx;have e1:ts.getD t au=ts[t]:=by simp[List.getD,hx]
  have e2:vs.getD t undef=y:=by
   simp only[VE]at hy;simp[UW,hy]
  rw[e1,e2];exact hr
 ·have e1:ts.getD t au=au:=by simp[List.getD,Wc (by omega:ts.length<=t)]
  have e2:vs.getD t undef=undef:=by
   have:vs.size<=t:=by simp at hl;omega
   simp[UW,VP this]
  rw[e1,e2];exact iV m
def Cb{ts:TS}{a:Act}(h:cw m ts a.tmps.toList){x:AV}{cv:Value}(hx:VR m x cv)(d:Option Nat):cw m (put ts d x) (a.put d cv).tmps.toList:=by
 cases d with
 |none=>exact h
 |some d=>simp only[put,Act.put,Array.toList_setIfInBounds];exact h.set d hx
def put_defers(a:Act)(d:Option Nat)(cv:Value):(a.put d cv).defers=a.defers:=by cases d<;>rfl
def oT{ts:TS}{a:Act}{ops:Array Oper}{o:Oper}{g:Option (Nat×Bool)}(hg:rX ops o.guard=some g)
  (ht:∀t b,g=some (t,b)->(t<ts.length↔t<a.tmps.size)/\VR m (ts.getD t au) (a.tmps.getD t undef)):Region.wanted o (yielded ops a.tmps)=true↔wanted g ts:=by
 unfold rX at hg;unfold Region.wanted wanted;cases Rd:o.guard with
 |none=>rw[Rd]at hg;cases hg;simp
 |some p=>
  obtain⟨j,b⟩:=p;rw[Rd]at hg;simp only[Uz]at hg;obtain⟨d,hd,rfl⟩:=hg;simp only[yielded,hd,Option.bind_some,beq_iff_eq];obtain⟨hlt,Ok⟩:=ht d b rfl;by_cases hdl:d<ts.length
  ·have Rf:=hlt.1 hdl;have e1:ts.getD d au=ts[d]:=by simp[List.getD,Uj hdl]
   have e2:a.tmps.getD d undef=a.tmps[d]:=by simp[UW,UZ Rf]
   rw[e1,e2]at Ok;rw[UZ Rf,Uj hdl];generalize a.tmps[d]=cv at Ok;generalize ts[d]=av at Ok;cases av with
   |bool t=>rw[VR]at Ok;subst Ok;simp
   |int k n=>rw[VR]at Ok;subst Ok;simp
   |uS k n=>rw[VR]at Ok;obtain⟨_,rfl,_⟩:=Ok;simp
   |uE k x y=>rw[VR]at Ok;obtain⟨_,_,rfl,_⟩:=Ok;simp
   |str s=>rw[VR]at Ok;subst Ok;simp
   |ptr b o=>rw[VR]at Ok;obtain⟨_,_,rfl⟩:=Ok;simp
   |nilPtr=>rw[VR]at Ok;subst Ok;simp
   |slice b o n e=>rw[VR]at Ok;obtain⟨_,_,_,_,rfl,_⟩:=Ok;simp
   |ah=>rw[VR]at Ok;subst Ok;simp
   |map r=>rw[VR]at Ok;obtain⟨_,_,rfl⟩:=Ok;simp
   |cQ=>rw[VR]at Ok;subst Ok;simp
   |func f x y=>rw[VR]at Ok;obtain⟨_,_,_,rfl,_⟩:=Ok;simp
   |nilFunc=>rw[VR]at Ok;subst Ok;simp
   |agg l=>rw[VR]at Ok;obtain⟨_,rfl,_⟩:=Ok;simp
   |dt l=>rw[VR]at Ok;obtain⟨_,rfl,_⟩:=Ok;simp
   |sN u l=>rw[VR]at Ok;obtain⟨_,rfl,_⟩:=Ok;simp
   |ju=>rw[VR]at Ok;subst Ok;simp
  ·have Rf:¬d<a.tmps.size:=λx=>hdl (hlt.2 x)
   rw[VP Om,Wc Om];simp
inductive cY (P:Program) (o:bo) (ts:TS) (h:af):TS->af->Prop
 |run {v:AV}{h':af}(hw:wanted o.gd ts) (hb:AN o.dst o.k ts.length) (hs:nL P o.k (val ts) h v h'):cY P o ts h (put ts o.dst v) h'
 |skip (hw:¬wanted o.gd ts):cY P o ts h (put ts o.dst au) h
def wj(P:Program):List bo->TS->af->TS->af->Prop
 |[],ts,h,ts',h'=>ts' =ts/\h' =h
 |o::r,ts,h,ts',h'=>∃PJ h1,cY P o ts h PJ h1/\(o.q=true->∃g,h1=h++g)/\wj P r PJ h1 ts' h'
structure St(P:Program)(m:bH)(ts:TS)(h:af)(a:Act)(w:World):Prop where
 hr:HR P m h w
 ts:cw m ts a.tmps.toList
def mG{ρ}:¬nL P .bad ρ h v h':=λhs=>by
 have On:cV .bad ρ h=some (v,h'):=hs;simp[cV]at On
def eZ{ops:Array Oper}{i:Nat}{o:Oper}(ho:ops[i]? =some o){q:Bool}{io:bo}(hc:bx P ops q o=some io){ts ts':TS}{a:Act}
  (hg:GV P m) (hr:HR P m h w) (hlen:a.tmps.size=ts.length)
  (ht:∀t,t∈o.looksAt ops->VR m (ts.getD t au) (a.tmps.getD t undef)) (hs:cY P io ts h ts' h') (ro:Option Nat) (K:Act->World->Prop) (Q:Exit->Act->World->Prop)
  (hn:∀cv v m' w',ts' =put ts o.dst v->VR m' v cv->HR P m' h' w'->Grow m h w m' h' w'->K (a.put o.dst cv) w'):wpOpIn (Fd ro) 0 P ops Q i K a w:=by
 unfold bx at hc;split at hc
 case h_2=>cases hc
 rename_i g Rd;cases hc;have hw:=oT (m:=m) (ts:=ts) (a:=a) Rd (λt b Q0=>⟨Om,ht t (by
  unfold Oper.looksAt;refine List.mem_append_right _ ?_;unfold rX at Rd;cases hog:o.guard with
  |none=>rw[hog]at Rd;cases Rd;cases Q0
  |some p=>
   obtain⟨j,b'⟩:=p;rw[hog]at Rd;simp only[Uz]at Rd;obtain⟨d,hd,rfl⟩:=Rd;cases Q0;simp[hd])⟩)
 unfold wpOpIn;rw[ho];cases hs with
 |run hwa hb hs=>
  clear hb;simp only;rw[Ut (hw.2 hwa)];simp only at hs;split at hs
  case isFalse=>exact absurd hs mG
  rename_i hgok;cases hk:dJ P o with
  |none=>rw[hk]at hs;exact absurd hs mG
  |some k=>
   rw[hk]at hs;refine tA hk (λx hx x' Oo=>?_) (λz=>rfl) hr hs ro K Q (λcv m' w' h1 h2 h3=>hn cv _ m' w' rfl h1 h2 h3);exact Nl
 |skip hwa=>
  simp only;rw[Ur (λx=>hwa (hw.1 x))];exact⟨λ_ _=>trivial,hn undef _ m w rfl (iV m) hr (Grow.refl m h w hr.cD)⟩
theorem fJ{α β:Type}{f:Nat->α->Option β}:∀{l:List α}{i:Nat}{r:List β},dX f l i=some r->r.length=l.length/\∀(j:Nat) (x:α),l[j]? =some x->∃y,r[j]? =some y/\f (i+j) x=some y
 |[],i,r,h=>by cases h;exact⟨rfl,λj x hx=>by simp at hx⟩
 |x::xs,i,r,h=>by
  unfold dX at h;split at h
  case h_2=>cases h
  rename_i y ys hy hys;cases h;obtain⟨h1,h2⟩:=fJ hys;refine⟨by simp[h1],λj z hz=>?_⟩;cases j with
  |zero=>simp at hz;subst hz;exact⟨y,Si,hy⟩
  |succ j=>
   simp at hz;obtain⟨u,hu,hf⟩:=h2 j z hz;exact⟨u,by simpa using hu,by rw[show i+(j+1)=i+1+j from by omega];exact hf⟩
structure Row(P:Program)(l:List bo)(T:Nat->TS)(H:Nat->af):Prop where
 step:∀i o,l[i]? =some o->cY P o (T i) (H i) (T (i+1)) (H (i+1))/\(o.q=true->∃g,H (i+1)=H i++g)
theorem wj.row:∀{l}{ts ts'}{h h'},wj P l ts h ts' h'->∃T H,T 0=ts/\H 0=h/\T l.length=ts'/\H l.length=h'/\Row P l T H
 |[],ts,ts',h,h',hs=>by
  obtain⟨rfl,rfl⟩:=hs;exact⟨λ_=>ts',λ_=>h',rfl,rfl,rfl,rfl,⟨λi o ho=>by simp at ho⟩⟩
 |o::r,ts,ts',h,h',hs=>by
  obtain⟨PJ,h1,bE,hq,hr⟩:=hs;obtain⟨T,H,hT,hH,PA,hH',hrow⟩:=hr.row;refine⟨λi=>match i with| 0=>ts|i+1=>T i,λi=>match i with| 0=>h|i+1=>H i,rfl,rfl,PA,hH',⟨λi x hx=>?_⟩⟩;cases i with
  |zero=>
   simp at hx;subst hx;show cY P o ts h (T 0) (H 0)/\_;rw[hT,hH];exact⟨bE,λq=>by show ∃g,H 0=h++g;rw[hH];exact hq q⟩
  |succ i=>exact hrow.step i x (by simpa using hx)
def lh(ts:TS)(d:Option Nat)(v:AV):(put ts d v).length=ts.length:=by cases d<;>simp[put]
theorem cY.put{o ts ts'}(hs:cY P o ts h ts' h'):∃v,ts' =put ts o.dst v:=by
 cases hs with
 |run=>exact⟨_,rfl⟩
 |skip=>exact⟨_,rfl⟩
def cU{ops q o io}(hc:bx P ops q o=some io):io.dst=o.dst/\io.q=q:=by
 unfold bx at hc;split at hc
 ·cases hc;exact⟨rfl,rfl⟩
 ·cases hc
def vB{ops:Array Oper}{l:List bo}(hc:cF P ops false=some l){ts ts':TS}{h h':af}(hs:wj P l ts h ts' h'){m:bH}{a:Act}{w:World}(st:St P m ts h a w)(ro:Option Nat)
  (Q:Exit->Act->World->Prop) (hQ:∀m' a' w',St P m' ts' h' a' w'->Grow m h w m' h' w'->a'.defers=a.defers->Q .normal a' w') (id:Nat):(Code.region id ops false).wpIn (Fd ro) 0 P Q a w:=by
 refine wpIn_region ?_;obtain⟨T,H,rfl,rfl,rfl,rfl,hrow⟩:=hs.row;obtain⟨hlen,Ov⟩:=fJ (show dX (λ_ o=>bx P ops false o) ops.toList 0=some l from hc);simp only[Wq]at hlen;have key:∀(k j:Nat),j+k=ops.size->∀(m1:bH) (a1:Act) (w1:World),St P m1 (T j) (H j) a1 w1->Grow m (H 0) w m1 (H j) w1->a1.defers=a.defers->
   wpOpsIn (Fd ro) 0 P ops Q (List.range' j k) a1 w1:=by
  intro k
  induction k with
  |zero=>
   intro j hj m1 a1 w1 s1 g1 hd;have:j=l.length:=Om
   subst this;exact hQ m1 a1 w1 s1 g1 hd
  |succ k ih=>
   intro j hj m1 a1 w1 s1 g1 hd;rw[List.range'_succ,wpOpsIn_cons];have hjlt:j<ops.size:=Om
   have ho:ops[j]? =some ops[j]:=UZ hjlt;obtain⟨io,hio,Oy⟩:=Ov j ops[j] Si;obtain⟨bE,_⟩:=hrow.step j io hio;refine eZ ho Oy s1.hr.gv s1.hr (by simpa using s1.ts.length) (λt _=>lN s1.ts t) bE ro _ Q ?_;intro cv v m' w' Ol h1 h2 h3;have hle:=h3.le s1.hr.cD;exact ih (j+1) Om m' _ w' ⟨h2,by rw[Ol];exact Cb (cw.mono hle _ _ s1.ts) h1 _⟩ (g1.trans h3 st.hr.cD) (by rw[put_defers];exact hd)
 have:=key ops.size 0 Om m a w st (Grow.refl m _ w st.hr.cD) rfl
 rwa [<-List.range_eq_range']at this
end
end Go.Abs
