/- A part of the proof that HouseCopied holds. No condition. -/
import Derived.Shelf.Strings.Builder1
import Derived.Shelf.Strings.Builder2
import Derived.Shelf.Strings.OnBuilder
import Derived.Test.YtgplmdgpmbegiaaGreatDoorProg
import Derived.Shelf.Strings.Repeat
import Derived.Tactics
import Derived.OrdersIn
import Derived.RangeFuncLeaves
import Derived.RangeFuncIn
import Derived.RangeFuncOwn
import Derived.Laws.Sem
import Derived.Laws.World
import Derived.Laws.Cells
import Derived.Laws.Entries
import Derived.Below
import Derived.MapKept
import Derived.Laws.Tables
import Derived.Laws.StructEq
import Derived.Test.YtgplmdgpmbegiaaGreatDoorCp0
set_option linter.all false
namespace Go.Proofs
open Go.Shelf
def Tryz.pX:Go.Shelf.Ren:=⟨λ| 156=>114| 165=>210| 166=>211| 169=>212| 240=>257| 241=>258| 276=>282| 277=>283|n=>n,λ| 31=>28| 9=>9| 3=>3| 4=>4| 0=>0| 20=>20| 72=>271| 76=>275| 70=>269| 37=>119| 75=>274| 127=>308| 164=>332| 5=>5| 80=>97|n=>n,λn=>n⟩
def Tryz.yX:Go.Proofs.Lays.n156 Tryz.prog Tryz.pX:={
 mixed:=by kernel_rfl
 f156:=Tryz.func114.trans (congrArg some (by kernel_rfl))
 f165:=Tryz.func210.trans (congrArg some (by kernel_rfl))
 f166:=Tryz.func211.trans (congrArg some (by kernel_rfl))
 f169:=Tryz.func212.trans (congrArg some (by kernel_rfl))
 f240:=Tryz.func257.trans (congrArg some (by kernel_rfl))
 f241:=Tryz.func258.trans (congrArg some (by kernel_rfl))
 f276:=Tryz.func282.trans (congrArg some (by kernel_rfl))
 f277:=Tryz.func283.trans (congrArg some (by kernel_rfl))
 t0:=Tryz.underlying0
 a0:=Tryz.isAgg0
 z0:=Tryz.sizeOf0
 v0:=Tryz.zeroValue0
 t3:=Tryz.underlying3
 a3:=Tryz.isAgg3
 z3:=Tryz.sizeOf3
 v3:=Tryz.zeroValue3
 t4:=Tryz.underlying4
 a4:=Tryz.isAgg4
 z4:=Tryz.sizeOf4
 v4:=Tryz.zeroValue4
 t9:=Tryz.underlying9
 a9:=Tryz.isAgg9
 z9:=Tryz.sizeOf9
 v9:=Tryz.zeroValue9
 t20:=Tryz.underlying20
 a20:=Tryz.isAgg20
 z20:=Tryz.sizeOf20
 v20:=Tryz.zeroValue20
 t31:=Tryz.underlying28
 a31:=Tryz.isAgg28
 z31:=Tryz.sizeOf28
 v31:=Tryz.zeroValue28
 t37:=Tryz.underlying119
 a37:=Tryz.isAgg119
 z37:=Tryz.sizeOf119
 v37:=Tryz.zeroValue119
 t70:=Tryz.underlying269
 a70:=Tryz.isAgg269
 z70:=Tryz.sizeOf269
 v70:=Tryz.zeroValue269
 t72:=Tryz.underlying271
 a72:=Tryz.isAgg271
 z72:=Tryz.sizeOf271
 v72:=Tryz.zeroValue271
 t75:=Tryz.underlying274
 a75:=Tryz.isAgg274
 z75:=Tryz.sizeOf274
 v75:=Tryz.zeroValue274
 t76:=Tryz.underlying275
 a76:=Tryz.isAgg275
 z76:=Tryz.sizeOf275
 v76:=Tryz.zeroValue275
 t127:=Tryz.underlying308
 a127:=Tryz.isAgg308
 z127:=Tryz.sizeOf308
 v127:=Tryz.zeroValue308
 t164:=Tryz.underlying332
 a164:=Tryz.isAgg332
 z164:=Tryz.sizeOf332
 v164:=Tryz.zeroValue332}
def Tryz.jO:Builder.Extra Tryz.prog Tryz.pX:={
 sizeBuilder:=by kernel_rfl
 liesBuilder:=by kernel_rfl
 t5:=Tryz.underlying5
 a5:=Tryz.isAgg5
 z5:=Tryz.sizeOf5
 v5:=Tryz.zeroValue5
 infoByte:=by kernel_rfl
 cellsByte:=by kernel_rfl
 sizeByte:=by kernel_rfl
 neB5:=by decide}
open Go.RowKit in
theorem Tryz.strings_Join_none(a:Option Addr)(c:Nat)(sep:ByteArray)(w:World):
  Calls Tryz.prog 114 #[.slice a 0 c,.string sep] w λe w'=>e=.returned (.string ⟨#[]⟩)/\w' =w:=Any.strings_Join_none Tryz.yX Tryz.jO a c sep w
open Go.RowKit in
theorem Tryz.strings_Join(bk o c:Nat)(xs:List ByteArray)(sep:ByteArray)(w:World)(hcells:∀(j:Nat) x,xs[j]? =some x->w.cell? ⟨bk,o+j,none⟩=some (.string x))(hbk:bk<w.heap.size)(hN:xs.length<=140737488355328)(hcap:xs.length<=c)(hlen:(Lib.join (xs.map (·.data.toList)) sep.data.toList).length<=140737488355328):
  Calls Tryz.prog 114 #[.slice (some ⟨bk,o,none⟩) xs.length c,.string sep] w λe w'=>e=.returned (.string ⟨(Lib.join (xs.map (·.data.toList)) sep.data.toList).toArray⟩)/\Below w.heap.size w w':=Any.strings_Join Tryz.yX Tryz.jO bk o c xs sep w hcells hbk hN hcap hlen
end Go.Proofs
namespace Go.Proofs
open Go.Shelf
def Tryz.pY:Go.Shelf.Ren:=⟨λ| 105=>252| 212=>267| 99=>270| 165=>210| 166=>211| 170=>271| 169=>212| 263=>285| 264=>286| 206=>287| 240=>257| 241=>258| 276=>282| 277=>283|n=>n,λ| 9=>9| 3=>3| 4=>4| 20=>20| 0=>0| 46=>319| 109=>320| 5=>5| 72=>271| 76=>275| 51=>335| 146=>336| 53=>327| 148=>338| 70=>269| 37=>119| 75=>274| 127=>308| 164=>332| 80=>97|n=>n,λn=>n⟩
def Tryz.El:Go.Proofs.Lays.n105 Tryz.prog Tryz.pY:={
 mixed:=by kernel_rfl
 f99:=Tryz.func270.trans (congrArg some (by kernel_rfl))
 f105:=Tryz.func252.trans (congrArg some (by kernel_rfl))
 f165:=Tryz.func210.trans (congrArg some (by kernel_rfl))
 f166:=Tryz.func211.trans (congrArg some (by kernel_rfl))
 f169:=Tryz.func212.trans (congrArg some (by kernel_rfl))
 f170:=Tryz.func271.trans (congrArg some (by kernel_rfl))
 f206:=Tryz.func287.trans (congrArg some (by kernel_rfl))
 f212:=Tryz.func267.trans (congrArg some (by kernel_rfl))
 f240:=Tryz.func257.trans (congrArg some (by kernel_rfl))
 f241:=Tryz.func258.trans (congrArg some (by kernel_rfl))
 f263:=Tryz.func285.trans (congrArg some (by kernel_rfl))
 f264:=Tryz.func286.trans (congrArg some (by kernel_rfl))
 f276:=Tryz.func282.trans (congrArg some (by kernel_rfl))
 f277:=Tryz.func283.trans (congrArg some (by kernel_rfl))
 t0:=Tryz.underlying0
 a0:=Tryz.isAgg0
 z0:=Tryz.sizeOf0
 v0:=Tryz.zeroValue0
 t3:=Tryz.underlying3
 a3:=Tryz.isAgg3
 z3:=Tryz.sizeOf3
 v3:=Tryz.zeroValue3
 t4:=Tryz.underlying4
 a4:=Tryz.isAgg4
 z4:=Tryz.sizeOf4
 v4:=Tryz.zeroValue4
 t5:=Tryz.underlying5
 a5:=Tryz.isAgg5
 z5:=Tryz.sizeOf5
 v5:=Tryz.zeroValue5
 t9:=Tryz.underlying9
 a9:=Tryz.isAgg9
 z9:=Tryz.sizeOf9
 v9:=Tryz.zeroValue9
 t20:=Tryz.underlying20
 a20:=Tryz.isAgg20
 z20:=Tryz.sizeOf20
 v20:=Tryz.zeroValue20
 t37:=Tryz.underlying119
 a37:=Tryz.isAgg119
 z37:=Tryz.sizeOf119
 v37:=Tryz.zeroValue119
 t46:=Tryz.underlying319
 a46:=Tryz.isAgg319
 z46:=Tryz.sizeOf319
 v46:=Tryz.zeroValue319
 t51:=Tryz.underlying335
 a51:=Tryz.isAgg335
 z51:=Tryz.sizeOf335
 v51:=Tryz.zeroValue335
 t53:=Tryz.underlying327
 a53:=Tryz.isAgg327
 z53:=Tryz.sizeOf327
 v53:=Tryz.zeroValue327
 t70:=Tryz.underlying269
 a70:=Tryz.isAgg269
 z70:=Tryz.sizeOf269
 v70:=Tryz.zeroValue269
 t72:=Tryz.underlying271
 a72:=Tryz.isAgg271
 z72:=Tryz.sizeOf271
 v72:=Tryz.zeroValue271
 t75:=Tryz.underlying274
 a75:=Tryz.isAgg274
 z75:=Tryz.sizeOf274
 v75:=Tryz.zeroValue274
 t76:=Tryz.underlying275
 a76:=Tryz.isAgg275
 z76:=Tryz.sizeOf275
 v76:=Tryz.zeroValue275
 t109:=Tryz.underlying320
 a109:=Tryz.isAgg320
 z109:=Tryz.sizeOf320
 v109:=Tryz.zeroValue320
 t127:=Tryz.underlying308
 a127:=Tryz.isAgg308
 z127:=Tryz.sizeOf308
 v127:=Tryz.zeroValue308
 t146:=Tryz.underlying336
 a146:=Tryz.isAgg336
 z146:=Tryz.sizeOf336
 v146:=Tryz.zeroValue336
 t148:=Tryz.underlying338
 a148:=Tryz.isAgg338
 z148:=Tryz.sizeOf338
 v148:=Tryz.zeroValue338
 t164:=Tryz.underlying332
 a164:=Tryz.isAgg332
 z164:=Tryz.sizeOf332
 v164:=Tryz.zeroValue332}
def Tryz.pg:Builder.Extra Tryz.prog Tryz.pY:={
 sizeBuilder:=by kernel_rfl
 liesBuilder:=by kernel_rfl
 t5:=Tryz.underlying5
 a5:=Tryz.isAgg5
 z5:=Tryz.sizeOf5
 v5:=Tryz.zeroValue5
 infoByte:=by kernel_rfl
 cellsByte:=by kernel_rfl
 sizeByte:=by kernel_rfl
 neB5:=by decide}
end Go.Proofs
namespace Go.Abs
inductive AV where
 |bool (b:Bool)
 |int (k:IntKind) (n:Int)
 |wR (k:FloatKind) (b:Nat)
 |wy (k:FloatKind) (re im:Nat)
 |str (s:By)
 |ptr (b o:Nat)
 |nilPtr
 |slice (b o n e:Nat)
 |af
 |map (r:Nat)
 |db
 |func (f:Fn) (a c:List AV)
 |nilFunc
 |agg (l:List AV)
 |dM (l:List AV)
 |uM (u:TypeId) (v:AV)
 |kE
 deriving Inhabited
def az:AV:=.dM []
def AV.cells:AV->List AV
 |.agg l=>l
 |v=>[v]
def AV.one:AV->Bool
 |.agg _=>false
 |.dM _=>false
 |.kE=>false
 |_=>true
inductive cX where
 |t (i:Nat)
 |c (v:AV)
 |g (i:Nat)
 |f (i:Nat)
 deriving Inhabited
inductive CK where
 |b
 |i
 |s
 deriving DecidableEq,Inhabited
inductive Qq where
 |one (k:CK)
 |agg (ks:List CK)
 |Ed
 |Ee
 |qj
 |Lt
 deriving Inhabited
inductive zv where
 |Jw (k:IntKind)
 |N4
 |Nh
 |same
 |O6 (k:FloatKind)
 |Pn (k:IntKind)
 |Po (k:FloatKind)
 |uM (u:TypeId)
 deriving Inhabited
inductive LK where
 |sl
 |st
 |mp
 deriving DecidableEq,Inhabited
inductive pf where
 |cA (x:cX)
 |pick (c a b:cX)
 |box (x:cX)
 |oE (n:Nat) (x:cX)
 |build (z:List AV) (ps:List (Nat×Nat×cX))
 |bd (es:Nat) (n:Nat) (z:List AV) (ps:List (Nat×cX))
 |load (n:Option Nat) (a:cX)
 |store (n:Nat) (a x:cX)
 |bP (x:cX)
 |bin (op:BinOp) (x y:cX)
 |eqv (neg:Bool) (t:Qq) (x y:cX)
 |un (op:UnOp) (x:cX)
 |conv (k:zv) (x:cX)
 |uc (f:Fn) (a c:List cX)
 |mJ
 |vG (es w:Nat) (z:List AV) (l c:cX)
 |sl (es:Nat) (x:cX) (lo hi:Option cX)
 |Jt (x:cX) (lo hi:Option cX)
 |Nc (n es:Nat) (x:cX) (lo hi:Option cX)
 |aU (off:Nat) (x:cX)
 |bD (es:Nat) (x i:cX)
 |si (len es:Nat) (x i:cX)
 |part (n:Option Nat) (off:Nat) (x:cX)
 |Jv (len es:Nat) (n:Option Nat) (x i:cX)
 |Dp (x i:cX)
 |look (kk:CK) (z:AV) (ok:Bool) (m k:cX)
 |fE (kk:CK) (m k x:cX)
 |BJ (x:cX)
 |rl (x:cX)
 |ext (x:cX) (i:Nat)
 |call (f:cX) (args:List cX)
 |len (lk:LK) (x:cX)
 |zW (n:Nat)
 |app (es w:Nat) (x y:cX)
 |zb (es:Nat) (x y:cX)
 |mx (x:cX) (l:List cX)
 |mn (x:cX) (l:List cX)
 |bad
 deriving Inhabited
structure bI where
 dst:Option Nat
 k:pf
 gd:Option (Nat×Bool)
 q:Bool
 deriving Inhabited
def ue(d:Option Nat)(k:pf)(n:Nat):Prop:=
 match k,d with
 |.oE _ _,some d=>d<n
 |_,_=>True
inductive ai where
 |skip
 |ops (l:List bI)
 |sf (l:List bI)
 |mD (l:List bI)
 |seq (a b:ai)
 |cond (c:cX) (a b:ai)
 |block (id:Nat) (a:ai)
 |loop (a:ai)
 |exit (id:Nat)
 |ret
 |fL (g:cX) (ps:List Nat) (asg body:ai)
 |bad
 deriving Inhabited
inductive Ex where
 |normal
 |exit (id:Nat)
 |ret
 deriving DecidableEq,Inhabited
def Ex.CJ:Ex->Exit
 |.normal=>.normal
 |.exit id=>.exit id
 |.ret=>.ret
def Ex.jump:Ex->Option Code
 |.normal=>none
 |.exit id=>some (.exit id)
 |.ret=>some .ret
inductive ak where
 |cells (c:List AV) (mu tl:Bool)
 |dead
 |bf (es:List (AV×AV))
 |iter (s:By) (pos:Nat)
 |loop (st:LoopState) (ex:Ex) (ts:List AV) (ps:List Nat) (asg body:ai)
 deriving Inhabited
abbrev ah:=List ak
abbrev TS:=List AV
structure sK where
 cb:Nat
 d:Nat
 sz:Nat
 own:Bool
abbrev b9:=Nat->Option sK
def b9.le(m m':b9):Prop:=∀b e,m b=some e->m' b=some e
def b9.le_trans{a b c:b9}(h:a.le b)(k:b.le c):a.le c:=λx e hx=>k x e (h x e hx)
def Eg(k:FloatKind)(b:Nat):Bool:=(k.format.order b b).isNone
def FR(k:FloatKind)(b b':Nat):Prop:=b' =b\/(Eg k b=true/\Eg k b' =true)
def AP(m:b9):Fn->Fn->Prop
 |.yield l,g=>∃e,m l=some e/\g=.yield e.cb
 |f,g=>g=f
mutual
def VR(m:b9):AV->Value->Prop
 |.bool b,v=>v=.bool b
 |.int k n,v=>v=.int k n
 |.wR k b,v=>∃b',v=.float k b'/\FR k b b'
 |.wy k x y,v=>∃x' y',v=.complex k x' y'/\FR k x x'/\FR k y y'
 |.str s,v=>v=.string ⟨⟨s⟩⟩
 |.ptr b o,v=>∃e,m b=some e/\v=.pointer (some ⟨e.cb,o+e.d,none⟩)
 |.nilPtr,v=>v=.pointer none
 |.slice b o n es,v=>∃e ca cap,m b=some e/\v=.slice (some ca) n cap/\n<=cap/\(0<cap->ca=⟨e.cb,o+e.d,none⟩)/\o+e.d+cap*es<=e.sz
 |.af,v=>v=.slice none 0 0
 |.map r,v=>∃e,m r=some e/\v=.map (some e.cb)
 |.db,v=>v=.map none
 |.func f a c,v=>∃f' a' c',v=.func f' ⟨a'⟩ ⟨c'⟩/\AP m f f'/\cI m a a'/\cI m c c'
 |.nilFunc,v=>v=.nilFunc
 |.agg l,v=>∃l',v=.agg ⟨l'⟩/\cI m l l'
 |.dM l,v=>∃l',v=.tuple ⟨l'⟩/\cI m l l'
 |.uM u a,v=>∃v',v=.iface u v'/\VR m a v'
 |.kE,v=>v=.nilIface
def cI(m:b9):List AV->List Value->Prop
 |[],vs=>vs=[]
 |x::xs,vs=>∃y ys,vs=y::ys/\VR m x y/\cI m xs ys
end
def AP.mono{m m'}(h:m.le m'):∀{f g},AP m f g->AP m' f g:=by
 intro f g hf;cases f<;>simp only[AP]at hf ⊢<;>try exact hf
 obtain⟨e,he,hg⟩:=hf;exact⟨e,h _ _ he,hg⟩
mutual
theorem VR.mono{m m'}(h:m.le m'):∀(a:AV) (v:Value),VR m a v->VR m' a v
 |.bool _,v,hv=>hv
 |.int _ _,v,hv=>hv
 |.wR _ _,v,hv=>hv
 |.wy _ _ _,v,hv=>hv
 |.str _,v,hv=>hv
 |.ptr b o,v,hv=>by
  obtain⟨e,he,hv⟩:=(show ∃e,m b=some e/\v=.pointer (some ⟨e.cb,o+e.d,none⟩)from hv);exact⟨e,h _ _ he,hv⟩
 |.nilPtr,v,hv=>hv
 |.slice b o n es,v,hv=>by
  obtain⟨e,ca,cap,he,hr⟩:=(show ∃e ca cap,m b=some e/\v=.slice (some ca) n cap/\n<=cap/\(0<cap->ca=⟨e.cb,o+e.d,none⟩)/\o+e.d+cap*es<=e.sz from hv);exact⟨e,ca,cap,h _ _ he,hr⟩
 |.af,v,hv=>hv
 |.map r,v,hv=>by
  obtain⟨e,he,hv⟩:=(show ∃e,m r=some e/\v=.map (some e.cb)from hv);exact⟨e,h _ _ he,hv⟩
 |.db,v,hv=>hv
 |.func f a c,v,hv=>by
  obtain⟨f',a',c',hv,hf,ha,hc⟩:=(show ∃f' a' c',v=.func f' ⟨a'⟩ ⟨c'⟩/\AP m f f'/\cI m a a'/\cI m c c' from hv);exact⟨f',a',c',hv,hf.mono h,cI.mono h a a' ha,cI.mono h c c' hc⟩
 |.nilFunc,v,hv=>hv
 |.agg l,v,hv=>by
  obtain⟨l',hv,hl⟩:=(show ∃l',v=.agg ⟨l'⟩/\cI m l l' from hv);exact⟨l',hv,cI.mono h l l' hl⟩
 |.dM l,v,hv=>by
  obtain⟨l',hv,hl⟩:=(show ∃l',v=.tuple ⟨l'⟩/\cI m l l' from hv);exact⟨l',hv,cI.mono h l l' hl⟩
 |.uM u a,v,hv=>by
  obtain⟨v',hv,ha⟩:=(show ∃v',v=.iface u v'/\VR m a v' from hv);exact⟨v',hv,VR.mono h a v' ha⟩
 |.kE,v,hv=>hv
theorem cI.mono{m m'}(h:m.le m'):∀(l:List AV) (vs:List Value),cI m l vs->cI m' l vs
 |[],_,hv=>hv
 |x::xs,vs,hv=>by
  obtain⟨y,ys,hv,hx,UM⟩:=(show ∃y ys,vs=y::ys/\VR m x y/\cI m xs ys from hv);exact⟨y,ys,hv,VR.mono h x y hx,cI.mono h xs ys UM⟩
end
def bE{m vs}:cI m [] vs↔vs=[]:=Iff.rfl
def aO{m x xs vs}:cI m (x::xs) vs↔∃y ys,vs=y::ys/\VR m x y/\cI m xs ys:=Iff.rfl
theorem cI.length{m}:∀{l}{vs},cI m l vs->vs.length=l.length
 |[],_,h=>by rw[bE]at h;simp[h]
 |x::xs,vs,h=>by
  obtain⟨y,ys,rfl,_,UM⟩:=aO.1 h;simp[cI.length UM]
theorem cI.get{m:b9}:∀{l:List AV}{vs:List Value},cI m l vs->∀{i:Nat}{x:AV},l[i]? =some x->∃y,vs[i]? =some y/\VR m x y
 |[],_,_,i,x,h=>by simp at h
 |z::zs,vs,h,i,x,hx=>by
  obtain⟨y,ys,rfl,hy,hys⟩:=aO.1 h;cases i with
  |zero=>simp at hx;subst hx;exact⟨y,Si,hy⟩
  |succ i=>simp at hx;simpa using cI.get hys hx
theorem cI.iA{m}:∀{l}{vs},vs.length=l.length->(∀(i:Nat) (x:AV),l[i]? =some x->∃y,vs[i]? =some y/\VR m x y)->cI m l vs
 |[],vs,hl,_=>by rw[bE];exact ZZ.1 (by simpa using hl)
 |x::xs,[],hl,_=>by simp at hl
 |x::xs,v::vs,hl,h=>by
  refine aO.2 ⟨v,vs,rfl,?_,cI.iA (by simpa using hl) λi z hz=>?_⟩
  ·obtain⟨y,hy,hr⟩:=h 0 x Si;simp at hy;subst hy;exact hr
  ·obtain⟨y,hy,hr⟩:=h (i+1) z (by simpa using hz);exact⟨y,by simpa using hy,hr⟩
theorem cI.append{m}:∀{a b}{va vb},cI m a va->cI m b vb->cI m (a++b) (va++vb)
 |[],b,va,vb,ha,hb=>by rw[bE]at ha;subst ha;simpa using hb
 |x::xs,b,va,vb,ha,hb=>by
  obtain⟨y,ys,rfl,hy,hys⟩:=aO.1 ha;exact aO.2 ⟨y,ys++vb,Si,hy,cI.append hys hb⟩
theorem cI.set{m:b9}{l:List AV}{vs:List Value}(h:cI m l vs)(i:Nat){x:AV}{v:Value}(hx:VR m x v):cI m (l.set i x) (vs.set i v):=by
 refine cI.iA (by simp[h.length]) λj z hz=>?_
 rw[List.getElem?_set]at hz ⊢;by_cases hij:i=j
 ·simp only[hij,Zi]at hz ⊢;split at hz
  ·simp only[Zu]at hz;subst hz;rename_i hlt;exact⟨v,by simp[h.length,hlt],hx⟩
  ·simp at hz
 ·simp only[hij,Zf]at hz ⊢;exact h.get hz
theorem cI.take{m}:∀{l}{vs}(n:Nat),cI m l vs->cI m (l.take n) (vs.take n)
 |[],vs,n,h=>by rw[bE]at h;subst h;simp[bE]
 |x::xs,vs,0,h=>by simp[bE]
 |x::xs,vs,n+1,h=>by
  obtain⟨y,ys,rfl,hy,hys⟩:=aO.1 h;exact aO.2 ⟨y,ys.take n,Si,hy,cI.take n hys⟩
theorem cI.drop{m}:∀{l}{vs}(n:Nat),cI m l vs->cI m (l.drop n) (vs.drop n)
 |[],vs,n,h=>by rw[bE]at h;subst h;simp[bE]
 |x::xs,vs,0,h=>by simpa using h
 |x::xs,vs,n+1,h=>by
  obtain⟨y,ys,rfl,hy,hys⟩:=aO.1 h
  simpa using cI.drop n hys
theorem VR.one{m x v}(h:VR m x v)(hx:x.one=true):v.cells=#[v]:=by
 exact QT
def VR.tX{m x v}(h:VR m x v)(hx:x.one=true):v.oneCell' =true:=by
 exact QT
theorem VR.cells{m x v}(h:VR m x v):cI m x.cells v.cells.toList:=by
 by_cases hx:x.one=true
 ·have hc:x.cells=[x]:=by cases x<;>first|rfl|cases hx
  rw[h.one hx,hc];exact aO.2 ⟨v,[],rfl,h,bE.2 rfl⟩
 ·cases x with
  |agg l=>rw[VR]at h;obtain⟨l',rfl,hl⟩:=h;exact hl
  |dM l=>exact aO.2 ⟨v,[],by rw[VR]at h;obtain⟨l',rfl,hl⟩:=h;rfl,h,bE.2 rfl⟩
  |kE=>exact aO.2 ⟨v,[],by rw[VR]at h;subst h;rfl,h,bE.2 rfl⟩
  |_=>exact absurd rfl hx
def val(ts:TS):cX->AV
 |.t i=>ts.getD i az
 |.c v=>v
 |.g i=>.ptr i 0
 |.f i=>.func (.func i) [] []
def put(ts:TS)(d:Option Nat)(v:AV):TS:=
 match d with
 |some d=>ts.set d v
 |none=>ts
def wanted(g:Option (Nat×Bool))(ts:TS):Prop:=
 match g with
 |none=>True
 |some (t,b)=>ts[t]? =some (.bool b)
def ez(h:ah)(b:Nat):Bool:=
 match h[b]? with
 |some (.cells _ _ tl)=>tl
 |_=>false
def mE:Nat->Value->Option AV
 | 0,_=>none
 |n+1,v=>
  match v with
  |.bool b=>some (.bool b)
  |.int k i=>some (.int k i)
  |.float k b=>some (.wR k b)
  |.complex k x y=>some (.wy k x y)
  |.string s=>some (.str s.data.toList)
  |.pointer none=>some .nilPtr
  |.slice none 0 0=>some .af
  |.map none=>some .db
  |.nilFunc=>some .nilFunc
  |.agg cs=>(cs.toList.mapM (mE n)).map .agg
  |.tuple cs=>(cs.toList.mapM (mE n)).map .dM
  |_=>none
def cS:Operand->Option cX
 |.tmp t=>some (.t t)
 |.const v=>(mE 4 v).map .c
 |.global g=>some (.g g)
 |.func f=>some (.f f)
def D9:Operand->Option cX
 |.global _=>none
 |x=>cS x
def yS(l:Array Operand):Option (List cX):=l.toList.mapM cS
def vu:Option Operand->Option (Option cX)
 |none=>some none
 |some x=>(cS x).map some
def jR:TypeDesc->Bool
 |.struct _=>true
 |.array _ _=>true
 |_=>false
def AS(P:Program)(t:TypeId):Option (Option Nat):=
 match P.underlying t with
 |some d=>if jR d then(P.info? t).map λi=>some i.size else some none
 |none=>none
def dS(P:Program)(t:TypeId):Option Nat:=(P.info? t).map (·.size)
def jF(P:Program)(t:TypeId):Option AV:=(P.info? t).bind λi=>i.zero.bind (mE 4)
def wj(P:Program)(F:TypeId->Option (List CK)):List Field->Nat->Option (List CK)
 |[],_=>some []
 |f::fs,off=>
  match F f.type,P.info? f.type with
  |some ks,some i=>
   if f.name≠ "_"/\f.offset=off/\i.size=ks.length/\0<ks.length then
    match wj P F fs (off+ks.length)with
    |some r=>some (ks++r)
    |none=>none
   else none
  |_,_=>none
def flat(P:Program):Nat->TypeId->Option (List CK)
 | 0,_=>none
 |d+1,t=>
  match P.underlying t with
  |some .bool=>some [.b]
  |some (.int _)=>some [.i]
  |some .string=>some [.s]
  |some (.struct fs)=>if P.stoodInHeld t=false then wj P (flat P d) fs.toList 0 else none
  |some (.array len e)=>
   match flat P d e,P.info? e with
   |some ks,some i=>if i.size=ks.length/\0<ks.length then some (List.replicate len ks).flatten else none
   |_,_=>none
  |_=>none
def Is(P:Program)(neg:Bool)(t:TypeId)(x y:cX):Option pf:=
 match P.underlying t with
 |some (.int _)=>some (.bin (if neg then .neq else .eql) x y)
 |some .string=>some (.bin (if neg then .neq else .eql) x y)
 |some (.float _)=>some (.bin (if neg then .neq else .eql) x y)
 |some .bool=>some (.eqv neg (.one .b) x y)
 |some (.struct _)=>if P.eqGuardType P.depth t=false then(flat P 20 t).map λks=>.eqv neg (.agg ks) x y else none
 |some (.array _ _)=>if P.eqGuardType P.depth t=false then(flat P 20 t).map λks=>.eqv neg (.agg ks) x y else none
 |some (.slice _)=>some (.eqv neg .Ed x y)
 |some (.pointer _)=>some (.eqv neg .Ee x y)
 |some (.func _ _ _)=>some (.eqv neg .qj x y)
 |some (.map _ _)=>some (.eqv neg .Lt x y)
 |_=>none
def Ey(P:Program)(e:TypeId):Bool:=
 match P.underlying e with
 |some (.int .u8)=>true
 |_=>false
def CI(P:Program)(s d:TypeId):Option zv:=
 match P.underlying s,P.underlying d with
 |some (.int _),some (.int k)=>some (.Jw k)
 |some (.int _),some (.float k)=>some (.O6 k)
 |some (.float _),some (.int k)=>some (.Pn k)
 |some (.float _),some (.float k)=>some (.Po k)
 |some .string,some .string=>some .same
 |some .string,some (.slice e)=>if Ey P e=true then some .N4 else none
 |some (.slice e),some .string=>if Ey P e=true then some .Nh else none
 |_,_=>none
def fieldAt(P:Program)(t:TypeId)(i:Nat):Option Field:=
 match P.underlying t with
 |some (.struct fs)=>fs[i]?
 |_=>none
def jH(P:Program)(t:TypeId)(i:Nat):Option (Nat×Nat):=
 match P.underlying t with
 |some (.struct fs)=>
  match fs.toList.mapM (λf=>(P.info? f.type).map λi=>(f.offset,i.size))with
  |some places=>places[i]?
  |none=>none
 |some (.array _ e)=>(P.info? e).map λie=>(i*ie.size,ie.size)
 |_=>none
def nU(P:Program)(t:TypeId):Bool:=
 match P.underlying t with
 |some (.struct fs)=>(fs.toList.mapM (λf=>(P.info? f.type).map λi=>(f.offset,i.size))).isSome
 |some (.array _ e)=>(P.info? e).isSome
 |_=>false
def mv(P:Program)(t:TypeId):List (Nat×Operand)->Option (List (Nat×Nat×cX))
 |[]=>some []
 |(i,x)::r=>
  match jH P t i,cS x,mv P t r with
  |some (off,n),some y,some r=>some ((off,n,y)::r)
  |_,_,_=>none
def dU(P:Program)(t:TypeId):Option (TypeId×TypeInfo):=
 match P.underlying t with
 |some (.slice e)=>(P.info? e).map λi=>(e,i)
 |_=>none
def oA(P:Program)(b:Builtin)(ts:Array TypeId)(args:List cX):Option pf:=
 match b,args with
 |.len,[x]=>
  match (ts[0]?).bind P.underlying with
  |some (.slice _)=>some (.len .sl x)
  |some .string=>some (.len .st x)
  |some (.map _ _)=>some (.len .mp x)
  |some (.array n _)=>some (.zW n)
  |_=>none
 |.append,[x,y]=>
  match (ts[0]?).bind (dU P),(ts[1]?).bind P.underlying with
  |some (_,i),some (.slice _)=>if 0<i.size/\0<i.bytes/\i.bytes<=2^20 then(i.zero.bind (mE 4)).bind λz=>if z.cells.length=i.size then some (.app i.size i.bytes x y)else none else none
  |some (_,i),some .string=>if 0<i.size/\0<i.bytes/\i.bytes<=2^20 then(i.zero.bind (mE 4)).bind λz=>if z.cells.length=i.size then some (.app i.size i.bytes x y)else none else none
  |_,_=>none
 |.copy,[x,y]=>
  match (ts[0]?).bind (dU P)with
  |some (_,i)=>if 0<i.size then some (.zb i.size x y)else none
  |_=>none
 |.max,x::l=>some (.mx x l)
 |.min,x::l=>some (.mn x l)
 |_,_=>none
def xW(P:Program)(t:TypeId):Option CK:=
 match P.underlying t with
 |some (.int _)=>some .i
 |some .string=>some .s
 |some .bool=>some .b
 |_=>none
def B4:Fn->Bool
 |.yield _=>false
 |_=>true
def dY(P:Program)(o:Oper):Option pf:=
 match o.op with
 |.move x=>(cS x).map .cA
 |.assign x=>(cS x).map .cA
 |.pick c a b=>
  match cS c,cS a,cS b with
  |some c,some a,some b=>some (.pick c a b)
  |_,_,_=>none
 |.alloc e=>
  match jF P e with
  |some z=>if z.cells.all AV.one then some (.box (.c z))else none
  |none=>none
 |.box _ x=>(cS x).map .box
 |.build t ps=>
  match jF P t,mv P t ps.toList with
  |some z,some l=>if nU P t=true then some (.build z.cells l)else none
  |_,_=>none
 |.buildSlice t n ps=>
  match dU P t with
  |some (e,i)=>
   match jF P e,ps.toList.mapM λp=>(cS p.2).map λy=>(p.1*i.size,y)with
   |some z,some l=>if 0<i.size/\z.cells.length=i.size/\z.cells.all AV.one/\n*i.size<=2^24 then some (.bd i.size n z.cells l)else none
   |_,_=>none
  |none=>none
 |.load t a=>
  match AS P t,cS a with
  |some n,some a=>some (.load n a)
  |_,_=>none
 |.store t a x=>
  match dS P t,cS a,cS x with
  |some n,some a,some x=>some (.store n a x)
  |_,_,_=>none
 |.nilCheck x=>(cS x).map .bP
 |.binOp op t x y _=>
  match cS x,cS y with
  |some x,some y=>
   match op with
   |.eql=>Is P false t x y
   |.neq=>Is P true t x y
   |_=>some (.bin op x y)
  |_,_=>none
 |.unOp op _ x=>(cS x).map (.un op)
 |.convert s d x=>
  match CI P s d,cS x with
  |some k,some x=>some (.conv k x)
  |_,_=>none
 |.makeInterface t x=>
  match P.underlying t,cS x with
  |some (.interface _),_=>none
  |some _,some x=>some (.conv (.uM t) x)
  |_,_=>none
 |.makeFunc fn a c=>
  if B4 fn=true then
   match yS a,yS c with
   |some a,some c=>some (.uc fn a c)
   |_,_=>none
  else none
 |.makeMap _ none=>some .mJ
 |.makeSlice t l c=>
  match dU P t,cS l,cS c with
  |some (e,i),some l,some c=>
   match jF P e with
   |some z=>if 0<i.size/\z.cells.length=i.size/\z.cells.all AV.one then some (.vG i.size i.bytes z.cells l c)else none
   |none=>none
  |_,_,_=>none
 |.slice t x lo hi none=>
  match cS x,vu lo,vu hi with
  |some x,some lo,some hi=>
   match P.underlying t with
   |some .string=>some (.Jt x lo hi)
   |some (.slice e)=>(dS P e).map λn=>.sl n x lo hi
   |some (.array k e)=>(dS P e).map λn=>.Nc k n x lo hi
   |_=>none
  |_,_,_=>none
 |.fieldAddr t x i=>
  match fieldAt P t i,cS x with
  |some f,some x=>
   match dS P f.type with
   |some n=>if 0<n then some (.aU f.offset x)else none
   |none=>none
  |_,_=>none
 |.indexAddr t x i=>
  match cS x,cS i with
  |some x,some i=>
   match P.underlying t with
   |some (.slice e)=>(dS P e).map λn=>.bD n x i
   |some (.array k e)=>(dS P e).map λn=>.si k n x i
   |_=>none
  |_,_=>none
 |.field t x i=>
  match fieldAt P t i,cS x with
  |some f,some x=>(AS P f.type).map λn=>.part n f.offset x
  |_,_=>none
 |.index t x i=>
  match cS x,cS i with
  |some x,some i=>
   match P.underlying t with
   |some .string=>some (.Dp x i)
   |some (.array k e)=>
    match dS P e,AS P e with
    |some n,some q=>some (.Jv k n q x i)
    |_,_=>none
   |_=>none
  |_,_=>none
 |.lookup t m k ok=>
  match P.underlying t,cS m,cS k with
  |some (.map kt e),some m,some k=>
   match xW P kt,jF P e with
   |some kk,some z=>some (.look kk z ok m k)
   |_,_=>none
  |_,_,_=>none
 |.mapUpdate t m k x=>
  match P.underlying t,cS m,cS k,cS x with
  |some (.map kt _),some m,some k,some x=>(xW P kt).map λkk=>.fE kk m k x
  |_,_,_,_=>none
 |.insert t m k x=>
  match P.underlying t,cS m,cS k,cS x with
  |some (.map kt _),some m,some k,some x=>(xW P kt).map λkk=>.fE kk m k x
  |_,_,_,_=>none
 |.range t x=>
  match P.underlying t with
  |some .string=>(cS x).map .BJ
  |_=>none
 |.next x true=>(cS x).map .rl
 |.extract x i=>(cS x).map λx=>.ext x i
 |.call c=>
  match yS c.args with
  |some l=>
   match c.callee with
   |.value f=>(cS f).map λf=>.call f l
   |.invoke r name=>(cS r).map λr=>.call (.c (.func (.method name) [] [])) (r::l)
   |.builtin b=>oA P b c.argTypes l
  |none=>none
 |_=>none
def uf(ops:Array Oper)(g:Option (Nat×Bool)):Option (Option (Nat×Bool)):=
 match g with
 |none=>some none
 |some (j,b)=>((ops[j]?).bind (·.dst)).map λd=>some (d,b)
def Nf(P:Program):Operand->Bool
 |.global g=>decide (g<P.globals.size)
 |_=>true
def bT(P:Program)(ops:Array Oper)(q:Bool)(o:Oper):Option bI:=
 match uf ops o.guard with
 |some g=>some {dst:=o.dst,k:=if o.op.operands.toList.all (Nf P)then(dY P o).getD .bad else .bad,gd:=g,q:=q}
 |none=>none
def ahead(M:Array Nat)(i j:Nat):Bool:=(M.getD j 0).testBit i
def kJ(M:Array Nat)(ops:Array Oper):Bool:=
 (List.range ops.size).all λj=>
  match ops[j]? with
  |none=>true
  |some o=>
   (o.after.toList.all λe=>!Region.binds .any e||decide (e.on<j)) &&
   ((List.range ops.size).all λi=>!ahead M i j||o.after.toList.any λe=>Region.binds .any e&&(e.on==i||ahead M i e.on))
def lV(M:Array Nat)(ops:Array Oper):Bool:=
 (List.range ops.size).all λj=>
  (List.range j).all λi=>
   match ops[i]?,ops[j]? with
   |some x,some y=>
    (match x.dst with
     |some d=>y.dst !=some d&&(!(y.looksAt ops).contains d||ahead M i j)
     |none=>true) &&
    (match y.dst with
     |some d=>!(x.looksAt ops).contains d||ahead M i j
     |none=>true)
   |_,_=>true
def gL(M:Array Nat)(n j:Nat):Bool:=
 (List.range n).all λi=>i==j||(if i<j then ahead M i j else ahead M j i)
def eO{α β:Type}(f:Nat->α->Option β):List α->Nat->Option (List β)
 |[],_=>some []
 |x::xs,i=>
  match f i x,eO f xs (i+1)with
  |some y,some ys=>some (y::ys)
  |_,_=>none
def yd:AV->Bool
 |.bool _=>true
 |.int _ _=>true
 |.wR _ _=>true
 |.wy _ _ _=>true
 |.str _=>true
 |.nilPtr=>true
 |.af=>true
 |.db=>true
 |.nilFunc=>true
 |_=>false
def lS(o:bI):Option (Nat×Nat×cX):=
 match o.dst,o.k,o.gd,o.q with
 |none,.store n (.t t) x,none,true=>some (n,t,x)
 |_,_,_,_=>none
def tH(o:bI):Option (Nat×AV):=
 match o.dst,o.k,o.gd,o.q with
 |some t,.box (.c z),none,true=>some (t,z)
 |_,_,_,_=>none
def fA(ops:Array Oper)(j t:Nat):Bool:=
 match ops[j]? with
 |some o=>(o.looksAt ops).contains t
 |none=>false
def pq(ops:Array Oper)(l:List bI)(k s:Nat):Bool:=
 match (l[k]?).bind tH,(l[s]?).bind lS with
 |some (t,z),some (n,t',x)=>
  t==t'&&z.cells.length==n&&z.cells.all yd&&(match x with|.t u=>u !=t&&fA ops s u|_=>true)&&fA ops s t&&(List.range ops.size).all λj=>j==s || !fA ops j t
 |_,_=>false
def O4(ops:Array Oper)(l:List bI)(s:Nat):Option Nat:=(List.range s).find? λk=>pq ops l k s
def N2(ops:Array Oper)(l:List bI)(k:Nat):Option Nat:=(List.range l.length).find? λs=>decide (k<s)&&pq ops l k s
def tz(ops:Array Oper)(l:List bI)(j:Nat)(o:bI):bI:=
 match lS o with
 |some (n,t,x)=>
  match O4 ops l j with
  |some _=>{dst:=some t,k:=.oE n x,gd:=none,q:=true}
  |none=>o
 |none=>
  match tH o with
  |some _=>
   match N2 ops l j with
   |some _=>{dst:=none,k:=.cA (.c (.bool false)),gd:=none,q:=true}
   |none=>o
  |none=>o
def p7(ops:Array Oper)(l:List bI):Nat->List bI->List bI
 |_,[]=>[]
 |j,o::r=>tz ops l j o::p7 ops l (j+1) r
def cM(P:Program)(ops:Array Oper)(draw:Bool):Option (List bI):=
 if draw then
  let M:=Region.before ops
  if kJ M ops&&lV M ops then
   (eO (λi o=>bT P ops (!gL M ops.size i) o) ops.toList 0).map λl=>p7 ops l 0 l
  else none
 else eO (λ_ o=>bT P ops false o) ops.toList 0
def fu:pf->Bool
 |.cA _=>true
 |.pick _ _ _=>true
 |.bin _ _ _=>true
 |.eqv _ _ _ _=>true
 |.un _ _=>true
 |.conv (.Jw _) _=>true
 |.aU _ _=>true
 |.si _ _ _ _=>true
 |.bD _ _ _=>true
 |.part _ _ _=>true
 |.Jv _ _ _ _ _=>true
 |.Dp _ _=>true
 |.ext _ _=>true
 |.bP _=>true
 |.mx _ _=>true
 |.mn _ _=>true
 |.build _ _=>true
 |.Jt _ _ _=>true
 |.sl _ _ _ _=>true
 |.zW _=>true
 |.uc _ _ _=>true
 |.len .sl _=>true
 |.len .st _=>true
 |_=>false
def cD:pf->Bool
 |.load _ _=>true
 |k=>fu k
def C2:pf->Bool
 |.box _=>true
 |.bd _ _ _ _=>true
 |.mJ=>true
 |_=>false
def EB:pf->Bool
 |.call _ _=>true
 |_=>false
def kN(o:bI):Bool:=C2 o.k||(o.q&&EB o.k)
def EA(o:Oper):Bool:=
 match o.op with
 |.call c=>
  match c.callee with
  |.builtin _=>false
  |_=>true
 |_=>false
def Ez(o:Oper):Bool:=
 o.guard.isNone&&match o.op with
 |.load _ _=>true
 |_=>false
def sg(c:Nat)(o:Oper):Bool:=(decide (1<=c)&&EA o)||(decide (2<=c)&&Ez o)
def mK(o:bI):Bool:=
 o.q&&match o.k with
 |.load _ _=>true
 |_=>false
def nX(M:Array Nat)(l:List bI):Bool:=
 (List.range l.length).all λj=>
  (List.range j).all λi=>
   match l[i]?,l[j]? with
   |some x,some y=>fu x.k||fu y.k||mK x||mK y||(cD x.k&&(cD y.k||kN y))||(kN x&&cD y.k)||ahead M i j
   |_,_=>true
def yP(o:bI):Bool:=
 o.q&&match o.k with
  |.store _ _ _=>true
  |_=>false
def Ma(o:bI):Bool:=
 o.q&&match o.k with
  |.store _ _ _=>true
  |.app _ _ _ _=>true
  |.zb _ _ _=>true
  |.fE _ _ _ _=>true
  |_=>false
def Ci(o:bI):Bool:=fu o.k||match o.k with
 |.store _ _ _=>true
 |_=>false
def LY(o:bI):Bool:=match o.k with
 |.store _ _ _=>true
 |_=>false
def kF(l:List bI):Bool:=l.all Ci&&decide ((l.filter LY).length<=2)
def dK:List bI->Nat
 |[]=>0
 |o::r=>if kF (o::r)=true then 0 else dK r+1
def nj(M:Array Nat)(l:List bI):Bool:=
 (List.range l.length).all λi=>
  match l[i]? with
  |some x=>!mK x||(List.range l.length).all λj=>
    match l[j]? with
    |some y=>cD y.k||decide (j<dK l)||ahead M i j
    |none=>true
  |none=>true
def rq(M:Array Nat)(l:List bI)(f:Nat):Bool:=
 (List.range l.length).all λj=>
  (List.range j).all λi=>
   match l[i]?,l[j]? with
   |some x,some y=>fu x.k||fu y.k||mK x||mK y||decide (j=f)||ahead M i j
   |_,_=>true
def wi(ops:Array Oper)(l:List bI)(f:Nat):Bool:=
 match l[f]? with
 |some {dst:=some d,k:=.bd _ _ z ps,gd:=none,q:=_}=>z.all yd&&ps.all (λp=>match p.2 with|.t u=>fA ops f u|_=>false)&&(List.range l.length).all λj=>
   match l[j]? with
   |some o=>!cD o.k||((fu o.k||mK o) && !fA ops j d)
   |none=>true
 |_=>false
def Gv(M:Array Nat)(ops:Array Oper)(l:List bI):Option Nat:=(List.range l.length).find? λf=>wi ops l f&&rq M l f
def MI(l:List bI):Bool:=l.any λo=>o.q&&match o.k with
 |.app _ _ (.t d) _=>l.any λp=>p.dst==some d&&match p.k with
  |.app _ _ _ _=>true
  |_=>false
 |_=>false
def nB(P:Program)(ops:Array Oper)(draw:Bool):Option ai:=
 match cM P ops draw with
 |none=>none
 |some l=>
  if l.any Ma=true/\draw=true then
   match eO (λ_ o=>bT P ops (sg 0 o) o) ops.toList 0,eO (λ_ o=>bT P ops (sg 1 o) o) ops.toList 0,eO (λ_ o=>bT P ops (sg 2 o) o) ops.toList 0 with
   |some l',some l2,some l3=>if(nX (Region.before ops) l' && !l'.any mK)=true then some (.ops l')else if(nX (Region.before ops) l2 && !l2.any mK)=true then some (.ops l2)else if(l.any yP&&(Gv (Region.before ops) ops l3).isSome&&nj (Region.before ops) l3)=true then some (.mD l3)else if l.any yP=true then(if(decide (2<(l.filter LY).length)&&nX (Region.before ops) l3&&nj (Region.before ops) l3)=true then some (.mD l3)else some (.sf l'))else if(nX (Region.before ops) l3&&nj (Region.before ops) l3)=true then some (.mD l3)else if(MI l&&(Gv (Region.before ops) ops l3).isSome&&nj (Region.before ops) l3)=true then some (.mD l3)else some (.ops l)
   |_,_,_=>none
  else some (.ops l)
def compile(P:Program):Code->Option ai
 |.skip=>some .skip
 |.region _ ops draw=>nB P ops draw
 |.seq a b=>
  match compile P a,compile P b with
  |some x,some y=>some (.seq x y)
  |_,_=>none
 |.cond c a b=>
  match D9 c,compile P a,compile P b with
  |some c,some x,some y=>some (.cond c x y)
  |_,_,_=>none
 |.block id a=>(compile P a).map (.block id)
 |.loop a=>(compile P a).map .loop
 |.exit id=>some (.exit id)
 |.ret=>some .ret
 |.label _=>some .skip
 |.scope a=>compile P a
 |.rangeFunc g ps asg body=>
  match D9 g,compile P asg,compile P body with
  |some g,some x,some y=>some (.fL g ps.toList x y)
  |_,_,_=>none
 |.goto _=>some .bad
 |.refuse _=>some .bad
structure ar where
 nt:Nat
 np:Nat
 rs:List (Nat×Option (Option Nat))
 body:ai
def tT(P:Program):ResultVar->Option (Nat×Option (Option Nat))
 |.tmp t=>some (t,none)
 |.cell a t=>(AS P t).map λn=>(a,some n)
def bQ(P:Program)(f:FuncId):Option ar:=
 match P.funcs[f]? with
 |none=>none
 |some fn=>
  match fn.body with
  |none=>none
  |some c=>
   match compile P c,fn.results.toList.mapM (tT P)with
   |some b,some rs=>if fn.name == "runtime.NumGoroutine" then none else some {nt:=fn.ntmps,np:=fn.params.size,rs:=rs,body:=b}
   |_,_=>none
def EE(P:Program)(g:Nat):Nat:=
 match P.globals[g]? with
 |some G=>
  match P.info? G.type with
  |some i=>i.size
  |none=>0
 |none=>0
def BR(P:Program)(m:b9)(w:World)(e:sK):ak->Prop
 |.cells c mu tl=>∃cc el fz,w.heap[e.cb]? =some (.cells cc el fz)/\(e.d+c.length<=cc.size/\e.d+c.length<=e.sz/\cc.size=e.sz)/\
   (∀(i:Nat) (x:AV),c[i]? =some x->x.one=true/\∃v,cc[e.d+i]? =some v/\VR m x v)/\
   (e.own=true->cc.size=e.sz/\∀i,i<cc.size->¬(fz.1<=i/\i<fz.2))/\((mu=true\/tl=true)->e.own=true/\(tl=false->e.sz=e.d+c.length))
 |.dead=>True
 |.bf es=>e.own=true/\∃TV clock,w.heap[e.cb]? =some (.map TV clock)/\TV.size=es.length/\
   ∀(i:Nat) (p:AV×AV),es[i]? =some p->∃q,TV[i]? =some q/\VR m p.1 q.key/\VR m p.2 q.val
 |.iter s pos=>e.own=true/\e.d=0/\w.heap[e.cb]? =some (.stringIter ⟨⟨s⟩⟩ pos)
 |.loop st ex ts ps asg body=>e.own=true/\∃fn tmps SK R9 df,w.heap[e.cb]? =some (.loop {state:=st,pending:=ex.jump,fn:=fn,tmps:=tmps,params:=⟨ps⟩,assign:=SK,body:=R9,defers:=df})/\
   cI m ts tmps.toList/\compile P SK=some asg/\compile P R9=some body
def ak.live:ak->Bool
 |.dead=>false
 |_=>true
def pO(e1 e2:sK):ak->ak->Prop
 |.cells c1 mu1 tl1,.cells c2 mu2 tl2=>mu1=false/\mu2=false/\(tl1=true->tl2=false/\e2.d+c2.length<=e1.d+c1.length)
 |.dead,_=>True
 |_,.dead=>True
 |_,_=>False
structure HR(P:Program)(m:b9)(h:ah)(w:World):Prop where
 cK:∀b e,m b=some e->b<h.length
 dR:∀b e k,m b=some e->h[b]? =some k->BR P m w e k
 sep:∀b1 b2 e1 e2 k1 k2,b1≠b2->m b1=some e1->m b2=some e2->h[b1]? =some k1->h[b2]? =some k2->e1.cb=e2.cb->pO e1 e2 k1 k2
 fX:∀g,g<P.globals.size->∃e,m g=some e/\e.cb=g/\e.d=0/\e.own=false/\e.sz=EE P g
 lt:∀b e,m b=some e->e.cb<w.heap.size
structure Grow(m:b9)(h:ah)(w:World)(m':b9)(h':ah)(w':World):Prop where
 ext:∀b,b<h.length->m' b=m b
 len:h.length<=h'.length
 new:∀b e,h.length<=b->m' b=some e->e.own=true/\(w.heap.size<=e.cb\/∃b0 e0,m b0=some e0/\e0.cb=e.cb/\e0.own=true/\ez h b0=true/\ez h' b0=false)
 tl:∀b,b<h.length->ez h' b=true->ez h b=true
 size:w.heap.size<=w'.heap.size
 os:w'.os=w.os
 out:w'.output=w.output
 tape:w'.tape=w.tape
 frame:∀i,i<w.heap.size->(∀b e,m b=some e->e.own=true->e.cb≠i)->w'.heap[i]? =w.heap[i]?
def Grow.refl(m:b9)(h:ah)(w:World)(hd:∀b e,m b=some e->b<h.length):Grow m h w m h w where
 ext:=λ_ _=>rfl
 len:=Y9 _
 new:=λb e hb he=>absurd (hd b e he) Om
 tl:=λ_ _ h=>h
 size:=Y9 _
 os:=rfl
 out:=rfl
 tape:=rfl
 frame:=λ_ _ _=>rfl
theorem Grow.le{m m' h h' w w'}(g:Grow m h w m' h' w')(hd:∀b e,m b=some e->b<h.length):m.le m':=
 λb e he=>by rw[g.ext b (hd b e he)];exact he
theorem Grow.trans{m m1 m2 h h1 h2 w w1 w2}(a:Grow m h w m1 h1 w1)(b:Grow m1 h1 w1 m2 h2 w2)
  (hd:∀b e,m b=some e->b<h.length):Grow m h w m2 h2 w2 where
 ext:=λi hi=>(b.ext i (ZQ hi a.len)).trans (a.ext i hi)
 len:=ZL a.len b.len
 new:=by
  intro i e hi he;by_cases h1i:h1.length<=i
  ·obtain⟨ho,hc⟩:=b.new i e h1i he;refine⟨ho,?_⟩;rcases hc with hc|⟨b0,e0,S0,hcb,ho0,T0,Wu⟩
   ·exact .inl (ZL a.size hc)
   ·by_cases hb:h.length<=b0
    ·obtain⟨_,hc0⟩:=a.new b0 e0 hb S0;rcases hc0 with hc0|⟨b00,e00,hb00,YI,ho00,ht00,Xt⟩
     ·exact .inl (hcb▸hc0)
     ·refine .inr ⟨b00,e00,hb00,YI.trans hcb,ho00,ht00,?_⟩;cases hx:ez h2 b00 with
      |false=>rfl
      |true=>
       have hlt:=hd _ _ hb00;rw[b.tl b00 (ZQ hlt a.len) hx]at Xt;cases Xt
    ·have hlt:b0<h.length:=Om
     rw[a.ext b0 hlt]at S0;exact .inr ⟨b0,e0,S0,hcb,ho0,a.tl b0 hlt T0,Wu⟩
  ·have hi1:i<h1.length:=Om
   rw[b.ext i hi1]at he;obtain⟨ho,hc⟩:=a.new i e hi he;refine⟨ho,?_⟩;rcases hc with hc|⟨b0,e0,S0,hcb,ho0,T0,Wu⟩
   ·exact .inl hc
   ·refine .inr ⟨b0,e0,S0,hcb,ho0,T0,?_⟩;cases hx:ez h2 b0 with
    |false=>rfl
    |true=>
     have hlt:=hd _ _ S0;rw[b.tl b0 (ZQ hlt a.len) hx]at Wu;cases Wu
 tl:=λi hi ht=>a.tl i hi (b.tl i (ZQ hi a.len) ht)
 size:=ZL a.size b.size
 os:=b.os.trans a.os
 out:=b.out.trans a.out
 tape:=b.tape.trans a.tape
 frame:=by
  intro i hi hno;refine(b.frame i (ZQ hi a.size) ?_).trans (a.frame i hi hno);intro j e he ho hcb;by_cases hj:h.length<=j
  ·obtain⟨_,hc⟩:=a.new j e hj he;rcases hc with hc|⟨b0,e0,S0,YI,ho0,_,_⟩
   ·omega
   ·exact hno b0 e0 S0 ho0 (YI.trans hcb)
  ·rw[a.ext j Om]at he;exact hno j e he ho hcb
theorem BR.heap{P m w w' e k}(h:BR P m w e k)(hw:w'.heap[e.cb]? =w.heap[e.cb]?):BR P m w' e k:=by
 cases k<;>simp only[BR,hw]at h ⊢<;>exact h
theorem BR.mono{P m m' w e k}(hm:m.le m')(h:BR P m w e k):BR P m' w e k:=by
 cases k with
 |cells c mu tl=>
  obtain⟨cc,el,fz,h1,h2,h3,h4⟩:=h;exact⟨cc,el,fz,h1,h2,λi x hx=>by obtain⟨ho,v,hv,hr⟩:=h3 i x hx;exact⟨ho,v,hv,VR.mono hm _ _ hr⟩,h4⟩
 |dead=>trivial
 |bf es=>
  obtain⟨ho,TV,clock,h1,h2,h3⟩:=h;exact⟨ho,TV,clock,h1,h2,λi p hp=>by obtain⟨q,hq,ha,hb⟩:=h3 i p hp;exact⟨q,hq,VR.mono hm _ _ ha,VR.mono hm _ _ hb⟩⟩
 |iter s pos=>exact h
 |loop st ex ts ps asg body=>
  obtain⟨ho,fn,tmps,SK,R9,df,h1,h2,h3,h4⟩:=h;exact⟨ho,fn,tmps,SK,R9,df,h1,cI.mono hm _ _ h2,h3,h4⟩
theorem HR.drew{P m h w}(hr:HR P m h w):HR P m h w.drew where
 cK:=hr.cK
 dR:=λb e k hb hk=>(hr.dR b e k hb hk).heap rfl
 sep:=hr.sep
 fX:=hr.fX
 lt:=hr.lt
theorem Grow.drew{m h w m' h' w'}(g:Grow m h w m' h' w'):Grow m h w m' h' w'.drew:=
 ⟨g.ext,g.len,g.new,g.tl,g.size,g.os,g.out,g.tape,g.frame⟩
def Grow.CB{m h w m' h' w'}(g:Grow m h w.drew m' h' w'):Grow m h w m' h' w':=
 ⟨g.ext,g.len,g.new,g.tl,g.size,g.os,g.out,g.tape,g.frame⟩
def BR.lt{P m w e k}(h:BR P m w e k)(hl:k.live=true):e.cb<w.heap.size:=by
 cases k with
 |cells c mu tl=>obtain⟨cc,el,fz,h1,_⟩:=h;exact(Ze.1 h1).1
 |dead=>cases hl
 |bf es=>obtain⟨_,TV,clock,h1,_⟩:=h;exact(Ze.1 h1).1
 |iter s pos=>exact(Ze.1 h.2.2).1
 |loop st ex ts ps asg body=>obtain⟨_,fn,tmps,SK,R9,df,h1,_⟩:=h;exact(Ze.1 h1).1
def b9.add(m:b9)(b:Nat)(e:sK):b9:=λx=>if x=b then some e else m x
def b9.rQ{m:b9}{b:Nat}(e:sK)(h:m b=none):m.le (m.add b e):=by
 intro x y hx;unfold b9.add;by_cases hb:x=b
 ·subst hb;rw[h]at hx;cases hx
 ·rw[Y6 hb];exact hx
def fC{h k b}(hb:b<h.length):ez (h++[k]) b=ez h b:=by
 unfold ez;rw[YT hb]
def ki{P:Program}{m:b9}{h:ah}{w:World}(hr:HR P m h w)(o:Obj)(k:ak)(e:sK)(he:e.cb=w.heap.size)(ho:e.own=true)
  (hk:∀m':b9,m.le m'->BR P m' (w.alloc o) e k):
  HR P (m.add h.length e) (h++[k]) (w.alloc o)/\Grow m h w (m.add h.length e) (h++[k]) (w.alloc o):=by
 have SO:m h.length=none:=by
  exact z53
 have hle:=b9.rQ e SO;have hold:∀b x,m b=some x->(m.add h.length e) b=some x:=hle;have hheap:∀i,i<w.heap.size->(w.alloc o).heap[i]? =w.heap[i]? :=λi hi=>Go.RowKit.Below.heap_alloc w o i hi
 have VA:∀b x k',m b=some x->h[b]? =some k'->k'.live=true->x.cb<w.heap.size:=λb x k' hb hk' hl=>(hr.dR b x k' hb hk').lt hl
 refine⟨⟨?_,?_,?_,?_,?_⟩,⟨?_,Si,?_,?_,Si,rfl,rfl,rfl,λi hi _=>hheap i hi⟩⟩
 ·intro b x hb;unfold b9.add at hb;by_cases hbl:b=h.length
  ·subst hbl;simp
  ·rw[Y6 hbl]at hb;have:=hr.cK _ _ hb;simp;omega
 ·intro b x k' hb hk';unfold b9.add at hb;by_cases hbl:b=h.length
  ·subst hbl;rw[Zb rfl]at hb;cases hb;simp at hk';subst hk';exact hk _ hle
  ·rw[Y6 hbl]at hb;have hlt:=hr.cK _ _ hb;rw[YT hlt]at hk';have h0:=hr.dR b x k' hb hk';by_cases hl:k'.live=true
   ·exact(h0.mono hle).heap (hheap _ (h0.lt hl))
   ·cases k'<;>first|trivial|exact absurd rfl hl
 ·intro b1 b2 e1 e2 k1 k2 hne h1 h2 hk1 RJ hcb;unfold b9.add at h1 h2;by_cases Sf:b1=h.length
  ·subst Sf;rw[Zb rfl]at h1;cases h1;have Su:b2≠h.length:=λx=>hne x.symm
   rw[Y6 Su]at h2;have hlt:=hr.cK _ _ h2;rw[YT hlt]at RJ;by_cases hl:k2.live=true
   ·have:=VA _ _ _ h2 RJ hl;omega
   ·cases k2<;>first|(cases k1<;>trivial)|exact absurd rfl hl
  ·rw[Y6 Sf]at h1;have hlt1:=hr.cK _ _ h1;rw[YT hlt1]at hk1;by_cases Su:b2=h.length
   ·subst Su;rw[Zb rfl]at h2;cases h2;by_cases hl:k1.live=true
    ·have:=VA _ _ _ h1 hk1 hl;omega
    ·cases k1<;>first|trivial|exact absurd rfl hl
   ·rw[Y6 Su]at h2;have SR:=hr.cK _ _ h2;rw[YT SR]at RJ;exact hr.sep b1 b2 e1 e2 k1 k2 hne h1 h2 hk1 RJ hcb
 ·intro g hg;obtain⟨x,hx,h1⟩:=hr.fX g hg;exact⟨x,hold _ _ hx,h1⟩
 ·intro b x hb;unfold b9.add at hb;simp only[World.size_alloc];by_cases hbl:b=h.length
  ·rw[Zb hbl]at hb;cases hb;omega
  ·rw[Y6 hbl]at hb;have:=hr.lt _ _ hb;omega
 ·intro b hb;unfold b9.add;rw[Y6 Om]
 ·intro b x hb hx;unfold b9.add at hx;by_cases hbl:b=h.length
  ·rw[Zb hbl]at hx;cases hx;exact⟨ho,.inl Om⟩
  ·rw[Y6 hbl]at hx;exact absurd (hr.cK _ _ hx) Om
 ·intro b hb ht
  rwa [fC hb]at ht
def uL{P:Program}{m:b9}{w:World}{c:List AV}{vs:List Value}(hc:cI m c vs)(h1:c.all AV.one=true)(el:TypeId)(mu tl:Bool)(m':b9)(hm:m.le m'):
  BR P m' (w.alloc (.cells ⟨vs⟩ el)) ⟨w.heap.size,0,vs.length,true⟩ (.cells c mu tl):=by
 refine⟨⟨vs⟩,el,(0,0),World.alloc_heap_new w _,⟨by simp[hc.length],by simp[hc.length]⟩,?_,?_,λ_=>⟨rfl,λ_=>by simp[hc.length]⟩⟩
 ·intro i x hx;obtain⟨v,hv,hr⟩:=hc.get hx;exact⟨Zy.1 h1 x (ZT hx),v,by simpa using hv,VR.mono hm _ _ hr⟩
 ·intro _;exact⟨Si,λi _=>by simp⟩
def lO{P m h w}(hr:HR P m h w){c vs}(hc:cI m c vs)(h1:c.all AV.one=true)(el:TypeId)(mu tl:Bool):
  ∃m',m' h.length=some ⟨w.heap.size,0,vs.length,true⟩/\HR P m' (h++[.cells c mu tl]) (w.alloc (.cells ⟨vs⟩ el))/\Grow m h w m' (h++[.cells c mu tl]) (w.alloc (.cells ⟨vs⟩ el)):=
 ⟨_,by simp[b9.add],ki hr (.cells ⟨vs⟩ el) (.cells c mu tl) ⟨w.heap.size,0,vs.length,true⟩ rfl rfl (λm' hm=>uL hc h1 el mu tl m' hm)⟩
def gO(b o n:Nat):(⟨b,o,none⟩:Addr).add n=⟨b,o+n,none⟩:=by
 unfold Addr.add;by_cases h:n=0
 ·simp[h]
 ·simp[h]
def cell_of{P m h w}(hr:HR P m h w){b e c mu tl}(he:m b=some e)(hb:h[b]? =some (.cells c mu tl))
  {i}{x}(hx:c[i]? =some x):x.one=true/\∃v,w.cell? ⟨e.cb,i+e.d,none⟩=some v/\VR m x v:=by
 obtain⟨cc,el,fz,h1,_,h3,_⟩:=hr.dR b e _ he hb;obtain⟨ho,v,hv,RK⟩:=h3 i x hx;exact⟨ho,v,by simp only[World.cell?,h1];rw[Nat.add_comm];simpa using hv,RK⟩
def nh{P m h w}(hr:HR P m h w){b e c mu tl}(he:m b=some e)(hb:h[b]? =some (.cells c mu tl))
  (o n:Nat) (hn:o+n<=c.length):∃vs,(loadCells ⟨e.cb,o+e.d,none⟩ n).run P w=.ok ⟨vs⟩ w/\cI m ((c.drop o).take n) vs/\((c.drop o).take n).all AV.one=true:=by
 have RP:∀j,j<n->∃x,c[o+j]? =some x:=λj hj=>⟨c[o+j],YU Om⟩
 have SD:∀j,j<n->∃v,w.cell? ⟨e.cb,o+e.d+j,none⟩=some v/\∃x,c[o+j]? =some x/\VR m x v:=by
  intro j hj;obtain⟨x,hx⟩:=RP j hj;obtain⟨_,v,hv,RK⟩:=cell_of hr he hb hx;exact⟨v,by rw[show o+e.d+j=o+j+e.d from by omega];exact hv,x,hx,RK⟩
 obtain⟨f,hf⟩:∃f:Nat->Value,∀j,j<n->w.cell? ⟨e.cb,o+e.d+j,none⟩=some (f j):=
  ⟨λj=>(w.cell? ⟨e.cb,o+e.d+j,none⟩).getD default,λj hj=>by obtain⟨v,hv,_⟩:=SD j hj;simp[hv]⟩
 have SH:cI m ((c.drop o).take n) ((List.range n).map f):=by
  refine cI.iA (by simp;omega) λi x hx=>?_
  have hi:i<n:=by
   have:=(YQ.1 hx).1;simp at this;omega
  rw[aaY hi,aa9]at hx;obtain⟨v,hv,y,hy,RK⟩:=SD i hi;rw[hx]at hy;cases hy;refine⟨f i,by simp[hi],?_⟩;have:=hf i hi;rw[hv]at this;cases this;exact RK
 refine⟨(List.range n).map f,?_,SH,?_⟩
 ·have:=run_loadCells_list (P:=P) (w:=w) ⟨e.cb,o+e.d,none⟩ ((List.range n).map f) (λj v hj=>by
   have hi:j<n:=by
    have:=(YQ.1 hj).1
    simpa using this
   rw[gO];simp[hi]at hj;rw[<-hj];exact hf j hi)
  simpa using this
 ·rw[Zy];intro x hx;have RN:x∈c:=List.mem_of_mem_drop (ZW hx);obtain⟨i,hi,rfl⟩:=aa1 RN;exact(cell_of hr he hb (YU hi)).1
def fK(c:List AV)(o:Nat):List AV->List AV
 |[]=>c
 |x::xs=>fK (c.set o x) (o+1) xs
def bG(h:ah)(b b':Nat)(k:ak)(hb:b<h.length):(h.set b k)[b']? =if b' =b then some k else h[b']? :=by
 rw[List.getElem?_set];by_cases e:b=b'
 ·subst e;simp[hb]
 ·have e':¬b' =b:=λx=>e x.symm
  rw[Y6 e,Y6 e']
def od{w:World}{cb i:Nat}{cc:Array Value}{el:TypeId}{fz:Nat×Nat}(h1:w.heap[cb]? =some (.cells cc el fz))(h:¬(fz.1<=i/\i<fz.2)):w.frozen? ⟨cb,i,none⟩=false:=by
 obtain⟨lo,hi⟩:=fz;simp only[World.frozen?,h1];simp only[Bool.and_eq_false_iff,aaJ];simp only at h;omega
def heap_setCell_same{w:World}{cb i:Nat}{cc:Array Value}{el:TypeId}{fz:Nat×Nat}(h1:w.heap[cb]? =some (.cells cc el fz))(v:Value):
  (w.setCell ⟨cb,i,none⟩ v).heap[cb]? =some (.cells (cc.setIfInBounds i v) el fz):=by
 obtain⟨hlt,hk⟩:=Ze.1 h1;simp only[World.setCell];rw[ZO (by rw[Array.size_modify];exact hlt),Array.getElem_modify_self,hk];simp
def zB{P:Program}{m:b9}{h:ah}{w:World}(hr:HR P m h w){b:Nat}{e:sK}{c:List AV}{tl:Bool}(he:m b=some e)(hb:h[b]? =some (.cells c true tl))
  {i:Nat}(hi:i<c.length) {x:AV}{v:Value}(hx:x.one=true) (hv:VR m x v):
  (store ⟨e.cb,i+e.d,none⟩ v).run P w=.ok () (w.setCell ⟨e.cb,i+e.d,none⟩ v)/\
  HR P m (h.set b (.cells (c.set i x) true tl)) (w.setCell ⟨e.cb,i+e.d,none⟩ v)/\Grow m h w m (h.set b (.cells (c.set i x) true tl)) (w.setCell ⟨e.cb,i+e.d,none⟩ v):=by
 obtain⟨cc,el,fz,h1,⟨h2,h2'⟩,h3,h4,h5⟩:=hr.dR b e _ he hb;have hown:e.own=true:=(h5 (.inl rfl)).1;obtain⟨ep,hfz⟩:=h4 hown;have hbl:b<h.length:=hr.cK _ _ he;have SD:∃u,w.cell? ⟨e.cb,i+e.d,none⟩=some u:=⟨cc[i+e.d]'Om,by simp only[World.cell?,h1];exact ZO Om⟩;obtain⟨u,hu⟩:=SD;have hfr:w.frozen? ⟨e.cb,i+e.d,none⟩=false:=od h1 (hfz _ Om);have hother:∀k,k≠e.cb->(w.setCell ⟨e.cb,i+e.d,none⟩ v).heap[k]? =w.heap[k]? :=λk hk=>Go.RowKit.Below.heap_setCell w _ v k hk
 have Vr:=heap_setCell_same (i:=i+e.d) h1 v;refine⟨?_,⟨?_,?_,?_,hr.fX,λb' e' hb'=>by simpa using hr.lt b' e' hb'⟩,⟨λ_ _=>rfl,Si,?_,?_,Si,rfl,rfl,rfl,?_⟩⟩
 ·rw[run_store P w _ v .plain (hv.tX hx),hu];simp[hfr]
 ·intro b' e' hb';simpa using hr.cK b' e' hb'
 ·intro b' e' k SM hk;rw[bG h b b' _ hbl]at hk;by_cases hbb:b' =b
  ·subst hbb;rw[Zb rfl]at hk;cases hk;rw[he]at SM;cases SM;refine⟨_,el,fz,Vr,⟨by simpa using h2,by simpa using h2'⟩,?_,λho=>⟨by simpa using ep,λj hj=>hfz j (by simpa using hj)⟩,λz=>⟨hown,λy=>by rw[ZI];exact(h5 (.inl rfl)).2 y⟩⟩;intro j y hy;rw[List.getElem?_set]at hy;by_cases hij:i=j
   ·subst hij;rw[Zb rfl,Zb hi]at hy;cases hy;refine⟨hx,v,?_,hv⟩;rw[show e.d+i=i+e.d from by omega];rw[aae Om]
   ·rw[Y6 hij]at hy;obtain⟨ho,u',Vp,hr'⟩:=h3 j y hy;refine⟨ho,u',?_,hr'⟩;rw[aaB Om];exact Vp
  ·rw[Y6 hbb]at hk;have h0:=hr.dR b' e' k SM hk;by_cases hl:k.live=true
   ·refine h0.heap (hother _ ?_);intro hcb;have:=hr.sep b b' e e' _ k (λx=>hbb x.symm) he SM hb hk hcb.symm;cases k<;>first|(cases hl;done)|exact absurd this.1 Si|exact this
   ·cases k<;>first|trivial|exact absurd rfl hl
 ·intro b1 b2 e1 e2 k1 k2 hne Tf RS hk1 RJ hcb;rw[bG h b _ _ hbl]at hk1 RJ;by_cases Sf:b1=b
  ·subst Sf;rw[Zb rfl]at hk1;cases hk1;rw[Y6 (λx=>hne x.symm)]at RJ;have:=hr.sep b1 b2 e1 e2 _ k2 hne Tf RS hb RJ hcb;cases k2<;>first|trivial|exact absurd this.1 Si|exact this.elim
  ·rw[Y6 Sf]at hk1;by_cases Su:b2=b
   ·subst Su;rw[Zb rfl]at RJ;cases RJ;have:=hr.sep b1 b2 e1 e2 k1 _ hne Tf RS hk1 hb hcb;cases k1<;>first|trivial|exact absurd this.2.1 Si|exact this.elim
   ·exact M5
 ·intro b' e' hb' SM;exact absurd (hr.cK _ _ SM) Om
 ·intro b' hb' ht;unfold ez at ht ⊢;rw[bG h b b' _ hbl]at ht;by_cases hbb:b' =b
  ·subst hbb;rw[Zb rfl]at ht;rw[hb];exact ht
  ·exact z171
 ·intro k hk hno;exact hother k (λhcb=>hno b e he hown hcb.symm)
theorem pk{P m}:∀(xs:List AV) (vs:List Value) {h}{w}(_:HR P m h w) {b}{e}{c}{tl}(_:m b=some e) (_:h[b]? =some (.cells c true tl))
  (a j:Nat) (_:a+j+xs.length<=c.length) (_:xs.all AV.one=true) (_:cI m xs vs),
  ∃w',(storeCells ⟨e.cb,a+e.d,none⟩ vs j).run P w=.ok () w'/\HR P m (h.set b (.cells (fK c (a+j) xs) true tl)) w'/\Grow m h w m (h.set b (.cells (fK c (a+j) xs) true tl)) w'
 |[],vs,h,w,hr,b,e,c,tl,he,hb,a,j,hlen,h1,hv=>by
  rw[bE]at hv;subst hv;have hbl:b<h.length:=hr.cK _ _ he;have aT:h.set b (.cells (fK c (a+j) []) true tl)=h:=by
   simp only[fK]
   apply abd
   intro i;rw[bG h b i _ hbl];by_cases hi:i=b
   ·subst hi;simp[hb]
   ·simp[hi]
  exact⟨w,rfl,by rw[aT];exact hr,by rw[aT];exact Grow.refl m h w hr.cK⟩
 |x::xs,vs,h,w,hr,b,e,c,tl,he,hb,a,j,hlen,h1,hv=>by
  obtain⟨v,vs',rfl,hxv,SH⟩:=aO.1 hv;simp only[aau,Zx]at h1;simp only[YV]at hlen;obtain⟨RL,hr1,hg1⟩:=zB hr he hb (i:=a+j) Om h1.1 hxv;have hbl:b<h.length:=hr.cK _ _ he;have Sf:(h.set b (.cells (c.set (a+j) x) true tl))[b]? =some (.cells (c.set (a+j) x) true tl):=by rw[bG h b b _ hbl,Zb rfl]
  obtain⟨w',hrun',hr',R6⟩:=pk xs vs' hr1 he Sf a (j+1) (by simp;omega) h1.2 SH;have aT:(h.set b (.cells (c.set (a+j) x) true tl)).set b (.cells (fK (c.set (a+j) x) (a+(j+1)) xs) true tl)=h.set b (.cells (fK c (a+j) (x::xs)) true tl):=by
   rw[List.set_set];rfl
  rw[aT]at hr' R6;refine⟨w',?_,hr',Grow.trans hg1 R6 hr.cK⟩;simp only[storeCells,Zj];rw[gO,show a+e.d+j=a+j+e.d from by omega,RL];exact hrun'
def fM(op:BinOp)(k:IntKind)(a b:Int):Option AV:=
 match op with
 |.add=>some (.int k (k.wrap (a+b)))
 |.sub=>some (.int k (k.wrap (a-b)))
 |.mul=>some (.int k (k.wrap (a*b)))
 |.quo=>if b=0 then none else some (.int k (k.wrap (a.tdiv b)))
 |.rem=>if b=0 then none else some (.int k (a.tmod b))
 |.and=>some (.int k (k.wrap (BitVec.ofInt k.bits a &&& BitVec.ofInt k.bits b).toNat))
 |.or=>some (.int k (k.wrap (BitVec.ofInt k.bits a |||BitVec.ofInt k.bits b).toNat))
 |.xor=>some (.int k (k.wrap (BitVec.ofInt k.bits a^^^BitVec.ofInt k.bits b).toNat))
 |.andNot=>some (.int k (k.wrap (BitVec.ofInt k.bits a &&& ~~~ (BitVec.ofInt k.bits b)).toNat))
 |.eql=>some (.bool (a==b))
 |.neq=>some (.bool (a !=b))
 |.lss=>some (.bool (decide (a<b)))
 |.leq=>some (.bool (decide (a<=b)))
 |.gtr=>some (.bool (decide (a > b)))
 |.geq=>some (.bool (decide (a>=b)))
 |_=>none
def qO(op:BinOp)(x y:By):Option AV:=
 match op with
 |.add=>if x.length+y.length<2^62 then some (.str (x++y))else none
 |.eql=>some (.bool (x==y))
 |.neq=>some (.bool !(x==y))
 |.lss=>some (.bool (Op.bytesLess x y))
 |.leq=>some (.bool (Op.bytesLess x y||x==y))
 |.gtr=>some (.bool !(Op.bytesLess x y||x==y))
 |.geq=>some (.bool !(Op.bytesLess x y))
 |_=>none
def xy(op:BinOp)(k:IntKind)(a b:Int):Option AV:=
 if b<0 then none
 else match op with
  |.shl=>some (.int k (k.wrap (a*2^(min b.toNat k.bits))))
  |.shr=>some (.int k (a.fdiv (2^(min b.toNat k.bits))))
  |_=>none
def eS:BinOp->Bool
 |.shl=>true
 |.shr=>true
 |_=>false
def eo(op:BinOp):AV->AV->Option AV
 |.int k a,.int k' b=>if eS op then xy op k a b else if k=k' then fM op k a b else none
 |.str a,.str b=>qO op a b
 |_,_=>none
def wW(op:UnOp):AV->Option AV
 |.int k n=>
  match op with
  |.neg=>some (.int k (k.wrap (0-n)))
  |.xor=>fM .xor k (if k.signed then -1 else k.max) n
  |_=>none
 |.bool b=>
  match op with
  |.not=>some (.bool !b)
  |_=>none
 |_=>none
def cV:CK->AV->AV->Option Bool
 |.b,.bool a,.bool b=>some (a==b)
 |.i,.int k a,.int k' b=>if k=k' then some (a==b)else none
 |.s,.str a,.str b=>some (a==b)
 |_,_,_=>none
def dI:List CK->List AV->List AV->Option Bool
 |[],[],[]=>some true
 |k::ks,x::xs,y::ys=>
  match cV k x y with
  |some true=>dI ks xs ys
  |some false=>some false
  |none=>none
 |_,_,_=>none
def y7(ks:List CK):AV->AV->Option Bool
 |.agg xs,.agg ys=>if xs.length=ks.length/\ys.length=ks.length then dI ks xs ys else none
 |_,_=>none
def Pp:AV->AV->Option Bool
 |.af,.af=>some true
 |.af,.slice _ _ _ _=>some false
 |.slice _ _ _ _,.af=>some false
 |_,_=>none
def Pq:AV->AV->Option Bool
 |.nilPtr,.nilPtr=>some true
 |.nilPtr,.ptr _ _=>some false
 |.ptr _ _,.nilPtr=>some false
 |_,_=>none
def Ps:AV->AV->Option Bool
 |.nilFunc,.nilFunc=>some true
 |.nilFunc,.func _ _ _=>some false
 |.func _ _ _,.nilFunc=>some false
 |_,_=>none
def Pr:AV->AV->Option Bool
 |.db,.db=>some true
 |.db,.map _=>some false
 |.map _,.db=>some false
 |_,_=>none
def pB(t:Qq)(x y:AV):Option Bool:=
 match t with
 |.one k=>cV k x y
 |.agg ks=>y7 ks x y
 |.Ed=>Pp x y
 |.Ee=>Pq x y
 |.qj=>Ps x y
 |.Lt=>Pr x y
def byteOf:AV->Option UInt8
 |.int .u8 n=>some (UInt8.ofNat n.toNat)
 |_=>none
def cellsIn(es:Nat)(h:ah):AV->Option (List AV×Nat)
 |.af=>some ([],0)
 |.slice b o n es'=>
  if es' =es then
   match h[b]? with
   |some (.cells c _ _)=>if o+n*es<=c.length then some ((c.drop o).take (n*es),n)else none
   |_=>none
  else none
 |.str s=>if es=1 then some (s.map λb=>.int .u8 b.toNat,s.length)else none
 |_=>none
def kg(k:zv)(x:AV)(h:ah):Option (AV×ah):=
 match k with
 |.Jw k=>
  match x with
  |.int _ n=>some (.int k (k.wrap n),h)
  |_=>none
 |.same=>
  match x with
  |.str s=>some (.str s,h)
  |_=>none
 |.O6 k=>
  match x with
  |.int _ n=>some (.wR k (k.nearest n),h)
  |_=>none
 |.Pn k=>
  match x with
  |.wR s b=>
   match (s.decode b).toInt .zero with
   |some n=>if Eg s b=false/\k.min<=n/\n<=k.max then some (.int k n,h)else none
   |none=>none
  |_=>none
 |.Po k=>
  match x with
  |.wR s b=>if s=k then some (.wR k b,h)else none
  |_=>none
 |.uM u=>some (.uM u x,h)
 |.Nh=>
  match x with
  |.af=>some (.str [],h)
  |.slice b o n es=>
   match cellsIn 1 h (.slice b o n es)with
   |some (l,_)=>
    match l.mapM byteOf with
    |some r=>some (.str r,h)
    |none=>none
   |none=>none
  |_=>none
 |.N4=>
  match x with
  |.str s=>some (.slice h.length 0 s.length 1,h++[.cells (s.map λb=>.int .u8 b.toNat) true true])
  |_=>none
def dN(n:Nat)(z:List AV):List AV:=(List.replicate n z).flatten
def eI(c:List AV):List (Nat×Nat×AV)->Option (List AV)
 |[]=>some c
 |(off,n,v)::r=>if v.cells.length=n/\off+n<=c.length then eI (fK c off v.cells) r else none
def HZ:Option AV->Option Int
 |none=>some 0
 |some (.int _ i)=>some i
 |_=>none
def Gs(n:Nat):Option AV->Option Int
 |none=>some n
 |some (.int _ i)=>some i
 |_=>none
def jk(lo hi:Option AV)(n:Nat):Option (Nat×Nat):=
 match HZ lo,Gs n hi with
 |some l,some h=>if 0<=l/\l<=h/\h<=n then some (l.toNat,h.toNat)else none
 |_,_=>none
def gY(kk:CK)(k:AV):List (AV×AV)->Option (Option AV)
 |[]=>some none
 |(a,v)::r=>
  match cV kk k a with
  |some true=>some (some v)
  |some false=>gY kk k r
  |none=>none
def mC(kk:CK)(k v:AV):List (AV×AV)->Option (List (AV×AV))
 |[]=>some [(k,v)]
 |(a,u)::r=>
  match cV kk k a with
  |some true=>some ((k,v)::r)
  |some false=>(mC kk k v r).map ((a,u)::·)
  |none=>none
def pV:AV->AV->Option AV
 |.int k a,.int k' b=>if k=k' then some (.int k (if b > a then b else a))else none
 |_,_=>none
def pU:AV->AV->Option AV
 |.int k a,.int k' b=>if k=k' then some (.int k (if b<a then b else a))else none
 |_,_=>none
def iL(f:AV->AV->Option AV):AV->List AV->Option AV
 |x,[]=>some x
 |x,y::r=>
  match f x y with
  |some z=>iL f z r
  |none=>none
def zX(lk:LK)(h:ah):AV->Option Nat
 |.str s=>if lk=.st then some s.length else none
 |.slice _ _ n _=>if lk=.sl then some n else none
 |.af=>if lk=.sl then some 0 else none
 |.map r=>
  match h[r]? with
  |some (.bf es)=>if lk=.mp then some es.length else none
  |_=>none
 |.db=>if lk=.mp then some 0 else none
 |_=>none
def dx(k:pf)(ρ:cX->AV)(h:ah):Option (AV×ah):=
 match k with
 |.cA x=>some (ρ x,h)
 |.pick c a b=>
  match ρ c with
  |.bool t=>some (if t then ρ a else ρ b,h)
  |_=>none
 |.box x=>if(ρ x).cells.all AV.one then some (.ptr h.length 0,h++[.cells (ρ x).cells true false])else none
 |.oE n x=>if(ρ x).cells.all AV.one=true/\(ρ x).cells.length=n then some (.ptr h.length 0,h++[.cells (ρ x).cells true false])else none
 |.build z ps=>
  match eI z (ps.map λp=>(p.1,p.2.1,ρ p.2.2))with
  |some c=>some (.agg c,h)
  |none=>none
 |.load n a=>
  match ρ a with
  |.ptr b o=>
   match h[b]? with
   |some (.cells c _ _)=>
    match n with
    |none=>
     match c[o]? with
     |some x=>some (x,h)
     |none=>none
    |some n=>if o+n<=c.length then some (.agg ((c.drop o).take n),h)else none
   |_=>none
  |_=>none
 |.store n a x=>
  match ρ a with
  |.ptr b o=>
   match h[b]? with
   |some (.cells c true tl)=>
    if(ρ x).cells.length=n/\(ρ x).cells.all AV.one=true/\o+n<=c.length then some (az,h.set b (.cells (fK c o (ρ x).cells) true tl))else none
   |_=>none
  |_=>none
 |.bP x=>
  match ρ x with
  |.ptr b o=>some (.ptr b o,h)
  |.func (.func f) a c=>some (.func (.func f) a c,h)
  |.func (.yield f) a c=>some (.func (.yield f) a c,h)
  |.func (.methodOf t n) a c=>some (.func (.methodOf t n) a c,h)
  |.func (.via t p f q) a c=>some (.func (.via t p f q) a c,h)
  |_=>none
 |.bin op x y=>
  match eo op (ρ x) (ρ y)with
  |some v=>some (v,h)
  |none=>none
 |.eqv neg t x y=>
  match pB t (ρ x) (ρ y)with
  |some b=>some (.bool (if neg then !b else b),h)
  |none=>none
 |.un op x=>
  match wW op (ρ x)with
  |some v=>some (v,h)
  |none=>none
 |.conv k x=>kg k (ρ x) h
 |.uc f a c=>some (.func f (a.map ρ) (c.map ρ),h)
 |.mJ=>some (.map h.length,h++[.bf []])
 |.vG es w z l c=>
  match ρ l,ρ c with
  |.int _ l,.int _ c=>
   if 0<=l/\l<=c/\(w:Int)*c<=2^48/\c<2^63 then some (.slice h.length 0 l.toNat es,h++[.cells (dN l.toNat z) true true])else none
  |_,_=>none
 |.sl es x lo hi=>
  match ρ x with
  |.slice b o n es'=>
   if es' =es then
    match jk (lo.map ρ) (hi.map ρ) n with
    |some (l,h')=>some (.slice b (o+l*es) (h'-l) es,h)
    |none=>none
   else none
  |.af=>
   match jk (lo.map ρ) (hi.map ρ) 0 with
   |some _=>some (.af,h)
   |none=>none
  |_=>none
 |.Jt x lo hi=>
  match ρ x with
  |.str s=>
   match jk (lo.map ρ) (hi.map ρ) s.length with
   |some (l,h')=>some (.str ((s.drop l).take (h'-l)),h)
   |none=>none
  |_=>none
 |.Nc k es x lo hi=>
  match ρ x with
  |.ptr b o=>
   match h[b]? with
   |some (.cells c _ _)=>
    if o+k*es<=c.length then
     match jk (lo.map ρ) (hi.map ρ) k with
     |some (l,h')=>some (.slice b (o+l*es) (h'-l) es,h)
     |none=>none
    else none
   |_=>none
  |_=>none
 |.aU off x=>
  match ρ x with
  |.ptr b o=>some (.ptr b (o+off),h)
  |_=>none
 |.bD es x i=>
  match ρ x,ρ i with
  |.slice b o n es',.int _ i=>if es' =es/\0<=i/\i<n then some (.ptr b (o+i.toNat*es),h)else none
  |_,_=>none
 |.si len es x i=>
  match ρ x,ρ i with
  |.ptr b o,.int _ i=>if 0<=i/\i<len then some (.ptr b (o+i.toNat*es),h)else none
  |_,_=>none
 |.part n off x=>
  match ρ x with
  |.agg cs=>
   match n with
   |none=>
    match cs[off]? with
    |some v=>some (v,h)
    |none=>none
   |some n=>some (.agg ((cs.drop off).take n),h)
  |_=>none
 |.Jv len es n x i=>
  match ρ x,ρ i with
  |.agg cs,.int _ i=>
   if 0<=i/\i<len then
    match n with
    |none=>
     match cs[i.toNat*es]? with
     |some v=>some (v,h)
     |none=>none
    |some n=>some (.agg ((cs.drop (i.toNat*es)).take n),h)
   else none
  |_,_=>none
 |.Dp x i=>
  match ρ x,ρ i with
  |.str s,.int _ i=>
   if 0<=i then
    match s[i.toNat]? with
    |some b=>some (.int .u8 b.toNat,h)
    |none=>none
   else none
  |_,_=>none
 |.look kk z ok m k=>
  match ρ m with
  |.db=>some (if ok then .dM [z,.bool false]else z,h)
  |.map r=>
   match h[r]? with
   |some (.bf es)=>
    match gY kk (ρ k) es with
    |some (some v)=>some (if ok then .dM [v,.bool true]else v,h)
    |some none=>some (if ok then .dM [z,.bool false]else z,h)
    |none=>none
   |_=>none
  |_=>none
 |.fE kk m k x=>
  match ρ m with
  |.map r=>
   match h[r]? with
   |some (.bf es)=>
    match mC kk (ρ k) (ρ x) es with
    |some es'=>some (az,h.set r (.bf es'))
    |none=>none
   |_=>none
  |_=>none
 |.BJ x=>
  match ρ x with
  |.str s=>some (.ptr h.length 0,h++[.iter s 0])
  |_=>none
 |.rl x=>
  match ρ x with
  |.ptr b 0=>
   match h[b]? with
   |some (.iter s pos)=>
    if pos<s.length then
     let d:=Utf8.decode ⟨⟨s⟩⟩ pos
     some (.dM [.bool true,.int .i64 pos,.int .i32 d.1],h.set b (.iter s (pos+d.2)))
    else some (.dM [.bool false],h)
   |_=>none
  |_=>none
 |.ext x i=>
  match ρ x with
  |.dM l=>
   match l[i]? with
   |some v=>some (v,h)
   |none=>none
  |_=>none
 |.len lk x=>
  match zX lk h (ρ x)with
  |some n=>some (.int .i64 n,h)
  |none=>none
 |.zW n=>some (.int .i64 n,h)
 |.zb es x y=>
  match ρ x,cellsIn es h (ρ y)with
  |.slice b o n es',some (ys,k)=>
   if es' =es then
    if min k n=0 then some (.int .i64 0,h)
    else
     match h[b]? with
     |some (.cells c true tl)=>if o+min k n*es<=c.length then some (.int .i64 (min k n:Nat),h.set b (.cells (fK c o (ys.take (min k n*es))) true tl))else none
     |_=>none
   else none
  |.af,some _=>some (.int .i64 0,h)
  |_,_=>none
 |.mx x l=>
  match iL pV (ρ x) (l.map ρ)with
  |some v=>some (v,h)
  |none=>none
 |.mn x l=>
  match iL pU (ρ x) (l.map ρ)with
  |some v=>some (v,h)
  |none=>none
 |_=>none
inductive wO (es w:Nat) (s y:AV) (h:ah):AV->ah->Prop
 |none (hy:cellsIn es h y=some ([],0)) (hs:s=.af\/∃b o n,s=.slice b o n es):wO es w s y h s h
 |new (ys:List AV) (k:Nat) (mu:Bool) (hy:cellsIn es h y=some (ys,k)) (hk:0<k) (hb:k*w<=2^46) (hs:s=.af):
   wO es w s y h (.slice h.length 0 k es) (h++[.cells ys mu true])
 |on (ys:List AV) (k b o n:Nat) (c:List AV) (mu:Bool) (hy:cellsIn es h y=some (ys,k)) (hk:0<k) (hb:(n+k)*w<=2^46) (hs:s=.slice b o n es)
   (hc:h[b]? =some (.cells c mu true)) (hl:o+n*es=c.length):
   wO es w s y h (.slice h.length 0 (n+k) es) (h.set b (.cells c false false)++[.cells (c.drop o++ys) false true])
 |over (ys:List AV) (k b o n:Nat) (c:List AV) (mu:Bool) (hy:cellsIn es h y=some (ys,k)) (hk:0<k) (hb:(n+k)*w<=2^46) (hs:s=.slice b o n es)
   (hc:h[b]? =some (.cells c true true)) (hl:o+n*es<=c.length):
   wO es w s y h (.slice h.length 0 (n+k) es) (h.set b .dead++[.cells ((c.drop o).take (n*es)++ys) mu true])
 |full (ys:List AV) (k b o n:Nat) (c:List AV) (hy:cellsIn es h y=some (ys,k)) (hk:0<k) (hb:(n+k)*w<=2^46) (hs:s=.slice b o n es)
   (hc:h[b]? =some (.cells c true false)) (hl:o+n*es=c.length):
   wO es w s y h (.slice h.length 0 (n+k) es) (h++[.cells (c.drop o++ys) true true])
def wrap64{n}(h0:-9223372036854775808<=n)(h1:n<9223372036854775808):IntKind.i64.wrap n=n:=by
 show(if(true&&decide (n%(18446744073709551616:Int)>=(9223372036854775808:Int)))=true then n%(18446744073709551616:Int)-18446744073709551616 else n%(18446744073709551616:Int))=n;simp only[aao,ZJ];split<;>omega
def G9{n}(h0:0<=n)(h1:n<256):IntKind.u8.wrap n=n:=by
 show(if(false&&decide (n%(256:Int)>=(128:Int)))=true then n%(256:Int)-256 else n%(256:Int))=n;exact z203
def yv{n}(h0:0<=n)(h1:n<18446744073709551616):IntKind.u64.wrap n=n:=by
 show(if(false&&decide (n%(18446744073709551616:Int)>=(9223372036854775808:Int)))=true then n%(18446744073709551616:Int)-18446744073709551616 else n%(18446744073709551616:Int))=n;exact z203
def eU(P:Program)(m:b9)(h:ah)(w:World)(v:AV)(h':ah)(r:Result Next):Prop:=
 ∃cv w' m',(r=.ok (.value cv) w'\/(r=.ok .skip w'/\cv=undef))/\VR m' v cv/\HR P m' h' w'/\Grow m h w m' h' w'
def eU.same{P m h w v cv r}(hr:HR P m h w)(hv:VR m v cv)(e:r=.ok (.value cv) w):eU P m h w v h r:=
 ⟨cv,w,m,.inl e,hv,hr,Grow.refl m h w hr.cK⟩
def jV(m:b9):VR m az undef:=⟨[],rfl,rfl⟩
theorem vI(m:b9)(n:Nat)(ih:∀v a,mE n v=some a->VR m a v):∀(l:List Value) (r:List AV),l.mapM (mE n)=some r->cI m r l
 |[],r,h=>by simp at h;subst h;exact bE.2 rfl
 |v::l,r,h=>by
  simp only[abh,aa2,abn]at h;cases hv:mE n v with
  |none=>simp[hv]at h
  |some a=>
   cases hl:l.mapM (mE n)with
   |none=>simp[hv,hl]at h
   |some r'=>
    simp[hv,hl]at h;subst h;exact aO.2 ⟨v,l,rfl,ih v a hv,vI m n ih l r' hl⟩
def qA(m:b9):∀(n:Nat) (v:Value) (a:AV),mE n v=some a->VR m a v
 | 0,v,a,h=>by simp[mE]at h
 |n+1,v,a,h=>by
  unfold mE at h;split at h
  ·cases h;rfl
  ·cases h;rfl
  ·cases h;exact⟨_,rfl,.inl rfl⟩
  ·cases h;exact⟨_,_,rfl,.inl rfl,.inl rfl⟩
  ·cases h;rfl
  ·cases h;rfl
  ·cases h;rfl
  ·cases h;rfl
  ·cases h;rfl
  ·exact z80
  ·exact z80
  ·cases h
def cg{P}{t:TypeId}{n}(h:dS P t=some n)(w:World):(sizeOf t).run P w=.ok n w:=by
 unfold dS at h;cases hi:P.info? t with
 |none=>simp[hi]at h
 |some i=>simp[hi]at h;subst h;simp[sizeOf,typeInfo,hi]
def lX{P}{t:TypeId}{d:TypeDesc}(h:P.underlying t=some d)(w:World):(isAgg t).run P w=.ok (jR d) w:=by
 cases d<;>simp[isAgg,Zh h,jR]
def vE{P}{t:TypeId}{n}(h:AS P t=some (some n))(w:World):(isAgg t).run P w=.ok true w/\dS P t=some n:=by
 unfold AS at h;split at h
 case h_2=>cases h
 rename_i d hu;split at h
 case isFalse=>simp at h
 rename_i hd;refine⟨by rw[lX hu,hd],?_⟩;cases hi:P.info? t with
 |none=>simp[hi]at h
 |some i=>simp[hi]at h;simp[dS,hi,h]
def vF{P}{t:TypeId}(h:AS P t=some none)(w:World):(isAgg t).run P w=.ok false w:=by
 unfold AS at h;split at h
 case h_2=>cases h
 rename_i d hu;split at h
 case isTrue=>cases hi:P.info? t<;>simp[hi]at h
 rename_i hd;rw[lX hu];simp at hd;rw[hd]
def jU{P}{t:TypeId}{z}(h:jF P t=some z)(w:World)(m:b9):∃cz,(zeroValue t).run P w=.ok cz w/\VR m z cz:=by
 unfold jF at h;cases hi:P.info? t with
 |none=>simp[hi]at h
 |some i=>
  cases hz:i.zero with
  |none=>simp[hi,hz]at h
  |some cz=>
   simp[hi,hz]at h;exact⟨cz,by simp[zeroValue,typeInfo,hi,hz],qA m 4 cz z h⟩
section
variable {P:Program}{m:b9}{h h':ah}{w:World}{v:AV}{ρ:cX->AV}{hr:HR P m h w}
def tg(hr:HR P m h w){x cx}(hx:VR m x cx)(h1:x.cells.all AV.one=true)(t:TypeId)(mu tl:Bool):
  ∃m',(newVar t cx).run P w=.ok ⟨w.heap.size,0,none⟩ (w.alloc (.cells cx.cells t))/\VR m' (.ptr h.length 0) (.pointer (some ⟨w.heap.size,0,none⟩))/\
   HR P m' (h++[.cells x.cells mu tl]) (w.alloc (.cells cx.cells t))/\Grow m h w m' (h++[.cells x.cells mu tl]) (w.alloc (.cells cx.cells t)):=by
 obtain⟨m',h0,h2,h3⟩:=lO hr hx.cells h1 t mu tl;refine⟨m',by simp[newVar,newRow],⟨_,h0,rfl⟩,h2,h3⟩
def BG{t:TypeId}{n a ca}(hn:AS P t=some n)(hr:HR P m h w)(ha:VR m (ρ a) ca)(hf:dx (.load n a) ρ h=some (v,h')):
  ∃cv,(Instr.loadAt t ca).run P w=.ok cv w/\VR m v cv/\h' =h:=by
 simp only[dx]at hf;split at hf
 case h_2=>cases hf
 rename_i b o hρ;rw[hρ]at ha;obtain⟨e,he,rfl⟩:=ha;split at hf
 case h_2=>cases hf
 rename_i c mu tl hb;cases n with
 |none=>
  simp only at hf;split at hf
  case h_2=>cases hf
  rename_i x hx;cases hf;obtain⟨_,cv,TQ,RK⟩:=cell_of hr he hb hx;exact⟨cv,by simp[Instr.loadAt,Instr.sureAddr,loadVar,vF hn,TQ],RK,rfl⟩
 |some n=>
  simp only at hf;split at hf
  case isFalse=>cases hf
  rename_i hle;cases hf;obtain⟨hagg,ep⟩:=vE hn w;obtain⟨vs,RL,SH,_⟩:=nh hr he hb o n hle;exact⟨.agg ⟨vs⟩,by simp[Instr.loadAt,Instr.sureAddr,loadVar,hagg,cg ep,RL],⟨vs,rfl,SH⟩,rfl⟩
def DN{t:TypeId}{n a x ca cx}(hn:dS P t=some n)(hr:HR P m h w)(ha:VR m (ρ a) ca)(hx:VR m (ρ x) cx)(hf:dx (.store n a x) ρ h=some (v,h')):
  ∃w',(Instr.storeAt t ca cx).run P w=.ok () w'/\v=az/\HR P m h' w'/\Grow m h w m h' w':=by
 simp only[dx]at hf;split at hf
 case h_2=>cases hf
 rename_i b o hρ;rw[hρ]at ha;obtain⟨e,he,rfl⟩:=ha;split at hf
 case h_2=>cases hf
 rename_i c tl hb;split at hf
 case isFalse=>cases hf
 rename_i hc;cases hf;obtain⟨h1,h2,h3⟩:=hc;have hcl:=hx.cells;obtain⟨w',RL,hr',R6⟩:=pk (ρ x).cells cx.cells.toList hr he hb o 0 Om h2 hcl;have hlen:cx.cells.size=n:=by have:=hcl.length;simp at this;omega
 refine⟨w',?_,rfl,hr',R6⟩;simp only[Instr.storeAt,Instr.sureAddr,storeVar,Zj,ZB,Y8,cg hn];simp[hlen,RL]
def vg(c:List Value)(o:Nat):List Value->List Value
 |[]=>c
 |x::xs=>vg (c.set o x) (o+1) xs
theorem sU{m}:∀{xs}{vs},cI m xs vs->∀{c}{cv}(o:Nat),cI m c cv->cI m (fK c o xs) (vg cv o vs)
 |[],vs,hx,c,cv,o,hc=>by rw[bE]at hx;subst hx;exact hc
 |x::xs,vs,hx,c,cv,o,hc=>by
  obtain⟨v,vs',rfl,hv,SH⟩:=aO.1 hx;exact sU SH (o+1) (hc.set o hv)
theorem tA(off:Nat):∀(xs:List Value) (k:Nat) (cs:Array Value),(List.foldl (λcs (p:Value×Nat)=>cs.setIfInBounds (off+p.2) p.1) cs (xs.zipIdx k)).toList=vg cs.toList (off+k) xs
 |[],k,cs=>rfl
 |x::xs,k,cs=>by
  simp only[List.zipIdx_cons,abo,vg];rw[tA off xs (k+1)];simp[Nat.add_assoc]
theorem qx{m}(place:Nat->Option (Nat×Nat)):∀(ps:List (Nat×Value)) (qs:List (Nat×Nat×AV)) (c:List AV) (cc:Array Value) (c':List AV),
  ps.length=qs.length->(∀(i:Nat) p q,ps[i]? =some p->qs[i]? =some q->place p.1=some (q.1,q.2.1)/\VR m q.2.2 p.2)->cI m c cc.toList->eI c qs=some c'->
  ∃Sr,Instr.fill place cc ps=some Sr/\cI m c' Sr.toList
 |[],[],c,cc,c',_,_,hc,hf=>by simp[eI]at hf;subst hf;exact⟨cc,rfl,hc⟩
 |[],q::qs,c,cc,c',hl,_,_,_=>by simp at hl
 |p::ps,[],c,cc,c',hl,_,_,_=>by simp at hl
 |(i,x)::ps,(off,n,y)::qs,c,cc,c',hl,hp,hc,hf=>by
  obtain⟨UR,hxy⟩:=hp 0 (i,x) (off,n,y) Si Si;simp only at UR hxy;simp only[eI]at hf;split at hf
  case isFalse=>cases hf
  rename_i R3;obtain⟨hlen,hle⟩:=R3;have hcells:=hxy.cells;have ep:x.cells.size=n:=by have:=hcells.length;simp at this;omega
  have TB:cc.size=c.length:=by have:=hc.length;simpa using this
  have hfold:(x.cells.zipIdx.foldl (λcs (p:Value×Nat)=>cs.setIfInBounds (off+p.2) p.1) cc).toList=vg cc.toList off x.cells.toList:=by
   rw[<-Array.foldl_toList];have:=tA off x.cells.toList 0 cc
   simpa using this
  obtain⟨Sr,h1,h2⟩:=qx place ps qs (fK c off y.cells) (x.cells.zipIdx.foldl (λcs (p:Value×Nat)=>cs.setIfInBounds (off+p.2) p.1) cc) c' (by simpa using hl)
   (λj p q hj hq=>hp (j+1) p q (by simpa using hj) (by simpa using hq)) (by rw[hfold];exact sU hcells off hc) hf
  refine⟨Sr,?_,h2⟩;simp only[Instr.fill,UR];rw[Y6 (by simp;omega)];exact h1
theorem qe{P}{t:TypeId}:∀{ps}{l},mv P t ps=some l->ps.length=l.length/\
  ∀(i:Nat) p q,ps[i]? =some p->l[i]? =some q->jH P t p.1=some (q.1,q.2.1)/\cS p.2=some q.2.2
 |[],l,h=>by simp[mv]at h;subst h;exact⟨rfl,λi p q hp=>by simp at hp⟩
 |(i,x)::ps,l,h=>by
  simp only[mv]at h;split at h
  case h_2=>cases h
  rename_i off n y r h1 h2 h3;cases h;obtain⟨hl,hp⟩:=qe h3;refine⟨by simp[hl],λj p q hj hq=>?_⟩;cases j with
  |zero=>simp at hj hq;subst hj;subst hq;exact⟨h1,h2⟩
  |succ j=>exact hp j p q (by simpa using hj) (by simpa using hq)
def CM{t:TypeId}{z:AV}{ps:List (Nat×Value)}{cz:Value}{Sr:Array Value}(hz:(P.info? t).bind (·.zero)=some cz)(hp:nU P t=true)(hf:Instr.fill (jH P t) cz.cells ps=some Sr):
  P.built t ps=some Sr:=by
 unfold Program.built;cases hi:P.info? t with
 |none=>simp[hi]at hz
 |some it=>
  simp[hi]at hz;unfold nU at hp;split at hp
  ·rename_i fs hu;obtain⟨places,hpls⟩:=Option.isSome_iff_exists.1 hp;have UR:jH P t=λi=>places[i]? :=by
    funext i;simp only[jH,hu,hpls]
   rw[UR]at hf;simp only[hu,hz,hpls]
   simpa using hf
  ·rename_i n e hu;obtain⟨ie,hie⟩:=Option.isSome_iff_exists.1 hp;have UR:jH P t=λi=>some (i*ie.size,ie.size):=by
    funext i;simp only[jH,hu,hie];rfl
   rw[UR]at hf;simp only[hu,hz,hie];exact hf
  ·cases hp
def DQ{t:TypeId}{z:AV}{ps:Array (Nat×Operand)}{l:List (Nat×Nat×cX)}{σ:Operand->Value}(hz:jF P t=some z)(hl:mv P t ps.toList=some l)(hp:nU P t=true)
  (hρ:∀p∈ps.toList,∀y,cS p.2=some y->VR m (ρ y) (σ p.2)) (hf:dx (.build z.cells l) ρ h=some (v,h')):
  ∃cv,(Instr.build t (ps.map λ(i,x)=>(i,σ x))).run P w=.ok cv w/\VR m v cv/\h' =h:=by
 simp only[dx]at hf;split at hf
 case h_2=>cases hf
 rename_i c hc;cases hf;obtain⟨hlen,hpq⟩:=qe hl;have Yf:∃cz,(P.info? t).bind (·.zero)=some cz/\VR m z cz:=by
  unfold jF at hz;cases hi:P.info? t with
  |none=>simp[hi]at hz
  |some i=>
   cases hzz:i.zero with
   |none=>simp[hi,hzz]at hz
   |some cz=>simp[hi,hzz]at hz;exact⟨cz,by simp[hzz],qA m 4 cz z hz⟩
 obtain⟨cz,Uv,U5⟩:=Yf;obtain⟨Sr,S4,SH⟩:=qx (m:=m) (jH P t) (ps.toList.map λp=>(p.1,σ p.2)) (l.map λp=>(p.1,p.2.1,ρ p.2.2)) z.cells cz.cells c (by simp[hlen])
  (λi p q Xz hq=>by
   simp only[aac,Zk]at Xz hq;obtain⟨p0,hp0,rfl⟩:=Xz;obtain⟨q0,hq0,rfl⟩:=hq;obtain⟨h1,h2⟩:=hpq i p0 q0 hp0 hq0;exact⟨h1,hρ p0 (ZT hp0) _ h2⟩) U5.cells hc
 refine⟨.agg Sr,run_build w t _ Sr ?_,⟨Sr.toList,rfl,SH⟩,rfl⟩;have:=CM (z:=z) Uv hp S4
 simpa using this
def BF{t:TypeId}{n off l l'}(hn:AS P t=some n)(hl:cI m l l')
  (hf:(match n with|none=>(match l[off]? with|some v=>some (v,h)|none=>none)|some n=>some (.agg ((l.drop off).take n),h))=some (v,h')):
  ∃cv,(part t ⟨l'⟩ off).run P w=.ok cv w/\VR m v cv/\h' =h:=by
 cases n with
 |none=>
  simp only at hf;split at hf
  case h_2=>cases hf
  rename_i x hx;cases hf;obtain⟨cv,TQ,RK⟩:=hl.get hx;exact⟨cv,by simp[part,vF hn,TQ],RK,rfl⟩
 |some n=>
  cases hf;obtain⟨h1,h2⟩:=vE hn w;refine⟨.agg ⟨(l'.drop off).take n⟩,?_,⟨_,rfl,(hl.drop off).take n⟩,rfl⟩;simp only[part,Zj,h1,Y8,Zi,cg h2,ZB];simp[List.extract_eq_take_drop]
end
section
variable {P:Program}{m:b9}{h h':ah}{w:World}
def xC{op k a b v}(hs:eS op=false)(hf:fM op k a b=some v)(t:TypeId):
  ∃cv,(binOp op t (.int k a) (.int k b)).run P w=.ok cv w/\VR m v cv:=by
 cases op<;>simp only[fM,eS]at hf hs<;>first
  |(cases hs;done)
  |(cases hf;done)
  |skip
 all_goals first
  |(cases hf;exact⟨_,by simp[binOp,Op.intArith,Op.intBits,Op.intCmp],rfl⟩)
  |(split at hf
    ·cases hf
    ·rename_i hb;cases hf;exact⟨_,by simp[binOp,Op.intDiv,hb],rfl⟩)
def xA{op k k' a b v}(hs:eS op=true)(hf:xy op k a b=some v)(t:TypeId):
  ∃cv,(binOp op t (.int k a) (.int k' b)).run P w=.ok cv w/\VR m v cv:=by
 unfold xy at hf;split at hf
 ·cases hf
 ·rename_i hb;cases op<;>first
   |(cases hs;done)
   |(cases hf;exact⟨_,by simp[binOp,Op.shift,hb],rfl⟩)
def toList_mk(l:By):(⟨⟨l⟩⟩:ByteArray).toList=l:=by rw[ByteArray.toList_eq]
def AD(a b:By):(⟨⟨a⟩⟩:ByteArray)++⟨⟨b⟩⟩=⟨⟨a++b⟩⟩:=by
 apply ByteArray.ext
 rw[ByteArray.data_append];simp
def xz{op a b v}(hf:qO op a b=some v)(t:TypeId):
  ∃cv,(binOp op t (.string ⟨⟨a⟩⟩) (.string ⟨⟨b⟩⟩)).run P w=.ok cv w/\VR m v cv:=by
 cases op<;>simp only[qO]at hf<;>first
  |(cases hf;done)
  |skip
 all_goals first
  |(cases hf;exact⟨_,by simp[binOp,Op.stringOp,toList_mk],rfl⟩)
  |(split at hf
    ·rename_i hlen;cases hf;refine⟨.string ⟨⟨a++b⟩⟩,?_,rfl⟩;have hn:¬(IntKind.i64.max<(((⟨⟨a⟩⟩:ByteArray).size+(⟨⟨b⟩⟩:ByteArray).size:Nat):Int)):=by
      show ¬((9223372036854775807:Int)<((a.length+b.length:Nat):Int));omega
     simp only[binOp,Op.stringOp,GT.gt,Y6 hn,AD,ZB]
    ·cases hf)
def DR{op x v cx}(hx:VR m x cx)(hf:wW op x=some v):∃cv,(Op.unary op cx).run P w=.ok cv w/\VR m v cv:=by
 cases x with
 |int k n=>
  rw[VR]at hx;subst hx;cases op with
  |neg=>simp only[wW,Zu]at hf;subst hf;exact⟨_,rfl,rfl⟩
  |xor=>simp only[wW,fM,Zu]at hf;subst hf;exact⟨_,rfl,rfl⟩
  |not=>simp[wW]at hf
  |plus=>simp[wW]at hf
 |bool b=>
  rw[VR]at hx;subst hx;cases op<;>simp only[wW]at hf<;>first
   |(cases hf;done)
   |(cases hf;exact⟨_,by simp[Op.unary],rfl⟩)
 |_=>cases op<;>simp[wW]at hf
def qX{t:TypeId}{k}(ht:match k with|.b=>P.underlying t=some .bool|.i=>∃k,P.underlying t=some (.int k)|.s=>P.underlying t=some .string)
  {x y}{cx cy}{b}(hx:VR m x cx) (hy:VR m y cy) (hf:cV k x y=some b) (d:Nat):(Op.equalIn (d+1) t cx cy).run P w=.ok b w:=by
 unfold cV at hf;split at hf
 ·rw[VR]at hx hy;subst hx;subst hy;cases hf;exact run_equalIn_bool' w d t _ _ ht
 ·split at hf
  ·rename_i hk;rw[VR]at hx hy;subst hx;subst hy;subst hk;cases hf;obtain⟨k',hu⟩:=ht;exact run_equalIn_int w d t _ k' _ _ hu
  ·cases hf
 ·rw[VR]at hx hy;subst hx;subst hy;cases hf;rw[run_equalIn_string w d t _ _ ht,toList_mk,toList_mk]
 ·cases hf
theorem jA:∀(ks ks':List CK) (xs ys xs' ys':List AV) (b:Bool),xs.length=ks.length->ys.length=ks.length->dI (ks++ks') (xs++xs') (ys++ys')=some b->
  (∃c,dI ks xs ys=some c/\((c=true/\dI ks' xs' ys' =some b)\/(c=false/\b=false)))
 |[],ks',[],[],xs',ys',b,_,_,h=>⟨true,rfl,.inl ⟨rfl,h⟩⟩
 |k::ks,ks',x::xs,y::ys,xs',ys',b,hx,hy,h=>by
  simp only[Z5,dI]at h ⊢;cases hc:cV k x y with
  |none=>simp[hc]at h
  |some c=>
   cases c with
   |false=>simp[hc]at h;subst h;exact⟨false,Si,.inr ⟨rfl,rfl⟩⟩
   |true=>
    simp only[hc]at h;obtain⟨c,h1,h2⟩:=jA ks ks' xs ys xs' ys' b (by simpa using hx) (by simpa using hy) h;exact⟨c,by simpa using h1,h2⟩
 |[],_,_::_,_,_,_,_,h,_,_=>by simp at h
 |[],_,_,_::_,_,_,_,_,h,_=>by simp at h
 |_::_,_,[],_,_,_,_,h,_,_=>by simp at h
 |_::_,_,_,[],_,_,_,_,h,_=>by simp at h
def jf(d:TypeDesc)(l:List Value):Value:=if jR d then .agg ⟨l⟩else l.headD default
def nR{t:TypeId}{d:TypeDesc}{n}(hd:P.underlying t=some d)(hn:dS P t=some n)(h1:jR d=false->n=1){l off}(hl:off+n<=l.length):
  (part t ⟨l⟩ off).run P w=.ok (jf d ((l.drop off).take n)) w:=by
 unfold jf;cases ha:jR d with
 |true=>
  simp only[part,Zj,lX hd,ha,Y8,Zi,cg hn,ZB];simp[List.extract_eq_take_drop]
 |false=>
  have:=h1 ha;subst this;have hlt:off<l.length:=Om
  simp only[part,Zj,lX hd,ha,Y8];have e:(l.drop off).take 1=[l[off]]:=by
   rw[aaD hlt,aaN,List.take_zero]
  simp[e,hlt]
def tB{d}{t:TypeId}{ks}(hf:flat P d t=some ks):∃ds,P.underlying t=some ds/\(jR ds=false->ks.length=1):=by
 cases d with
 |zero=>simp[flat]at hf
 |succ d=>
  unfold flat at hf;split at hf
  ·exact G3
  ·exact G3
  ·exact G3
  ·rename_i hu;exact⟨_,hu,λh=>by cases h⟩
  ·rename_i hu;exact⟨_,hu,λh=>by cases h⟩
  ·cases hf
def qa{t:TypeId}{fs}(hu:P.underlying t=some (.struct fs)):P.fieldsOf t=fs:=by simp[Program.fieldsOf,hu]
def BI:∀(d:Nat) (t:TypeId) (ks:List CK),flat P d t=some ks->∀(D:Nat),d<=D->∀(ds:TypeDesc),P.underlying t=some ds->
  ∀(xs ys:List AV) (vx vy:List Value) (b:Bool),xs.length=ks.length->ys.length=ks.length->cI m xs vx->cI m ys vy->dI ks xs ys=some b->
  ∀w:World,(Op.equalIn D t (jf ds vx) (jf ds vy)).run P w=.ok b w:=by
 intro d
 induction d with
 |zero=>intro t ks hf;simp[flat]at hf
 |succ d ih=>
  intro t ks hf D hD ds Va xs ys vx vy b UH UG hx hy he w;obtain⟨D,rfl⟩:∃D',D=D'+1:=⟨D-1,Om⟩;have hone:∀{k:CK},ks=[k]->jR ds=false->(match k with|.b=>P.underlying t=some .bool|.i=>∃k,P.underlying t=some (.int k)|.s=>P.underlying t=some .string)->(Op.equalIn (D+1) t (jf ds vx) (jf ds vy)).run P w=.ok b w:=by
   intro k hk hd ht;subst hk
   match xs,ys,UH,UG with
   |[x],[y],_,_=>
    obtain⟨cx,_,rfl,W9,h2⟩:=aO.1 hx;obtain⟨cy,_,rfl,hcy,h3⟩:=aO.1 hy;rw[bE]at h2 h3;subst h2;subst h3;simp only[dI]at he;have SM:cV k x y=some b:=by
     cases hc:cV k x y with
     |none=>simp[hc]at he
     |some c=>cases c<;>simp[hc]at he<;>simp[he]
    simp only[jf,hd,List.headD_cons,ZM,Zf];exact qX ht W9 hcy SM D
  unfold flat at hf;split at hf
  ·exact JW
  ·rename_i hu;rw[hu]at Va;cases Va;cases hf;exact hone rfl rfl ⟨_,hu⟩
  ·exact JW
  ·rename_i fs hu;rw[hu]at Va;cases Va;split at hf
   case isFalse=>cases hf
   rename_i bU;simp only[jf,jR,Zi];rw[run_equalIn_struct w D t ⟨vx⟩ ⟨vy⟩ (by rw[qa hu];exact hu) bU,qa hu];have key:∀(fl:List Field) (off:Nat) (ks:List CK) (xs ys:List AV) (b:Bool),wj P (flat P d) fl off=some ks->xs.length=ks.length->ys.length=ks.length->
     cI m xs (vx.drop off)->cI m ys (vy.drop off)->dI ks xs ys=some b->(Op.eqFields D ⟨vx⟩ ⟨vy⟩ fl).run P w=.ok b w:=by
    intro fl
    induction fl with
    |nil=>
     intro off ks xs ys b Sg UH UG hx hy he;simp only[wj,Zu]at Sg;subst Sg
     match xs,ys,UH,UG with
     |[],[],_,_=>cases he;rfl
    |cons f fl ihf=>
     intro off ks xs ys b Sg UH UG hx hy he;simp only[wj]at Sg;split at Sg
     case h_2=>cases Sg
     rename_i k1 i hk1 hi;split at Sg
     case isFalse=>cases Sg
     rename_i R3;obtain⟨hname,hoff,ep,hpos⟩:=R3;split at Sg
     case h_2=>cases Sg
     rename_i k2 RJ;cases Sg;subst hoff;obtain⟨ds',Ut,h1'⟩:=tB hk1;have Sx:dS P f.type=some k1.length:=by simp[dS,hi,ep]
     have Yv:xs=xs.take k1.length++xs.drop k1.length:=(aah _ _).symm;have Yu:ys=ys.take k1.length++ys.drop k1.length:=(aah _ _).symm;simp only[YP]at UH UG;rw[Yv,Yu]at he;obtain⟨c,hc1,XI⟩:=jA k1 k2 _ _ _ _ b (by simp;omega) (by simp;omega) he;have UO:f.offset+k1.length<=vx.length:=by have:=hx.length;simp at this;omega
     have hvy:f.offset+k1.length<=vy.length:=by have:=hy.length;simp at this;omega
     simp only[Op.eqFields,Zb hname,Zj,nR Ut Sx (λh=>h1' h) UO,nR Ut Sx (λh=>h1' h) hvy,Y8];rw[ih f.type k1 hk1 D Om ds' Ut _ _ _ _ c (by simp;omega) (by simp;omega) (hx.take k1.length) (hy.take k1.length) hc1 w];rcases XI with⟨rfl,hr⟩|⟨rfl,rfl⟩
     ·simp only[Y8,Zg,ZM,Zf];exact ihf (f.offset+k1.length) k2 _ _ b RJ (by simp;omega) (by simp;omega) (by have:=hx.drop k1.length;rwa [aat]at this) (by have:=hy.drop k1.length;rwa [aat]at this) hr
     ·simp
   exact key fs.toList 0 ks xs ys b hf UH UG (by simpa using hx) (by simpa using hy) he
  ·rename_i len e hu;rw[hu]at Va;cases Va;split at hf
   case h_2=>cases hf
   rename_i k1 i hk1 hi;split at hf
   case isFalse=>cases hf
   rename_i R3;obtain⟨ep,hpos⟩:=R3;cases hf;obtain⟨ds',Ut,h1'⟩:=tB hk1;have Sx:dS P e=some k1.length:=by simp[dS,hi,ep]
   simp only[jf,jR,Zi];have key:∀(n j:Nat) (xs ys:List AV) (b:Bool),j+n=len->xs.length=(List.replicate n k1).flatten.length->ys.length=(List.replicate n k1).flatten.length->
     cI m xs (vx.drop (j*k1.length))->cI m ys (vy.drop (j*k1.length))->dI (List.replicate n k1).flatten xs ys=some b->
     (forIn (m:=Sem) (List.range' j n) ((none,()):Option Bool×Unit) λ(i:Nat) (_:Option Bool×Unit)=>do
      let a <-part e ⟨vx⟩ (i*k1.length)
      let c <-part e ⟨vy⟩ (i*k1.length)
      let r <-Op.equalIn D e a c
      if(!r)=true then pure (ForInStep.done (some false,()))else pure (ForInStep.yield (none,()))).run P w=.ok (if b then(none,())else(some false,())) w:=by
    intro n
    induction n with
    |zero=>
     intro j xs ys b _ UH UG _ _ he;simp only[abj,List.flatten_nil,YX]at UH UG he
     match xs,ys,UH,UG with
     |[],[],_,_=>cases he;rfl
    |succ n ihn=>
     intro j xs ys b hj UH UG hx hy he;simp only[aav,Z9,YP]at UH UG he;have Yv:xs=xs.take k1.length++xs.drop k1.length:=(aah _ _).symm;have Yu:ys=ys.take k1.length++ys.drop k1.length:=(aah _ _).symm;rw[Yv,Yu]at he;obtain⟨c,hc1,XI⟩:=jA k1 _ _ _ _ _ b (by simp;omega) (by simp;omega) he;have UO:j*k1.length+k1.length<=vx.length:=by have:=hx.length;simp at this;omega
     have hvy:j*k1.length+k1.length<=vy.length:=by have:=hy.length;simp at this;omega
     simp only[List.range'_succ,List.forIn_cons,Zj,nR Ut Sx (λh=>h1' h) UO,nR Ut Sx (λh=>h1' h) hvy,Y8];rw[ih e k1 hk1 D Om ds' Ut _ _ _ _ c (by simp;omega) (by simp;omega) (hx.take k1.length) (hy.take k1.length) hc1 w];rcases XI with⟨rfl,hr⟩|⟨rfl,rfl⟩
     ·simp only[Y8,Zg,ZM,Zf,ZB];exact ihn (j+1) _ _ b Om (by rw[aa7];omega) (by rw[aa7];omega) (by have:=hx.drop k1.length;rw[aat]at this;rwa [aaf]) (by have:=hy.drop k1.length;rw[aat]at this;rwa [aaf]) hr
     ·simp
   have hk:=key len 0 xs ys b Om UH UG (by simpa using hx) (by simpa using hy) he;simp only[Op.equalIn,Zj,Zh hu,Y8,cg Sx,Std.Legacy.Range.forIn_eq_forIn_range',Std.Legacy.Range.size];simp only[Nat.sub_zero,Nat.add_one_sub_one,Nat.div_one];rw[hk];cases b<;>rfl
  ·cases hf
end
def pe(m:b9)(ρ:cX->AV):Option cX->Option Value->Prop
 |none,none=>True
 |some x,some cx=>VR m (ρ x) cx
 |_,_=>False
section
variable {P:Program}{m:b9}{h h':ah}{w:World}{ρ:cX->AV}{v:AV}
def fq{t e:TypeId}{i:TypeInfo}(hs:dU P t=some (e,i)):P.underlying t=some (.slice e)/\P.info? e=some i:=by
 unfold dU at hs;split at hs
 ·rename_i e' hu;cases hi:P.info? e' with
  |none=>simp[hi]at hs
  |some i'=>simp[hi]at hs;obtain⟨rfl,rfl⟩:=hs;exact⟨hu,hi⟩
 ·cases hs
def jE(n:Nat)(z:List AV):(dN n z).length=n*z.length:=by simp[dN]
def sL{z:List AV}{cz:Array Value}(hz:cI m z cz.toList)(hpos:0<z.length)(n k:Nat)(hk:k<=n):
  cI m (dN k z) (((Array.range (n*cz.size)).map (cz[·% cz.size]!)).toList.take (k*z.length)):=by
 have ep:cz.size=z.length:=by have:=hz.length;simpa using this
 refine cI.iA ?_ ?_
 ·rw[jE];simp[ep,aaL hk]
 ·intro i x hx;have hi:i<k*z.length:=by have:=(YQ.1 hx).1;rw[jE]at this;exact this
  have hmod:i%z.length<z.length:=Nat.mod_lt _ hpos;have RP:(dN k z)[i]? =z[i%z.length]? :=by
   clear hx hk;unfold dN
   induction k generalizing i with
   |zero=>omega
   |succ k ih=>
    rw[aav,Z9];by_cases hlt:i<z.length
    ·rw[YT hlt,Nat.mod_eq_of_lt hlt]
    ·rw[Y7 Om,ih (i-z.length) (by rw[aaf]at hi;omega) (Nat.mod_lt _ hpos)];congr 1;rw[<-Nat.mod_eq_sub_mod Om]
  rw[RP]at hx;obtain⟨y,hy,hr⟩:=hz.get hx;refine⟨y,?_,hr⟩;have hin:i<n*z.length:=ZQ hi (Z3 _ hk);rw[aaY hi,aap,Array.getElem?_map,Array.getElem?_range,ep,Zb hin];simp only[aaO,Zu];rw[getElem!_pos cz _ Om];have:=(YQ.1 hy).2
  simpa using this
def A0{z}(hz:z.all AV.one=true)(n:Nat):(dN n z).all AV.one=true:=by
 rw[Zy]at hz ⊢;intro x hx;simp only[dN,List.mem_flatten,List.mem_replicate]at hx;obtain⟨l,⟨_,rfl⟩,hx⟩:=hx;exact hz x hx
def Ht{t e:TypeId}{i:TypeInfo}{z:AV}{l c:cX}{cl cc:Value}(hs:dU P t=some (e,i))(hz:jF P e=some z)(hpos:0<i.size)(hzl:z.cells.length=i.size)(h1:z.cells.all AV.one=true)
  (hr:HR P m h w) (hl:VR m (ρ l) cl) (hc:VR m (ρ c) cc) (hf:dx (.vG i.size i.bytes z.cells l c) ρ h=some (v,h')):
  ∃cv w' m',(Instr.makeSlice t cl cc).run P w=.ok cv w'/\VR m' v cv/\HR P m' h' w'/\Grow m h w m' h' w':=by
 obtain⟨hu,hi⟩:=fq hs;simp only[dx]at hf;split at hf
 case h_2=>cases hf
 rename_i kl l' kc c' hρl hρc;rw[hρl,VR]at hl;rw[hρc,VR]at hc;subst hl;subst hc;split at hf
 case isFalse=>cases hf
 rename_i R3;obtain⟨h0,hlc,hb,hc63⟩:=R3;cases hf;obtain⟨cz,Uv,U5⟩:=jU hz w m;have hzc:=U5.cells;obtain⟨n,rfl⟩:=Int.eq_ofNat_of_zero_le (Int.le_trans h0 hlc);obtain⟨k,rfl⟩:=Int.eq_ofNat_of_zero_le h0;have hkn:k<=n:=Om
 have hwl:IntKind.i64.wrap (k:Int)=k:=wrap64 Om Om;have hwc:IntKind.i64.wrap (n:Int)=n:=wrap64 Om Om;have ep:cz.cells.size=z.cells.length:=by have:=hzc.length;simpa using this
 let row:Array Value:=(Array.range (n*cz.cells.size)).map (cz.cells[·% cz.cells.size]!)
 have hrow:cI m (dN k z.cells) (row.toList.take (k*z.cells.length)):=sL hzc Om n k hkn;have hrs:row.size=n*i.size:=by simp[row,ep,hzl]
 let e':sK:=⟨w.heap.size,0,row.size,true⟩
 have XJ:=ki hr (.cells row e) (.cells (dN k z.cells) true true) e' rfl rfl (λm' hm=>by
  refine⟨row,e,(0,0),World.alloc_heap_new w _,⟨?_,?_,rfl⟩,?_,λ_=>⟨rfl,λi _=>by simp⟩,λ_=>⟨rfl,λx=>by cases x⟩⟩
  ·exact z119
  ·exact z119
  ·intro j x hx;obtain⟨y,hy,RK⟩:=hrow.get hx;have hj:j<k*z.cells.length:=by have:=(YQ.1 hx).1;rw[jE]at this;exact this
   rw[aaY hj]at hy;refine⟨Zy.1 (A0 h1 k) x (ZT hx),y,?_,VR.mono hm _ _ RK⟩;show row[0+j]? =some y;rw[ZN,<-aap];exact hy)
 refine⟨.slice (some ⟨w.heap.size,0,none⟩) k n,w.alloc (.cells row e),m.add h.length e',?_,⟨e',⟨w.heap.size,0,none⟩,n,by simp[b9.add],rfl,hkn,λ_=>rfl,?_⟩,XJ.1,XJ.2⟩
 ·have R1:(sizeOf e).run P w=.ok i.size w:=cg (by simp[dS,hi]) w;have T4:¬((i.bytes:Int)*n > 2^48):=Om
  have VD:(typeInfo e).run P w=.ok i w:=by simp[typeInfo,hi]
  have Wc:¬((n:Int)<0):=Om
  have hk0:¬((k:Int)<0):=Om
  have hkn':¬((k:Int)> (n:Int)):=Om
  simp only[Instr.makeSlice,Zj,Zh hu,Y8,asInt,asIntOf,ZB,VD,hwl,hwc,Wc,hk0,hkn',T4];simp only[Zt,Bool.or_self,ZM,Zf,run_askRoom,Y8,R1,Int.toNat_natCast,Zj,Sem.run_ite,ZB,Uv];by_cases Yf:n*i.size=0
  ·simp only[Yf,Zi,Y8,newRow,run_newObj,Zj,ZB];have:row=#[]:=by apply Array.eq_empty_of_size_eq_zero;omega
   have e0:(Array.range 0).map (λx=>(#[] :Array Value)[x%(#[] :Array Value).size]!)=#[]:=Si
   rw[this,e0];rfl
  ·simp only[Yf,Zf,Y8,newRow,run_newObj,Zj,ZB];have:row=(Array.range (n*i.size)).map (cz.cells[·% cz.cells.size]!):=by show(Array.range (n*cz.cells.size)).map _=_;rw[ep,hzl]
   rw[this];rfl
 ·show 0+0+n*i.size<=row.size;omega
def mw{lo hi}{n l u:Nat}(hb:jk lo hi n=some (l,u)):l<=u/\u<=n/\HZ lo=some (l:Int)/\Gs n hi=some (u:Int):=by
 unfold jk at hb;split at hb
 case h_2=>cases hb
 rename_i a b ha hb';split at hb
 case isFalse=>cases hb
 rename_i hc;obtain⟨h0,h1,h2⟩:=hc;simp only[Zu,abc]at hb;obtain⟨rfl,rfl⟩:=hb;exact⟨Om,Om,by rw[ha];congr 1;omega,by rw[hb'];congr 1;omega⟩
def fS{lo hi U0 UD}(hlo:pe m ρ lo U0)
  (hhi:pe m ρ hi UD) {n l u}(hb:jk (lo.map ρ) (hi.map ρ) n=some (l,u)) (isSlice:Bool) (cap:Nat) (hcap:n<=cap):
  (Instr.sliceBounds isSlice n cap U0 UD none).run P w=.ok (l,u,cap) w:=by
 obtain⟨UT,hun,h1,h2⟩:=mw hb;have hh:∀(x:cX) (cx:Value),VR m (ρ x) cx->Gs n (some (ρ x))=some (u:Int)->∃k,cx=.int k u:=by
  intro x cx hx hu;cases hρ:ρ x<;>simp[Gs,hρ]at hu;subst hu;rw[hρ,VR]at hx;exact⟨_,hx⟩
 have hl:∀(x:cX) (cx:Value),VR m (ρ x) cx->HZ (some (ρ x))=some (l:Int)->∃k,cx=.int k l:=by
  intro x cx hx hu;cases hρ:ρ x<;>simp[HZ,hρ]at hu;subst hu;rw[hρ,VR]at hx;exact⟨_,hx⟩
 have hcu:(u:Int)<=cap:=Om
 have hlu':(l:Int)<=u:=Om
 have hbu:∀(k:IntKind) (code:BoundsCode) (w:World),(Instr.sliceBound (.int k u) cap code).run P w=.ok u w:=by
  intro k code w;simp[Instr.sliceBound,asIntOf,hcu]<;>omega
 have hbl:∀(k:IntKind) (code:BoundsCode) (w:World),(Instr.sliceBound (.int k l) u code).run P w=.ok l w:=by
  intro k code w;simp[Instr.sliceBound,asIntOf]<;>omega
 cases lo with
 |none=>
  cases U0 with
  |some _=>exact hlo.elim
  |none=>
   simp only[abb,HZ,Zu]at h1;cases hi with
   |none=>
    cases UD with
    |some _=>exact hhi.elim
    |none=>
     simp only[abb,Gs,Zu]at h2;have hn:u=n:=Om
     have WT:l=0:=Om
     subst hn;subst WT;simp[Instr.sliceBounds]
   |some y=>
    cases UD with
    |none=>exact hhi.elim
    |some cy=>
     obtain⟨k,rfl⟩:=hh y cy hhi h2;have WT:l=0:=Om
     subst WT;simp[Instr.sliceBounds,hbu]
 |some x=>
  cases U0 with
  |none=>exact hlo.elim
  |some cx=>
   obtain⟨kx,rfl⟩:=hl x cx hlo h1;cases hi with
   |none=>
    cases UD with
    |some _=>exact hhi.elim
    |none=>
     simp only[abb,Gs,Zu]at h2;have hn:u=n:=Om
     subst hn;simp[Instr.sliceBounds,hbl]
   |some y=>
    cases UD with
    |none=>exact hhi.elim
    |some cy=>
     obtain⟨k,rfl⟩:=hh y cy hhi h2;simp[Instr.sliceBounds,hbu,hbl]
def extract_mk(s:By)(l u:Nat):(⟨⟨s⟩⟩:ByteArray).extract l u=⟨⟨(s.drop l).take (u-l)⟩⟩:=by
 apply ByteArray.ext
 simp[ByteArray.data_extract,List.extract_eq_take_drop]
def N1{t:TypeId}{es x lo hi cx U0 UD}{e:TypeId}(hu:P.underlying t=some (.slice e))(hes:dS P e=some es)
  (hx:VR m (ρ x) cx) (hlo:pe m ρ lo U0)
  (hhi:pe m ρ hi UD) (hf:dx (.sl es x lo hi) ρ h=some (v,h')):
  ∃cv,(Instr.sliceAt t cx U0 UD none).run P w=.ok cv w/\VR m v cv/\h' =h:=by
 simp only[dx]at hf;split at hf
 ·rename_i b o n es' hρ;rw[hρ]at hx;obtain⟨en,ca,cap,Sm,rfl,R8,Sp,hroom⟩:=hx;split at hf
  case isFalse=>cases hf
  rename_i hees;subst hees;split at hf
  case h_2=>cases hf
  rename_i l u hb;cases hf;obtain⟨UT,hun,_,_⟩:=mw hb;refine⟨.slice (some (if cap=l then ca else ca.add (l*es'))) (u-l) (cap-l),?_,⟨en,_,cap-l,Sm,rfl,Om,?_,?_⟩,rfl⟩
  ·simp only[Instr.sliceAt,Zj,Zh hu,Y8,Instr.slice,fS hlo hhi hb true cap R8,cg hes,ZB];by_cases hcl:cap=l<;>simp[hcl]
  ·intro hpos;rw[Y6 Om,Sp Om,gO];simp only[Addr.mk.injEq,abt,and_true];omega
  ·have:cap=l+(cap-l):=Om
   rw[this,aba]at hroom;omega
 ·rename_i hρ;rw[hρ,VR]at hx;subst hx;split at hf
  case h_2=>cases hf
  rename_i p hb;obtain⟨l,u⟩:=p;cases hf;obtain⟨UT,hun,_,_⟩:=mw hb;have WT:l=0:=Om
  have UF:u=0:=Om
  subst WT;subst UF;refine⟨.slice none 0 0,?_,rfl,rfl⟩;simp only[Instr.sliceAt,Zj,Zh hu,Y8,Instr.slice,fS hlo hhi hb true 0 (Y9 _),cg hes,ZB];simp
 ·cases hf
def KU{t:TypeId}{x lo hi cx U0 UD}(hu:P.underlying t=some .string)
  (hx:VR m (ρ x) cx) (hlo:pe m ρ lo U0)
  (hhi:pe m ρ hi UD) (hf:dx (.Jt x lo hi) ρ h=some (v,h')):
  ∃cv,(Instr.sliceAt t cx U0 UD none).run P w=.ok cv w/\VR m v cv/\h' =h:=by
 simp only[dx]at hf;split at hf
 case h_2=>cases hf
 rename_i s hρ;rw[hρ,VR]at hx;subst hx;split at hf
 case h_2=>cases hf
 rename_i l u hb;cases hf;refine⟨.string ((⟨⟨s⟩⟩:ByteArray).extract l u),?_,by rw[extract_mk];rfl,rfl⟩;have hs:(⟨⟨s⟩⟩:ByteArray).size=s.length:=rfl;simp only[Instr.sliceAt,Zj,Zh hu,Y8,Instr.slice];simp[hs,fS hlo hhi hb false s.length (Y9 _)]
def KV{t:TypeId}{k es x lo hi cx U0 UD}{e:TypeId}(hu:P.underlying t=some (.array k e))(hes:dS P e=some es)(hr:HR P m h w)
  (hx:VR m (ρ x) cx) (hlo:pe m ρ lo U0)
  (hhi:pe m ρ hi UD) (hf:dx (.Nc k es x lo hi) ρ h=some (v,h')):
  ∃cv,(Instr.sliceAt t cx U0 UD none).run P w=.ok cv w/\VR m v cv/\h' =h:=by
 simp only[dx]at hf;split at hf
 case h_2=>cases hf
 rename_i b o hρ;rw[hρ]at hx;obtain⟨en,Sm,rfl⟩:=hx;split at hf
 case h_2=>cases hf
 rename_i c mu tl hbk;split at hf
 case isFalse=>cases hf
 rename_i hle;split at hf
 case h_2=>cases hf
 rename_i l u hb;cases hf;obtain⟨UT,hun,_,_⟩:=mw hb;obtain⟨_,_,_,_,⟨_,ep⟩,_⟩:=hr.dR b en _ Sm hbk;refine⟨.slice (some (if k=l then⟨en.cb,o+en.d,none⟩else(⟨en.cb,o+en.d,none⟩:Addr).add (l*es))) (u-l) (k-l),?_,⟨en,_,k-l,Sm,rfl,Om,?_,?_⟩,rfl⟩
 ·simp only[Instr.sliceAt,Zj,Zh hu,Y8,Instr.sureAddr,ZB,fS hlo hhi hb false k (Y9 _),cg hes]
 ·intro hpos;rw[Y6 Om,gO];simp only[Addr.mk.injEq,abt,and_true];omega
 ·have:k=l+(k-l):=Om
  rw[this,aba]at hle;omega
def qW{a f n}(hn:dS P f.type=some n)(hpos:0<n):(fieldPlace a f).run P w=.ok (a.add f.offset) w:=by
 have:n≠0:=Om
 simp[fieldPlace,cg hn,this]
def Hx{t:TypeId}{i n f x cx}(hfa:fieldAt P t i=some f)(hn:dS P f.type=some n)(hpos:0<n)(hx:VR m (ρ x) cx)(hf:dx (.aU f.offset x) ρ h=some (v,h')):
  ∃cv,(Instr.fieldAt t cx i).run P w=.ok cv w/\VR m v cv/\h' =h:=by
 unfold Abs.fieldAt at hfa;split at hfa
 case h_2=>cases hfa
 rename_i fs hu;simp only[dx]at hf;split at hf
 case h_2=>cases hf
 rename_i b o hρ;cases hf;rw[hρ]at hx;obtain⟨e,he,rfl⟩:=hx;refine⟨_,?_,⟨e,he,rfl⟩,rfl⟩;simp only[Instr.fieldAt,Zj,Zh hu,Y8,hfa,Instr.sureAddr,ZB,qW hn hpos,gO];rw[Nat.add_right_comm]
def Hv{t e:TypeId}{es x i cx ci}(hu:P.underlying t=some (.slice e))(hes:dS P e=some es)(hx:VR m (ρ x) cx)(hi:VR m (ρ i) ci)(hf:dx (.bD es x i) ρ h=some (v,h')):
  ∃cv,(Instr.indexAt t cx ci).run P w=.ok cv w/\VR m v cv/\h' =h:=by
 simp only[dx]at hf;split at hf
 case h_2=>cases hf
 rename_i b o n es' k j SF Ui;rw[SF]at hx;rw[Ui,VR]at hi;subst hi;obtain⟨en,ca,cap,Sm,rfl,R8,Sp,hroom⟩:=hx;split at hf
 case isFalse=>cases hf
 rename_i hc;obtain⟨rfl,h0,h1⟩:=hc;cases hf;refine⟨_,?_,⟨en,Sm,rfl⟩,rfl⟩;simp only[Instr.indexAt,asIntOf,Zj,ZB,Y8,Zh hu];rw[Zb ⟨h0,h1⟩];simp only[Zj,cg hes,Y8,ZB,Sp Om,gO];rw[Nat.add_right_comm]
def Hw{t e:TypeId}{len es x i cx ci}(hu:P.underlying t=some (.array len e))(hes:dS P e=some es)(hx:VR m (ρ x) cx)(hi:VR m (ρ i) ci)(hf:dx (.si len es x i) ρ h=some (v,h')):
  ∃cv,(Instr.indexAt t cx ci).run P w=.ok cv w/\VR m v cv/\h' =h:=by
 simp only[dx]at hf;split at hf
 case h_2=>cases hf
 rename_i b o k j SF Ui;rw[SF]at hx;rw[Ui,VR]at hi;subst hi;obtain⟨en,Sm,rfl⟩:=hx;split at hf
 case isFalse=>cases hf
 rename_i hc;obtain⟨h0,h1⟩:=hc;cases hf;refine⟨_,?_,⟨en,Sm,rfl⟩,rfl⟩;simp only[Instr.indexAt,asIntOf,Zj,ZB,Y8,Zh hu,Instr.sureAddr];rw[Zb ⟨h0,h1⟩];simp only[Zj,cg hes,Y8,ZB,gO];rw[Nat.add_right_comm]
def DO{t:TypeId}{i f n x cx}(hfa:fieldAt P t i=some f)(hn:AS P f.type=some n)(hx:VR m (ρ x) cx)(hf:dx (.part n f.offset x) ρ h=some (v,h')):
  ∃cv,(Instr.field t cx i).run P w=.ok cv w/\VR m v cv/\h' =h:=by
 unfold Abs.fieldAt at hfa;split at hfa
 case h_2=>cases hfa
 rename_i fs hu;simp only[dx]at hf;split at hf
 case h_2=>cases hf
 rename_i cs hρ;rw[hρ]at hx;obtain⟨l',rfl,hl⟩:=hx;obtain⟨cv,h1,h2,h3⟩:=BF (w:=w) hn hl (by cases n<;>exact hf);exact⟨cv,by simp only[Instr.field,Zj,Zh hu,Y8,hfa,asAgg,ZB,h1],h2,h3⟩
def KX{t e:TypeId}{len es n x i cx ci}(hu:P.underlying t=some (.array len e))(hes:dS P e=some es)(hn:AS P e=some n)(hx:VR m (ρ x) cx)(hi:VR m (ρ i) ci)
  (hf:dx (.Jv len es n x i) ρ h=some (v,h')):∃cv,(Instr.index t cx ci).run P w=.ok cv w/\VR m v cv/\h' =h:=by
 simp only[dx]at hf;split at hf
 case h_2=>cases hf
 rename_i cs k j SF Ui;rw[SF]at hx;rw[Ui,VR]at hi;subst hi;obtain⟨l',rfl,hl⟩:=hx;split at hf
 case isFalse=>cases hf
 rename_i hc;obtain⟨cv,h1,h2,h3⟩:=BF (w:=w) (off:=j.toNat*es) hn hl (by cases n<;>exact hf);refine⟨cv,?_,h2,h3⟩;simp only[Instr.index,asIntOf,Zj,ZB,Y8,Zh hu];rw[Zb hc];simp only[Zj,cg hes,Y8,h1]
def KW{t:TypeId}{x i cx ci}(hu:P.underlying t=some .string)(hx:VR m (ρ x) cx)(hi:VR m (ρ i) ci)
  (hf:dx (.Dp x i) ρ h=some (v,h')):∃cv,(Instr.index t cx ci).run P w=.ok cv w/\VR m v cv/\h' =h:=by
 simp only[dx]at hf;split at hf
 case h_2=>cases hf
 rename_i s k j SF Ui;rw[SF,VR]at hx;rw[Ui,VR]at hi;subst hi;subst hx;split at hf
 case isFalse=>cases hf
 rename_i h0;split at hf
 case h_2=>cases hf
 rename_i b hb;cases hf;refine⟨.int .u8 b.toNat,?_,rfl,rfl⟩;have hb':(⟨⟨s⟩⟩:ByteArray)[j.toNat]? =some b:=by
  show(if h:j.toNat<s.length then some (s[j.toNat])else none)=some b;obtain⟨hlt,he⟩:=YQ.1 hb;rw[dif_pos hlt,he]
 simp only[Instr.index,asIntOf,Zj,ZB,Y8,Zh hu,Zb h0,hb']
end
def ak.isObj:ak->Bool
 |.bf _=>true
 |.iter _ _=>true
 |.loop _ _ _ _ _ _=>true
 |_=>false
section
variable {P:Program}{m:b9}{h h':ah}{w:World}{ρ:cX->AV}{v:AV}
def jZ(hr:HR P m h w){b e k k' o}(he:m b=some e)(hb:h[b]? =some k)(hk:k.isObj=true)(hk':k'.isObj=true\/k' =.dead)
  (hnew:BR P m (w.putObj e.cb o) e k'):HR P m (h.set b k') (w.putObj e.cb o)/\Grow m h w m (h.set b k') (w.putObj e.cb o):=by
 have hbl:b<h.length:=hr.cK _ _ he;have VA:k.live=true:=by cases k<;>first|rfl|cases hk
 have hown:e.own=true:=by
  have:=hr.dR b e k he hb;cases k<;>first|exact this.1|(cases hk;done)
 have hother:∀i,i≠e.cb->(w.putObj e.cb o).heap[i]? =w.heap[i]? :=λi hi=>World.putObj_heap_other hi
 have hsep:∀b' e' k2,b'≠b->m b' =some e'->h[b']? =some k2->k2.live=true->e'.cb≠e.cb:=by
  intro b' e' k2 hne SM RJ hl hcb;have:=hr.sep b' b e' e k2 k hne SM he RJ hb hcb;cases k<;>cases k2<;>first|exact this|(cases hk;done)|(cases hl;done)
 refine⟨⟨?_,?_,?_,hr.fX,λb' e' hb'=>by simpa using hr.lt b' e' hb'⟩,⟨λ_ _=>rfl,Si,?_,?_,Si,rfl,rfl,rfl,?_⟩⟩
 ·intro b' e' hb';simpa using hr.cK b' e' hb'
 ·intro b' e' k2 SM RJ;rw[bG h b b' _ hbl]at RJ;by_cases hbb:b' =b
  ·subst hbb;rw[Zb rfl]at RJ;cases RJ;rw[he]at SM;cases SM;exact hnew
  ·rw[Y6 hbb]at RJ;have h0:=hr.dR b' e' k2 SM RJ;by_cases hl:k2.live=true
   ·exact h0.heap (hother _ (hsep b' e' k2 hbb SM RJ hl))
   ·exact G2
 ·intro b1 b2 e1 e2 k1 k2 hne Tf RS hk1 RJ hcb;rw[bG h b _ _ hbl]at hk1 RJ;by_cases Sf:b1=b
  ·subst Sf;rw[Zb rfl]at hk1;cases hk1;rw[Y6 (λx=>hne x.symm)]at RJ;rw[he]at Tf;cases Tf;by_cases hl:k2.live=true
   ·exact absurd hcb.symm (hsep b2 e2 k2 (λx=>hne x.symm) RS RJ hl)
   ·cases k2<;>first|(cases k'<;>trivial)|exact absurd rfl hl
  ·rw[Y6 Sf]at hk1;by_cases Su:b2=b
   ·subst Su;rw[Zb rfl]at RJ;cases RJ;rw[he]at RS;cases RS;by_cases hl:k1.live=true
    ·exact absurd hcb (hsep b1 e1 k1 hne Tf hk1 hl)
    ·cases k1<;>first|trivial|exact absurd rfl hl
   ·exact M5
 ·intro b' e' hb' SM;exact absurd (hr.cK _ _ SM) Om
 ·intro b' hb' ht;unfold ez at ht ⊢;rw[bG h b b' _ hbl]at ht;by_cases hbb:b' =b
  ·subst hbb;rw[Zb rfl]at ht;rcases hk' with hk'|hk'
   ·cases k'<;>first|(cases hk';done)|(cases ht;done)
   ·subst hk';cases ht
  ·exact z171
 ·intro i hi hno;exact hother i (λhcb=>hno b e he hown hcb.symm)
def kB{r o}(ho:w.heap[r]? =some o)(hc:o.isCells=false):(getObj r).run P w=.ok o w:=by
 cases o<;>first|(cases hc;done)|simp[getObj,Sem.run,ho]
def mZ{r o o'}(ho:w.heap[r]? =some o)(hc:o.isCells=false):(setObj r o').run P w=.ok () (w.putObj r o'):=by
 cases o<;>first|(cases hc;done)|simp[setObj,Sem.run,ho,World.putObj]
def Hq{t:TypeId}{x cx}(hu:P.underlying t=some .string)(hr:HR P m h w)(hx:VR m (ρ x) cx)(hf:dx (.BJ x) ρ h=some (v,h')):
  ∃cv w' m',(Instr.range t cx).run P w=.ok cv w'/\VR m' v cv/\HR P m' h' w'/\Grow m h w m' h' w':=by
 simp only[dx]at hf;split at hf
 case h_2=>cases hf
 rename_i s hρ;rw[hρ,VR]at hx;subst hx;cases hf;have XJ:=ki hr (.stringIter ⟨⟨s⟩⟩ 0) (.iter s 0) ⟨w.heap.size,0,0,true⟩ rfl rfl (λm' _=>⟨rfl,rfl,World.alloc_heap_new w _⟩);exact⟨.pointer (some ⟨w.heap.size,0,none⟩),_,_,by simp[Instr.range,Zh hu],⟨⟨w.heap.size,0,0,true⟩,by simp[b9.add],rfl⟩,XJ.1,XJ.2⟩
def DP{t:TypeId}{x cx}(hr:HR P m h w)(hx:VR m (ρ x) cx)(hf:dx (.rl x) ρ h=some (v,h')):
  ∃cv w' m',(Instr.next cx true t).run P w=.ok cv w'/\VR m' v cv/\HR P m' h' w'/\Grow m h w m' h' w':=by
 simp only[dx]at hf;split at hf
 case h_2=>cases hf
 rename_i b hρ;rw[hρ]at hx;obtain⟨e,he,rfl⟩:=hx;split at hf
 case h_2=>cases hf
 rename_i s pos hb;obtain⟨hown,hd0,hheap⟩:=hr.dR b e _ he hb;have hg:=kB (P:=P) hheap rfl;have ep:(⟨⟨s⟩⟩:ByteArray).size=s.length:=rfl;split at hf
 ·rename_i hlt;cases hf;have hbl:e.cb<w.heap.size:=(Ze.1 hheap).1;obtain⟨h1,h2⟩:=jZ hr he hb rfl (k':=.iter s (pos+(Utf8.decode ⟨⟨s⟩⟩ pos).2)) (o:=.stringIter ⟨⟨s⟩⟩ (pos+(Utf8.decode ⟨⟨s⟩⟩ pos).2)) (.inl rfl) ⟨hown,hd0,World.putObj_heap_same hbl⟩;refine⟨.tuple #[.bool true,goInt pos,.int .i32 (Utf8.decode ⟨⟨s⟩⟩ pos).1],_,m,?_,⟨_,rfl,?_⟩,h1,h2⟩
  ·simp[Instr.next,hd0,hg,ep,hlt,mZ hheap rfl]
  ·exact⟨_,_,rfl,rfl,_,_,rfl,rfl,_,_,rfl,rfl,rfl⟩
 ·rename_i hlt;cases hf;refine⟨.tuple #[.bool false],w,m,?_,⟨_,rfl,_,_,rfl,rfl,rfl⟩,hr,Grow.refl m h w hr.cK⟩;simp[Instr.next,hd0,hg,ep,hlt]
def zY(kk:CK)(d:TypeDesc):Prop:=
 match kk with
 |.b=>d=.bool
 |.i=>∃i,d=.int i
 |.s=>d=.string
def tt{t:TypeId}{kk}(hk:xW P t=some kk):∃d,P.underlying t=some d/\zY kk d:=by
 unfold xW at hk;split at hk
 ·rename_i k hu;cases hk;exact⟨_,hu,k,rfl⟩
 ·rename_i hu;cases hk;exact⟨_,hu,rfl⟩
 ·rename_i hu;cases hk;exact⟨_,hu,rfl⟩
 ·cases hk
def yZ{kk}{d:TypeDesc}(hd:zY kk d){k k' ck ck' b}(hk:VR m k ck)(hk':VR m k' ck')(he:cV kk k k' =some b):
  Instr.sameNow d ck ck' =some b:=by
 unfold cV at he;split at he
 ·rw[VR]at hk hk';subst hk;subst hk';cases hd;cases he;rfl
 ·split at he
  ·rename_i hkk;rw[VR]at hk hk';subst hk;subst hk';subst hkk;obtain⟨i,rfl⟩:=hd;cases he;simp[Instr.sameNow]
  ·cases he
 ·rw[VR]at hk hk';subst hk;subst hk';cases hd;cases he;simp[Instr.sameNow,toList_mk,beq_toListBytes]
 ·cases he
def mG(m:b9):List (AV×AV)->List MapEntry->Prop
 |[],l=>l=[]
 |p::r,l=>∃q s,l=q::s/\VR m p.1 q.key/\VR m p.2 q.val/\mG m r s
theorem mG.iA:∀{es}{l},l.length=es.length->(∀(i:Nat) (p:AV×AV),es[i]? =some p->∃q,l[i]? =some q/\VR m p.1 q.key/\VR m p.2 q.val)->mG m es l
 |[],l,hl,_=>ZZ.1 (by simpa using hl)
 |p::r,[],hl,_=>by simp at hl
 |p::r,q::s,hl,h=>by
  obtain⟨q',hq,h1,h2⟩:=h 0 p Si;simp at hq;subst hq;exact⟨q,s,rfl,h1,h2,mG.iA (by simpa using hl) λi p hp=>by simpa using h (i+1) p (by simpa using hp)⟩
theorem mG.get:∀{es}{l},mG m es l->l.length=es.length/\∀(i:Nat) (p:AV×AV),es[i]? =some p->∃q,l[i]? =some q/\VR m p.1 q.key/\VR m p.2 q.val
 |[],l,h=>by cases h;exact⟨rfl,λi p hp=>by simp at hp⟩
 |p::r,l,h=>by
  obtain⟨q,s,rfl,h1,h2,h3⟩:=h;obtain⟨hl,hg⟩:=mG.get h3;refine⟨by simp[hl],λi p' hp=>?_⟩;cases i with
  |zero=>simp at hp;subst hp;exact⟨q,Si,h1,h2⟩
  |succ i=>simpa using hg i p' (by simpa using hp)
theorem rF{kk}{d:TypeDesc}(hd:zY kk d){k ck}(hk:VR m k ck):∀{es}{l}{r}(i:Nat),mG m es l->gY kk k es=some r->
  ∃cr,Instr.findNow d ck l i=some cr/\(match r,cr with|none,none=>True|some v,some (_,cv)=>VR m v cv|_,_=>False)
 |[],l,r,i,h,hf=>by cases h;cases hf;exact⟨none,rfl,trivial⟩
 |(a,v)::es,l,r,i,h,hf=>by
  obtain⟨q,s,rfl,h1,h2,h3⟩:=h;simp only[gY]at hf;cases he:cV kk k a with
  |none=>simp[he]at hf
  |some b=>
   have hs:=yZ hd hk h1 he;cases b with
   |true=>
    simp[he]at hf;subst hf;exact⟨some (i,q.val),by simp[Instr.findNow,hs],h2⟩
   |false=>
    simp only[he]at hf;obtain⟨cr,hcr,hm⟩:=rF hd hk (i+1) h3 hf;exact⟨cr,by simp[Instr.findNow,hs,hcr],hm⟩
def rZ{t:TypeId}{d:TypeDesc}{kk}(hu:P.underlying t=some d)(hd:zY kk d)(b:Bool)(v:Value)(n:Nat):(Instr.checkKey b (n+1) t v).run P w=.ok () w:=by
 cases kk with
 |b=>cases hd;cases v<;>simp[Instr.checkKey,Zh hu]
 |i=>obtain⟨i,rfl⟩:=hd;cases v<;>simp[Instr.checkKey,Zh hu]
 |s=>cases hd;cases v<;>simp[Instr.checkKey,Zh hu]
def run_checkKey{t:TypeId}{d:TypeDesc}{kk}(hu:P.underlying t=some d)(hd:zY kk d)(b:Bool)(v:Value):(Instr.checkKey b 10000 t v).run P w=.ok () w:=rZ hu hd b v 9999
def Hu{t kt e:TypeId}{kk z ok x k cx ck}(hu:P.underlying t=some (.map kt e))(hkk:xW P kt=some kk)(hz:jF P e=some z)(hr:HR P m h w)(hx:VR m (ρ x) cx)(hk:VR m (ρ k) ck)
  (hf:dx (.look kk z ok x k) ρ h=some (v,h')):∃cv,(Instr.lookup t cx ck ok).run P w=.ok cv w/\VR m v cv/\h' =h:=by
 obtain⟨d,hud,hd⟩:=tt hkk;obtain⟨cz,Uv,U5⟩:=jU hz w m;simp only[dx]at hf;split at hf
 ·rename_i hρ;rw[hρ,VR]at hx;subst hx;cases hf;refine⟨if ok then .tuple #[cz,.bool false]else cz,?_,?_,rfl⟩
  ·simp only[Instr.lookup,Zj,Zh hu,Y8,ZB,run_checkKey hud hd,Instr.findKey,Zh hud];simp[Instr.findNow,Uv]
  ·exact J5
 ·rename_i r hρ;rw[hρ]at hx;obtain⟨en,Sm,rfl⟩:=hx;split at hf
  case h_2=>cases hf
  rename_i es hb;obtain⟨_,TV,clock,hheap,hlen,RP⟩:=hr.dR r en _ Sm hb;have SZ:mG m es TV.toList:=mG.iA (by simpa using hlen) (λi p hp=>by obtain⟨q,hq,h1,h2⟩:=RP i p hp;exact⟨q,by simpa using hq,h1,h2⟩);have hg:=kB (P:=P) hheap rfl;split at hf
  ·rename_i u T8;cases hf;obtain⟨cr,hcr,hm⟩:=rF hd hk 0 SZ T8;cases cr with
   |none=>exact hm.elim
   |some p=>
    obtain⟨i,cu⟩:=p;refine⟨if ok then .tuple #[cu,.bool true]else cu,?_,?_,rfl⟩
    ·simp only[Instr.lookup,Zj,Zh hu,Y8,hg,ZB,run_checkKey hud hd,Instr.findKey,Zh hud,hcr]
    ·cases ok
     ·exact hm
     ·exact⟨_,rfl,_,_,rfl,hm,_,_,rfl,rfl,rfl⟩
  ·rename_i T8;cases hf;obtain⟨cr,hcr,hm⟩:=rF hd hk 0 SZ T8;cases cr with
   |some p=>exact hm.elim
   |none=>
    refine⟨if ok then .tuple #[cz,.bool false]else cz,?_,?_,rfl⟩
    ·simp only[Instr.lookup,Zj,Zh hu,Y8,hg,ZB,run_checkKey hud hd,Instr.findKey,Zh hud,hcr,Uv]
    ·exact J5
  ·cases hf
 ·cases hf
theorem VR.sameBits{kk k k' ck ck'}(hk:VR m k ck)(hk':VR m k' ck')(he:cV kk k k' =some true)(n:Nat):Instr.sameBits n ck' ck=true:=by
 unfold cV at he;split at he
 ·rw[VR]at hk hk';subst hk;subst hk';simp at he;simp[Instr.sameBits,he]
 ·split at he
  ·rename_i hkk;rw[VR]at hk hk';subst hk;subst hk';subst hkk;simp at he;simp[Instr.sameBits,he]
  ·cases he
 ·rw[VR]at hk hk';subst hk;subst hk';simp at he;subst he;simp[Instr.sameBits,beq_toListBytes]
 ·cases he
theorem yz{kk}{d:TypeDesc}(hd:zY kk d){k x ck cx}(hk:VR m k ck)(hx:VR m x cx)(clock:Nat):∀{es es'}{l}(i:Nat),mG m es l->mC kk k x es=some es'->
  (∃j q,Instr.findNow d ck l i=some (some (i+j,q.val))/\l[j]? =some q/\Instr.sameBits 10000 q.key ck=true/\mG m es' (l.set j {q with key:=ck,val:=cx}))\/
  (Instr.findNow d ck l i=some none/\mG m es' (l++[{key:=ck,val:=cx,born:=clock}]))
 |[],es',l,i,h,hf=>by cases h;cases hf;exact .inr ⟨rfl,_,_,rfl,hk,hx,rfl⟩
 |(a,u)::es,es',l,i,h,hf=>by
  obtain⟨q,s,rfl,h1,h2,h3⟩:=h;simp only[mC]at hf;cases he:cV kk k a with
  |none=>simp[he]at hf
  |some b=>
   have hs:=yZ hd hk h1 he;cases b with
   |true=>
    simp[he]at hf;subst hf;exact .inl ⟨0,q,by simp[Instr.findNow,hs],Si,VR.sameBits hk h1 he 10000,_,_,rfl,hk,hx,h3⟩
   |false=>
    simp only[he,Zk]at hf;obtain⟨es2,hes2,rfl⟩:=hf;rcases yz hd hk hx clock (i+1) h3 hes2 with⟨j,q',hj,Xy,hb,hr⟩|⟨hj,hr⟩
    ·exact .inl ⟨j+1,q',by simp[Instr.findNow,hs,hj];omega,by simpa using Xy,hb,_,_,rfl,h1,h2,hr⟩
    ·exact .inr ⟨by simp[Instr.findNow,hs,hj],_,_,rfl,h1,h2,hr⟩
def Hr{t kt e:TypeId}{kk x k u cx ck cu}(hu:P.underlying t=some (.map kt e))(hkk:xW P kt=some kk)(hr:HR P m h w)(hx:VR m (ρ x) cx)(hk:VR m (ρ k) ck)(hv:VR m (ρ u) cu)
  (hf:dx (.fE kk x k u) ρ h=some (v,h')):∃w',(Instr.mapUpdate t cx ck cu).run P w=.ok () w'/\v=az/\HR P m h' w'/\Grow m h w m h' w':=by
 obtain⟨d,hud,hd⟩:=tt hkk;simp only[dx]at hf;split at hf
 case h_2=>cases hf
 rename_i r hρ;rw[hρ]at hx;obtain⟨en,Sm,rfl⟩:=hx;split at hf
 case h_2=>cases hf
 rename_i es hb;split at hf
 case h_2=>cases hf
 rename_i es' hupd;cases hf;obtain⟨hown,TV,clock,hheap,hlen,RP⟩:=hr.dR r en _ Sm hb;have SZ:mG m es TV.toList:=mG.iA (by simpa using hlen) (λi p hp=>by obtain⟨q,hq,h1,h2⟩:=RP i p hp;exact⟨q,by simpa using hq,h1,h2⟩);have hg:=kB (P:=P) hheap rfl;have hbl:en.cb<w.heap.size:=(Ze.1 hheap).1;have done:∀(ces':Array MapEntry) (c:Nat),mG m es' ces'.toList->HR P m (h.set r (.bf es')) (w.putObj en.cb (.map ces' c))/\Grow m h w m (h.set r (.bf es')) (w.putObj en.cb (.map ces' c)):=by
  intro ces' c T9;obtain⟨RT,R6⟩:=T9.get;exact jZ hr Sm hb rfl (.inl rfl) ⟨hown,ces',c,World.putObj_heap_same hbl,by simpa using RT,λi p hp=>by obtain⟨q,hq,h1,h2⟩:=R6 i p hp;exact⟨q,by simpa using hq,h1,h2⟩⟩
 rcases yz hd hk hv clock 0 SZ hupd with⟨j,q,hj,hq,hbits,T9⟩|⟨hj,T9⟩
 ·have Xy:TV[j]? =some q:=by simpa using hq
  obtain⟨h1,h2⟩:=done (TV.modify j λe=>{e with key:=ck,val:=cu}) clock (by
   have:(TV.modify j λe=>{e with key:=ck,val:=cu}).toList=TV.toList.set j {q with key:=ck,val:=cu}:=by
    apply abd
    intro i;rw[aap,Array.getElem?_modify,List.getElem?_set];by_cases hij:j=i
    ·subst hij;obtain⟨hlt,heq⟩:=Ze.1 Xy;simp[Xy,hlt,heq]
    ·simp[hij]
   rw[this];exact T9)
  refine⟨_,?_,rfl,h1,h2⟩;simp only[Instr.mapUpdate,Zj,Zh hu,Y8,hg,run_checkKey hud hd,Instr.findKey,Zh hud,hj,ZB,ZN,Xy,aaO,aa6,Instr.keyThatStays,hbits,Zi,mZ hheap rfl]
 ·obtain⟨h1,h2⟩:=done (TV.push {key:=ck,val:=cu,born:=clock}) (clock+1) (by simpa using T9);refine⟨_,?_,rfl,h1,h2⟩;simp only[Instr.mapUpdate,Zj,Zh hu,Y8,hg,run_checkKey hud hd,Instr.findKey,Zh hud,hj,ZB,mZ hheap rfl]
end
section
variable {P:Program}{m:b9}{h h':ah}{w:World}{ρ:cX->AV}{v:AV}
theorem ng(m:b9):∀(s:By),cI m (s.map λb=>AV.int .u8 b.toNat) (s.map λb=>Value.int .u8 b.toNat)
 |[]=>bE.2 rfl
 |b::s=>aO.2 ⟨_,_,rfl,rfl,ng m s⟩
def rr(s:By):(s.map λb=>AV.int .u8 b.toNat).all AV.one=true:=by
 rw[Zy];intro x hx;simp only[Zv]at hx;obtain⟨b,_,rfl⟩:=hx;rfl
def cL{es y cy ys k}(hr:HR P m h w)(hy:VR m y cy)(hc:cellsIn es h y=some (ys,k)):
  (Builtin.lenOf cy).run P w=.ok k w/\ys.length=k*es/\ys.all AV.one=true/\
   ∀n,n<=k->∃vs,(Builtin.firstCells es n cy).run P w=.ok ⟨vs⟩ w/\cI m (ys.take (n*es)) vs:=by
 unfold cellsIn at hc;split at hc
 ·rw[VR]at hy;subst hy;cases hc;exact⟨rfl,Si,rfl,λn hn=>⟨[],by simp[Builtin.firstCells],by simp[bE]⟩⟩
 ·rename_i b o n es';obtain⟨e,ca,cap,he,rfl,R8,Sp,hroom⟩:=hy;split at hc
  case isFalse=>cases hc
  rename_i hes;subst hes;split at hc
  case h_2=>cases hc
  rename_i c mu tl hb;split at hc
  case isFalse=>cases hc
  rename_i hle;cases hc;obtain⟨_,_,_,hone⟩:=nh hr he hb o (k*es') hle;refine⟨rfl,by simp;omega,hone,λn hn=>?_⟩;have hmul:n*es'<=k*es':=Z3 _ hn;by_cases h0:cap=0
  ·have hk0:k=0:=Om
   have Wc:n=0:=Om
   subst Wc;exact⟨[],by simp[Builtin.firstCells,loadCells,loadCellsFrom],by simp[bE]⟩
  ·rw[Sp Om];obtain⟨vs,RL,SH,_⟩:=nh hr he hb o (n*es') Om;refine⟨vs,by simp[Builtin.firstCells,RL],?_⟩;rw[List.take_take,aaL hmul];exact SH
 ·rename_i s;rw[VR]at hy;subst hy;split at hc
  case isFalse=>cases hc
  rename_i hes;subst hes;cases hc;refine⟨rfl,Si,rr s,λn hn=>⟨(s.take n).map λb=>Value.int .u8 b.toNat,?_,?_⟩⟩
  ·simp only[Builtin.firstCells,ZB,extract_mk];simp
  ·rw[aa3,<-List.map_take];exact ng m _
 ·cases hc
theorem sP{cb}{el:TypeId}{fz}:∀(vs:List Value) (p j:Nat) (cc:Array Value) (w:World),w.heap[cb]? =some (.cells cc el fz)->p+j+vs.length<=cc.size->
  (∀i,i<cc.size->¬(fz.1<=i/\i<fz.2))->(∀v∈vs,v.oneCell' =true)->
  ∃w' Sr,(storeCells ⟨cb,p,none⟩ vs j).run P w=.ok () w'/\w'.heap[cb]? =some (.cells Sr el fz)/\Sr.size=cc.size/\
   (∀i,Sr[i]? =if p+j<=i/\i<p+j+vs.length then vs[i-(p+j)]? else cc[i]?)/\(∀k,k≠cb->w'.heap[k]? =w.heap[k]?)/\w'.heap.size=w.heap.size/\w'.os=w.os/\w'.output=w.output/\w'.tape=w.tape
 |[],p,j,cc,w,hw,_,_,_=>⟨w,cc,rfl,hw,rfl,λi=>by simp;omega,λ_ _=>rfl,rfl,rfl,rfl,rfl⟩
 |v::vs,p,j,cc,w,hw,hlen,hfz,hone=>by
  simp only[YV]at hlen;have SD:w.cell? ⟨cb,p+j,none⟩=some (cc[p+j]'Om):=by simp only[World.cell?,hw];exact ZO Om
  have hfr:w.frozen? ⟨cb,p+j,none⟩=false:=od hw (hfz _ Om);have Vr:=heap_setCell_same (i:=p+j) hw v;have TD:(cc.setIfInBounds (p+j) v).size=cc.size:=Si
  obtain⟨w',Sr,h1,h2,h3,h4,h5,h6,h7,h8,h9⟩:=sP vs p (j+1) (cc.setIfInBounds (p+j) v) (w.setCell ⟨cb,p+j,none⟩ v) Vr (by rw[TD];omega) (by rw[TD];exact hfz) (λu hu=>hone u (ZG _ hu));refine⟨w',Sr,?_,h2,Om,?_,?_,by simpa using h6,h7,h8,h9⟩
  ·simp only[storeCells,Zj];rw[gO,run_store P w _ v .plain (hone v (ZS ..)),SD];simp only[hfr,ZM,Zf,Y8];exact h1
  ·intro i;rw[h4 i];by_cases hi:i=p+j
   ·subst hi;rw[Y6 Om,Zb (by simp only[YV];omega)];rw[aae Om];simp
   ·rw[aaB (λx=>hi x.symm)];by_cases hin:p+(j+1)<=i/\i<p+(j+1)+vs.length
    ·rw[Zb hin,Zb (by simp only[YV];omega)];rw[show i-(p+j)=(i-(p+(j+1)))+1 from by omega];simp
    ·rw[Y6 hin,Y6 (by simp only[YV];omega)]
  ·intro k hk;rw[h5 k hk];exact Go.RowKit.Below.heap_setCell w _ v k hk
def Ef(need cap:Nat)(hc:cap<need):Builtin.nextslicecap need cap<=2*need+192:=by
 unfold Builtin.nextslicecap;split
 ·omega
 ·split
  ·omega
  ·have grow:∀(r c:Nat),c<need+(need+768) / 4->Builtin.growBy need r c<=need+(need+768) / 4:=by
    intro r
    induction r with
    |zero=>intro c Vb;simp only[Builtin.growBy];omega
    |succ r ih=>
     intro c Vb;simp only[Builtin.growBy];split
     ·omega
     ·rename_i hlt;have h1:c<need:=Om
      by_cases hh:c+(c+768) / 4<need+(need+768) / 4
      ·exact ih _ hh
      ·have:c+(c+768) / 4<=need+(need+768) / 4:=Om
       have e:c+(c+768) / 4=need+(need+768) / 4:=Om
       rw[e];cases r with
       |zero=>simp[Builtin.growBy]
       |succ r=>simp only[Builtin.growBy];rw[Zb Om];exact Y9 _
   have:=grow 4 cap Om;omega
theorem cI.vz:∀{l}{vs},cI m l vs->l.all AV.one=true->∀v∈vs,v.oneCell' =true
 |[],vs,h,_,v,hv=>by rw[bE]at h;subst h;cases hv
 |x::xs,vs,h,h1,v,hv=>by
  obtain⟨y,ys,rfl,hy,hys⟩:=aO.1 h;simp only[aau,Zx]at h1;rcases ZC.1 hv with rfl|hv
  ·exact hy.tX h1.1
  ·exact cI.vz hys h1.2 v hv
def rD(hr:HR P m h w){b o q e c ys mu mu' k0}(he:m b=some e)(hb:h[b]? =some (.cells c mu true))(hoq:o+q<=c.length)
  (hk0:(k0=.cells c false false/\o+q=c.length/\mu' =false)\/(k0=.dead/\mu=true)) {vs}(hys:cI m ys vs) (h1:ys.all AV.one=true) (hroom:o+q+e.d+ys.length<=e.sz) (j:Nat):
  ∃w' m',(storeCells ⟨e.cb,o+e.d+q,none⟩ vs 0).run P w=.ok () w'/\m' h.length=some ⟨e.cb,e.d+o,e.sz,true⟩/\
   HR P m' (h.set b k0++[.cells ((c.drop o).take q++ys) mu' true]) w'/\Grow m h w m' (h.set b k0++[.cells ((c.drop o).take q++ys) mu' true]) w':=by
 have _:=j;obtain⟨cc,el,fz,hw,⟨hle,hle'⟩,RP,hown,hmt⟩:=hr.dR b e _ he hb;have ho:e.own=true:=(hmt (.inr rfl)).1;obtain⟨ep,hfz⟩:=hown ho;have hlv:=hys.length;obtain⟨w',Sr,RL,hw',R0,hcc',hoth,WW,hos,hout,htape⟩:=sP (P:=P) vs (o+e.d+q) 0 cc w hw Om hfz (hys.vz h1);have hbl:b<h.length:=hr.cK _ _ he
 let e':sK:=⟨e.cb,e.d+o,e.sz,true⟩
 have SO:m h.length=none:=by
  exact z53
 have Up:m.le (m.add h.length e'):=b9.rQ e' SO;have hlen:(h.set b k0).length=h.length:=Si
 have Vq:∀b2 e2 k2,b2≠b->m b2=some e2->h[b2]? =some k2->k2.live=true->e2.cb=e.cb->mu=false/\∃c2,k2=.cells c2 false false/\e2.d+c2.length<=e.d+c.length:=by
  intro b2 e2 k2 hne RS RJ hl hcb;have:=hr.sep b b2 e e2 _ k2 (λx=>hne x.symm) he RS hb RJ hcb.symm;cases k2 with
  |cells c2 mu2 tl2=>
   obtain⟨Ty,We,ht⟩:=this;obtain⟨ht2,TP⟩:=ht rfl;subst We;subst ht2;exact⟨Ty,c2,rfl,TP⟩
  |dead=>cases hl
  |bf _=>exact this.elim
  |iter _ _=>exact this.elim
  |loop _ _ _ _ _ _=>exact this.elim
 have XC:∀i,i<e.d+o+q->Sr[i]? =cc[i]? :=by
  intro i hi;rw[hcc' i,Y6 Om]
 have hnew:BR P (m.add h.length e') w' e' (.cells ((c.drop o).take q++ys) mu' true):=by
  refine⟨Sr,el,fz,hw',⟨?_,?_,(by rw[R0,ep])⟩,?_,λ_=>⟨by rw[R0,ep],λi hi=>hfz i Om⟩,λ_=>⟨rfl,λx=>by cases x⟩⟩
  ·show e.d+o+((c.drop o).take q++ys).length<=Sr.size;simp;omega
  ·show e.d+o+((c.drop o).take q++ys).length<=e.sz;simp;omega
  ·intro i x hx;by_cases hi:i<q
   ·rw[YT (by simp;omega),aaY hi,aa9]at hx;obtain⟨hone,v,hv,RK⟩:=RP (o+i) x hx;refine⟨hone,v,?_,VR.mono Up _ _ RK⟩;show Sr[e.d+o+i]? =some v;rw[XC _ Om,show e.d+o+i=e.d+(o+i)from by omega];exact hv
   ·have U7:((c.drop o).take q).length=q:=by simp;omega
    rw[Y7 Om,U7]at hx;obtain⟨v,hv,RK⟩:=hys.get hx;have hlt:i-q<ys.length:=(YQ.1 hx).1;refine⟨Zy.1 h1 x (ZT hx),v,?_,VR.mono Up _ _ RK⟩;show Sr[e.d+o+i]? =some v;rw[hcc',Zb Om,show e.d+o+i-(o+e.d+q+0)=i-q from by omega];exact hv
 have hbr0:∀b2 e2 k2,m b2=some e2->(h.set b k0)[b2]? =some k2->BR P (m.add h.length e') w' e2 k2:=by
  intro b2 e2 k2 RS RJ;rw[bG h b b2 _ hbl]at RJ;by_cases hbb:b2=b
  ·subst hbb;rw[Zb rfl]at RJ;cases RJ;rw[he]at RS;cases RS;rcases hk0 with⟨rfl,hcl,_⟩|⟨rfl,_⟩
   ·refine⟨Sr,el,fz,hw',⟨Om,Om⟩,?_,λ_=>⟨by rw[R0,ep],λi hi=>hfz i Om⟩,λx=>by rcases x with x|x<;>cases x⟩;intro i x hx;obtain⟨hone,v,hv,RK⟩:=RP i x hx;have hi:i<c.length:=(YQ.1 hx).1;exact J4
   ·trivial
  ·rw[Y6 hbb]at RJ;have h0:=hr.dR b2 e2 k2 RS RJ;by_cases hl:k2.live=true
   ·by_cases hcb:e2.cb=e.cb
    ·obtain⟨hmf,c2,rfl,TP⟩:=Vq b2 e2 k2 hbb RS RJ hl hcb;rcases hk0 with⟨_,hcl,_⟩|⟨_,Vw⟩
     ·obtain⟨cc2,el2,fz2,hw2,⟨hle2a,hle2b⟩,hget2,hown2,hmt2⟩:=h0;rw[hcb,hw]at hw2;cases hw2;refine⟨Sr,el,fz,by rw[hcb];exact hw',⟨Om,Om⟩,?_,λho2=>by have:=hown2 ho2;exact⟨Om,λi hi=>this.2 i Om⟩,hmt2⟩;intro i x hx;obtain⟨hone,v,hv,RK⟩:=hget2 i x hx;have hi:i<c2.length:=(YQ.1 hx).1;exact J4
     ·rw[hmf]at Vw;cases Vw
    ·exact(h0.mono Up).heap (hoth _ hcb)
   ·exact G2
 have hget0:∀b2 k2,b2<h.length->(h.set b k0++[.cells ((c.drop o).take q++ys) mu' true])[b2]? =some k2->(h.set b k0)[b2]? =some k2:=by
  intro b2 k2 hlt RJ
  rwa [YT Om]at RJ
 have hsep1:∀b2 e2 k2,m b2=some e2->(h.set b k0)[b2]? =some k2->e2.cb=e.cb->pO e' e2 (.cells ((c.drop o).take q++ys) mu' true) k2/\pO e2 e' k2 (.cells ((c.drop o).take q++ys) mu' true):=by
  intro b2 e2 k2 RS RJ hcb;rw[bG h b b2 _ hbl]at RJ;by_cases hbb:b2=b
  ·subst hbb;rw[Zb rfl]at RJ;cases RJ;rw[he]at RS;cases RS;rcases hk0 with⟨rfl,hcl,rfl⟩|⟨rfl,_⟩
   ·refine⟨⟨rfl,rfl,λ_=>⟨rfl,?_⟩⟩,⟨rfl,rfl,λx=>by cases x⟩⟩;show e.d+c.length<=e.d+o+((c.drop o).take q++ys).length;simp;omega
   ·exact⟨trivial,trivial⟩
  ·rw[Y6 hbb]at RJ;by_cases hl:k2.live=true
   ·obtain⟨hmf,c2,rfl,TP⟩:=Vq b2 e2 k2 hbb RS RJ hl hcb;rcases hk0 with⟨_,hcl,rfl⟩|⟨_,Vw⟩
    ·refine⟨⟨rfl,rfl,λ_=>⟨rfl,?_⟩⟩,⟨rfl,rfl,λx=>by cases x⟩⟩;show e2.d+c2.length<=e.d+o+((c.drop o).take q++ys).length;simp;omega
    ·rw[hmf]at Vw;cases Vw
   ·cases k2<;>first|exact⟨trivial,trivial⟩|exact absurd rfl hl
 have hsep2:∀b1 b2 e1 e2 k1 k2,b1≠b2->m b1=some e1->m b2=some e2->(h.set b k0)[b1]? =some k1->(h.set b k0)[b2]? =some k2->e1.cb=e2.cb->pO e1 e2 k1 k2:=by
  intro b1 b2 e1 e2 k1 k2 hne Tf RS hk1 RJ hcb;rw[bG h b _ _ hbl]at hk1 RJ;by_cases Sf:b1=b
  ·subst Sf;rw[Zb rfl]at hk1;cases hk1;rw[Y6 (λx=>hne x.symm)]at RJ;have:=hr.sep b1 b2 e1 e2 _ k2 hne Tf RS hb RJ hcb;rcases hk0 with⟨rfl,_⟩|⟨rfl,_⟩
   ·cases k2<;>first|exact⟨rfl,this.2.1,λx=>by cases x⟩|trivial|exact this
   ·trivial
  ·rw[Y6 Sf]at hk1;by_cases Su:b2=b
   ·subst Su;rw[Zb rfl]at RJ;cases RJ;have:=hr.sep b1 b2 e1 e2 k1 _ hne Tf RS hk1 hb hcb;rcases hk0 with⟨rfl,_⟩|⟨rfl,_⟩
    ·cases k1<;>first|exact⟨this.1,rfl,λx=>absurd (this.2.2 x).1 Si⟩|trivial|exact this
    ·cases k1<;>trivial
   ·exact M5
 refine⟨w',m.add h.length e',by simpa using RL,by simp[b9.add,e'],⟨?_,?_,?_,?_,?_⟩,⟨?_,Si,?_,?_,Om,hos,hout,htape,?_⟩⟩
 ·intro b2 e2 Su;unfold b9.add at Su;by_cases hx:b2=h.length
  ·subst hx;simp
  ·rw[Y6 hx]at Su;have:=hr.cK _ _ Su;simp;omega
 ·intro b2 e2 k2 RS RJ;unfold b9.add at RS;by_cases hx:b2=h.length
  ·subst hx;rw[Zb rfl]at RS;cases RS;rw[Y7 Om]at RJ;simp at RJ;subst RJ;exact hnew
  ·rw[Y6 hx]at RS;exact hbr0 b2 e2 k2 RS (hget0 b2 k2 (hr.cK _ _ RS) RJ)
 ·intro b1 b2 e1 e2 k1 k2 hne Tf RS hk1 RJ hcb;unfold b9.add at Tf RS;by_cases hx1:b1=h.length
  ·subst hx1;rw[Zb rfl]at Tf;cases Tf;rw[Y6 (λx=>hne x.symm)]at RS;rw[Y7 Om]at hk1;simp at hk1;subst hk1;exact(hsep1 b2 e2 k2 RS (hget0 b2 k2 (hr.cK _ _ RS) RJ) hcb.symm).1
  ·rw[Y6 hx1]at Tf;have hk1':=hget0 b1 k1 (hr.cK _ _ Tf) hk1;by_cases UN:b2=h.length
   ·subst UN;rw[Zb rfl]at RS;cases RS;rw[Y7 Om]at RJ;simp at RJ;subst RJ;exact(hsep1 b1 e1 k1 Tf hk1' hcb).2
   ·rw[Y6 UN]at RS;exact hsep2 b1 b2 e1 e2 k1 k2 hne Tf RS hk1' (hget0 b2 k2 (hr.cK _ _ RS) RJ) hcb
 ·intro g hg;obtain⟨x,hx,h2⟩:=hr.fX g hg;exact⟨x,Up _ _ hx,h2⟩
 ·intro b2 e2 RS;unfold b9.add at RS;by_cases hx:b2=h.length
  ·rw[Zb hx]at RS;cases RS;have:=hr.lt _ _ he;show e.cb<_;omega
  ·rw[Y6 hx]at RS;have:=hr.lt _ _ RS;omega
 ·intro b2 Su;unfold b9.add;rw[Y6 Om]
 ·intro b2 e2 Su RS;unfold b9.add at RS;by_cases hx:b2=h.length
  ·rw[Zb hx]at RS;cases RS;refine⟨rfl,.inr ⟨b,e,he,rfl,ho,by simp[ez,hb],?_⟩⟩;unfold ez;rw[YT Om,bG h b b _ hbl,Zb rfl];rcases hk0 with⟨rfl,_⟩|⟨rfl,_⟩<;>rfl
  ·rw[Y6 hx]at RS;exact absurd (hr.cK _ _ RS) Om
 ·intro b2 Su ht;unfold ez at ht ⊢;rw[YT Om,bG h b b2 _ hbl]at ht;by_cases hbb:b2=b
  ·subst hbb;rw[Zb rfl]at ht;rcases hk0 with⟨rfl,_⟩|⟨rfl,_⟩<;>cases ht
  ·exact z171
 ·intro i hi hno;exact hoth i (λx=>hno b e he ho x.symm)
end
section
variable {P:Program}{m:b9}{h h':ah}{w:World}{ρ:cX->AV}{v:AV}
def yp:ak->ak->Prop
 |.cells c mu tl,k=>k=.dead\/∃mu' tl',k=.cells c mu' tl'/\(mu' =true->mu=true/\(tl' =false->tl=false))/\(tl' =true->tl=true)
 |k,k'=>k' =.dead\/k' =k
def yp.NZ{e1 e2 k k' k2}(hw:yp k k')(hs:pO e1 e2 k k2):pO e1 e2 k' k2:=by
 cases k with
 |cells c mu tl=>
  rcases hw with rfl|⟨mu',tl',rfl,hm,ht⟩
  ·trivial
  ·cases k2 with
   |cells c2 mu2 tl2=>
    refine⟨?_,hs.2.1,λx=>hs.2.2 (ht x)⟩;cases mu' with
    |false=>rfl
    |true=>have:=hs.1;rw[(hm rfl).1]at this;cases this
   |_=>first|trivial|exact hs
 |dead=>rcases hw with rfl|rfl<;>trivial
 |bf es=>rcases hw with rfl|rfl<;>first|trivial|exact hs
 |iter s p=>rcases hw with rfl|rfl<;>first|trivial|exact hs
 |loop a b c d e f=>rcases hw with rfl|rfl<;>first|trivial|exact hs
def yp.NY{e1 e2 k k' k1}(hw:yp k k')(hs:pO e1 e2 k1 k):pO e1 e2 k1 k':=by
 cases k with
 |cells c mu tl=>
  rcases hw with rfl|⟨mu',tl',rfl,hm,ht⟩
  ·cases k1<;>trivial
  ·cases k1 with
   |cells c1 mu1 tl1=>
    refine⟨hs.1,?_,λx=>⟨?_,(hs.2.2 x).2⟩⟩
    ·cases mu' with
     |false=>rfl
     |true=>have:=hs.2.1;rw[(hm rfl).1]at this;cases this
    ·cases tl' with
     |false=>rfl
     |true=>have:=(hs.2.2 x).1;rw[ht rfl]at this;cases this
   |_=>first|trivial|exact hs
 |dead=>rcases hw with rfl|rfl<;>cases k1<;>trivial
 |bf es=>rcases hw with rfl|rfl<;>first|exact hs|(cases k1<;>trivial)
 |iter s p=>rcases hw with rfl|rfl<;>first|exact hs|(cases k1<;>trivial)
 |loop a b c d e f=>rcases hw with rfl|rfl<;>first|exact hs|(cases k1<;>trivial)
def yp.br{e k k'}(hw:yp k k')(hb:BR P m w e k):BR P m w e k':=by
 cases k with
 |cells c mu tl=>
  rcases hw with rfl|⟨mu',tl',rfl,hm,ht⟩
  ·trivial
  ·obtain⟨cc,el,fz,h1,h2,h3,h4,h5⟩:=hb;refine⟨cc,el,fz,h1,h2,h3,h4,λx=>⟨(h5 (x.elim (λy=>.inl (hm y).1) (λy=>.inr (ht y)))).1,λy=>?_⟩⟩;rcases x with x|x
   ·exact(h5 (.inl (hm x).1)).2 ((hm x).2 y)
   ·rw[x]at y;cases y
 |dead=>rcases hw with rfl|rfl<;>trivial
 |bf es=>rcases hw with rfl|rfl<;>first|trivial|exact hb
 |iter s p=>rcases hw with rfl|rfl<;>first|trivial|exact hb
 |loop a b c d e f=>rcases hw with rfl|rfl<;>first|trivial|exact hb
def v8(hr:HR P m h w){b k k'}(hb:h[b]? =some k)(hk:yp k k'):HR P m (h.set b k') w/\Grow m h w m (h.set b k') w:=by
 have hbl:b<h.length:=(YQ.1 hb).1;refine⟨⟨?_,?_,?_,hr.fX,hr.lt⟩,⟨λ_ _=>rfl,Si,?_,?_,Y9 _,rfl,rfl,rfl,λ_ _ _=>rfl⟩⟩
 ·intro b' e' hb';simpa using hr.cK b' e' hb'
 ·intro b' e' k2 SM RJ;rw[bG h b b' _ hbl]at RJ;by_cases hbb:b' =b
  ·subst hbb;rw[Zb rfl]at RJ;cases RJ;exact hk.br (hr.dR b' e' k SM hb)
  ·rw[Y6 hbb]at RJ;exact hr.dR b' e' k2 SM RJ
 ·intro b1 b2 e1 e2 k1 k2 hne Tf RS hk1 RJ hcb;rw[bG h b _ _ hbl]at hk1 RJ;by_cases Sf:b1=b
  ·subst Sf;rw[Zb rfl]at hk1;cases hk1;rw[Y6 (λx=>hne x.symm)]at RJ;exact hk.NZ (hr.sep b1 b2 e1 e2 k k2 hne Tf RS hb RJ hcb)
  ·rw[Y6 Sf]at hk1;by_cases Su:b2=b
   ·subst Su;rw[Zb rfl]at RJ;cases RJ;exact hk.NY (hr.sep b1 b2 e1 e2 k1 k hne Tf RS hk1 hb hcb)
   ·exact M5
 ·intro b' e' hb' SM;exact absurd (hr.cK _ _ SM) Om
 ·intro b' hb' ht;unfold ez at ht ⊢;rw[bG h b b' _ hbl]at ht;by_cases hbb:b' =b
  ·subst hbb;rw[Zb rfl]at ht;rw[hb];cases k with
   |cells c mu tl=>
    rcases hk with rfl|⟨mu',tl',rfl,_,h2⟩
    ·cases ht
    ·exact h2 ht
   |dead=>rcases hk with rfl|rfl<;>cases ht
   |bf es=>rcases hk with rfl|rfl<;>cases ht
   |iter s p=>rcases hk with rfl|rfl<;>cases ht
   |loop a b c d e f=>rcases hk with rfl|rfl<;>cases ht
  ·exact z171
def kh(hr:HR P m h w){c vs}(hc:cI m c vs)(h1:c.all AV.one=true)(rest:List Value)(el:TypeId)(mu tl:Bool)(hml:mu=true->tl=true):
  ∃m',m' h.length=some ⟨w.heap.size,0,vs.length+rest.length,true⟩/\HR P m' (h++[.cells c mu tl]) (w.alloc (.cells ⟨vs++rest⟩ el))/\Grow m h w m' (h++[.cells c mu tl]) (w.alloc (.cells ⟨vs++rest⟩ el)):=by
 have hl:=hc.length;refine⟨_,by simp[b9.add],ki hr (.cells ⟨vs++rest⟩ el) (.cells c mu tl) ⟨w.heap.size,0,vs.length+rest.length,true⟩ rfl rfl (λm' hm=>?_)⟩;refine⟨⟨vs++rest⟩,el,(0,0),World.alloc_heap_new w _,⟨by simp;omega,by refine⟨?_,Si⟩;show 0+c.length<=vs.length+rest.length;omega⟩,?_,λ_=>⟨Si,λi _=>by simp⟩,λx=>⟨rfl,λy=>by
  rcases x with x|x
  ·rw[hml x]at y;cases y
  ·rw[x]at y;cases y⟩⟩
 intro i x hx;obtain⟨v,hv,RK⟩:=hc.get hx;have hi:i<c.length:=(YQ.1 hx).1;refine⟨Zy.1 h1 x (ZT hx),v,?_,VR.mono hm _ _ RK⟩;show(⟨vs++rest⟩:Array Value)[0+i]? =some v;rw[ZN,aaq,YT Om];exact hv
def nS{sT xT e:TypeId}{i:TypeInfo}{y ts}(hts0:ts[0]? =some sT)(hts1:ts[1]? =some xT)(hs:dU P sT=some (e,i))(hbytes:0<i.bytes)(hbytes':i.bytes<=2^20)
  {d:TypeDesc}(hud:P.underlying xT=some d) (hdk:∀k,d≠.int k) {cz}(hz:(zeroValue e).run P w.drew=.ok cz w.drew) {base}{n cap k}(hcap:cap<n+k) (hb:(n+k)*i.bytes<=2^46)
  (hlen:(Builtin.lenOf y).run P w=.ok k w) {vo vn}(ho:(Builtin.firstCells i.size n (.slice base n cap)).run P w.drew=.ok ⟨vo⟩ w.drew) (hn:(Builtin.firstCells i.size k y).run P w.drew=.ok ⟨vn⟩ w.drew) (T:TypeId) (ep:i.size=cz.cells.size):
  ∃newCap rest,n+k<=newCap/\rest.length=(newCap-(n+k))*i.size/\
   (Builtin.append_ ts T #[.slice base n cap,y]).run P w=.ok (.slice (some ⟨w.heap.size,0,none⟩) (n+k) newCap) (w.drew.alloc (.cells ⟨vo++vn++rest⟩ e)):=by
 obtain⟨hu,hi⟩:=fq hs;have Vu:=Ef (n+k) cap hcap;have hno:¬(Builtin.nextslicecap (n+k) cap*i.bytes > 2^48):=by
  have h1:Builtin.nextslicecap (n+k) cap*i.bytes<=(2*(n+k)+192)*i.bytes:=Z3 _ Vu;have h2:(2*(n+k)+192)*i.bytes=2*((n+k)*i.bytes)+192*i.bytes:=by rw[aba,Nat.mul_assoc]
  omega
 obtain⟨q,hq⟩:∃q:Question,q=.appendCap (n+k) cap e:=⟨_,rfl⟩;obtain⟨nc,Vv⟩:∃nc:Nat,nc=q.cut (w.tape w.drawn q):=⟨_,rfl⟩;have Wb:n+k<=nc:=by rw[Vv,hq];show n+k<=(n+k)+_;omega
 have TI:(match d with|.int _=>true|_=>false)=false:=by
  cases d<;>first|rfl|exact absurd rfl (hdk _)
 have R1:∀w,(sizeOf e).run P w=.ok i.size w:=λw=>cg (by simp[dS,hi]) w
 have VD:∀w,(typeInfo e).run P w=.ok i w:=λw=>by simp[typeInfo,hi]
 have S0:¬(i.bytes=0):=Om
 have TT:(choose (.appendCap (n+k) cap e)).run P w=.ok nc w.drew:=by
  rw[run_choose,Vv,hq];rfl
 refine⟨nc,(Builtin.zeroCells cz.cells (nc-(n+k))).toList,Wb,by simp[Builtin.zeroCells,ep],?_⟩;simp only[Builtin.append_,hts0,hts1,aaq,Z7,aai,Zj,Zh hu,Y8,R1,Zh hud,ZB,TI,
  ZM,Zf,hlen,Nat.not_le.2 hcap]
 simp only[Sem.run_ite,Zj,VD,Y8,hno,Zf,S0,aay,and_false,ZM,TT,run_askRoom,ho,hn,hz,Zq,Zi,newRow,run_newObj,ZB];have earr:((⟨vo⟩:Array Value)++⟨vn⟩++Builtin.zeroCells cz.cells (nc-(n+k)))=⟨vo++vn++(Builtin.zeroCells cz.cells (nc-(n+k))).toList⟩:=by
  apply abk
  simp
 rw[earr];rfl
def mM{c:List AV}{o q:Nat}(h:o+q=c.length):(c.drop o).take q=c.drop o:=ZE (by simp;omega)
def K3{sT xT e:TypeId}{i:TypeInfo}{ts:Array TypeId}(hts0:ts[0]? =some sT)(hts1:ts[1]? =some xT)(hs:dU P sT=some (e,i))(hspos:0<i.size)(hbytes:0<i.bytes)(hbytes':i.bytes<=2^20)
  {d:TypeDesc}(hud:P.underlying xT=some d) (hdk:∀k,d≠.int k) {z:AV}(hz:i.zero.bind (mE 4)=some z) (hzs:z.cells.length=i.size)
  (hr:HR P m h w) {x y:AV}{cx cy:Value}(hx:VR m x cx) (hy:VR m y cy) (hf:wO i.size i.bytes x y h v h') (T:TypeId):
  ∃cv w' m',(Builtin.append_ ts T #[cx,cy]).run P w=.ok cv w'/\VR m' v cv/\HR P m' h' w'/\Grow m h w m' h' w':=by
 obtain⟨hu,hi⟩:=fq hs;have hzA:jF P e=some z:=by simp[jF,hi,hz]
 obtain⟨cz,Uv,U5⟩:=jU hzA w.drew m;have Wv:i.size=cz.cells.size:=by have:=U5.cells.length;simp at this;omega
 have R1:∀w,(sizeOf e).run P w=.ok i.size w:=λw=>cg (by simp[dS,hi]) w
 have TI:(match d with|.int _=>true|_=>false)=false:=by
  cases d<;>first|rfl|exact absurd rfl (hdk _)
 have room:∀{base:Option Addr}{n cap k:Nat}{vn:List Value}{w1:World},n+k<=cap->(Builtin.lenOf cy).run P w=.ok k w->(Builtin.firstCells i.size k cy).run P w=.ok ⟨vn⟩ w->
   (match base with|some a=>(storeCells (a.add (n*i.size)) vn).run P w=.ok () w1|none=>w1=w)->
   (Builtin.append_ ts T #[.slice base n cap,cy]).run P w=.ok (.slice base (n+k) cap) w1:=by
  intro base n cap k vn w1 hle hlen RQ bU;cases base with
  |none=>
   subst bU;simp only[Builtin.append_,hts0,hts1,aaq,Z7,aai,Zj,Zh hu,Y8,R1,Zh hud,ZB,TI,
    ZM,Zf,hlen,hle,Zi,Zq,RQ]
  |some a=>
   simp only at bU;simp only[Builtin.append_,hts0,hts1,aaq,Z7,aai,Zj,Zh hu,Y8,R1,Zh hud,ZB,TI,
    ZM,Zf,hlen,hle,Zi,Zq,RQ,bU]
 cases hf with
 |none Ts Sx=>
  obtain⟨hlen,_,_,RQ⟩:=cL hr hy Ts;obtain⟨vn,TZ,RK⟩:=RQ 0 (Y9 _);have Yj:vn=[]:=by simp[bE]at RK;exact RK
  subst Yj;rcases Sx with rfl|⟨b,o,n,rfl⟩
  ·rw[VR]at hx;subst hx;exact⟨.slice none 0 0,w,m,room Om hlen TZ rfl,rfl,hr,Grow.refl m h w hr.cK⟩
  ·have hx0:=hx;obtain⟨en,ca,cap,Sm,rfl,R8,Sp,hroom⟩:=hx;exact⟨.slice (some ca) n cap,w,m,room Om hlen TZ (by simp[storeCells]),hx0,hr,Grow.refl m h w hr.cK⟩
 |new ys k mu Ts hk hb Sx=>
  subst Sx;rw[VR]at hx;subst hx;obtain⟨hlen,S2,hone,_⟩:=cL hr hy Ts;obtain⟨_,_,_,RQ⟩:=cL hr.drew hy Ts;obtain⟨vn,TZ,RK⟩:=RQ k (Y9 _);rw[ZE Om]at RK;obtain⟨nc,rest,Wb,SN,RL⟩:=nS (n:=0) (cap:=0) (base:=none) (vo:=[]) hts0 hts1 hs hbytes hbytes' hud hdk Uv Om (by rw[ZN];exact hb) hlen (by simp[Builtin.firstCells]) TZ T Wv;obtain⟨m',h0,h1,h2⟩:=kh hr.drew RK hone rest e mu true (λ_=>rfl);have SB:=RK.length;refine⟨_,_,m',RL,⟨_,_,nc,h0,by rw[ZN];rfl,Om,λ_=>rfl,?_⟩,by simpa using h1,by simpa using h2.CB⟩;show 0+0+nc*i.size<=vn.length+rest.length;rw[SN,SB,S2];have:nc*i.size=k*i.size+(nc-(0+k))*i.size:=by rw[<-aba];congr 1;omega
  omega
 |on ys k b o n c mu Ts hk hb Sx hc hl=>
  subst Sx;obtain⟨en,ca,cap,Sm,rfl,R8,Sp,hroom⟩:=hx;obtain⟨hlen,S2,hone,RQ⟩:=cL hr hy Ts;have V5:cellsIn i.size h (.slice b o n i.size)=some ((c.drop o).take (n*i.size),n):=by simp[cellsIn,hc];omega
  have hdt:=mM hl;by_cases VH:n+k<=cap
  ·obtain⟨vn,TZ,RK⟩:=RQ k (Y9 _);rw[ZE Om]at RK;have VK:=Sp Om;have hr1:(n+k)*i.size<=cap*i.size:=Z3 _ VH;rw[aba]at hr1;obtain⟨w',m',h0,h1,h2,h3⟩:=rD (mu':=false) (k0:=.cells c false false) (q:=n*i.size) hr Sm hc Om (.inl ⟨rfl,hl,rfl⟩) RK hone Om 0;rw[hdt]at h2 h3;exact QL
  ·obtain⟨_,_,_,hfo⟩:=cL hr.drew (y:=.slice b o n i.size) ⟨en,ca,cap,Sm,rfl,R8,Sp,hroom⟩ V5;obtain⟨vo,hvo,Tj⟩:=hfo n (Y9 _);obtain⟨_,_,To,_⟩:=cL hr (y:=.slice b o n i.size) ⟨en,ca,cap,Sm,rfl,R8,Sp,hroom⟩ V5;obtain⟨_,_,_,SU⟩:=cL hr.drew hy Ts;obtain⟨vn,TZ,RK⟩:=SU k (Y9 _);rw[ZE Om]at RK;rw[ZE (by simp;omega),hdt]at Tj;rw[hdt]at To;obtain⟨nc,rest,Wb,SN,RL⟩:=nS hts0 hts1 hs hbytes hbytes' hud hdk Uv Om hb hlen hvo TZ T Wv;obtain⟨g1,g2⟩:=v8 (k':=.cells c false false) hr hc (.inr ⟨false,false,rfl,λx=>(by cases x),λx=>(by cases x)⟩);obtain⟨m',h0,h1,h2⟩:=kh g1.drew (Tj.append RK) (by simp[To,hone]) rest e false true (λ_=>rfl)
   have R2:(h.set b (.cells c false false)).length=h.length:=Si
   rw[R2]at h0;have SB:=RK.length;have Yi:=Tj.length;refine⟨_,_,m',RL,⟨_,_,nc,h0,rfl,Wb,λ_=>rfl,?_⟩,h1,(g2.drew.trans h2 hr.cK)⟩;exact ND
 |over ys k b o n c mu Ts hk hb Sx hc hl=>
  subst Sx;obtain⟨en,ca,cap,Sm,rfl,R8,Sp,hroom⟩:=hx;obtain⟨hlen,S2,hone,RQ⟩:=cL hr hy Ts;have V5:cellsIn i.size h (.slice b o n i.size)=some ((c.drop o).take (n*i.size),n):=by simp[cellsIn,hc];omega
  by_cases VH:n+k<=cap
  ·obtain⟨vn,TZ,RK⟩:=RQ k (Y9 _);rw[ZE Om]at RK;have VK:=Sp Om;have hr1:(n+k)*i.size<=cap*i.size:=Z3 _ VH;rw[aba]at hr1;obtain⟨w',m',h0,h1,h2,h3⟩:=rD (mu':=mu) (k0:=.dead) (q:=n*i.size) hr Sm hc Om (.inr ⟨rfl,rfl⟩) RK hone Om 0;exact QL
  ·obtain⟨_,_,_,hfo⟩:=cL hr.drew (y:=.slice b o n i.size) ⟨en,ca,cap,Sm,rfl,R8,Sp,hroom⟩ V5;obtain⟨vo,hvo,Tj⟩:=hfo n (Y9 _);obtain⟨_,_,To,_⟩:=cL hr (y:=.slice b o n i.size) ⟨en,ca,cap,Sm,rfl,R8,Sp,hroom⟩ V5;obtain⟨_,_,_,SU⟩:=cL hr.drew hy Ts;obtain⟨vn,TZ,RK⟩:=SU k (Y9 _);rw[ZE Om]at RK;rw[ZE (by simp;omega)]at Tj;obtain⟨nc,rest,Wb,SN,RL⟩:=nS hts0 hts1 hs hbytes hbytes' hud hdk Uv Om hb hlen hvo TZ T Wv;obtain⟨g1,g2⟩:=v8 (k':=.dead) hr hc (.inl rfl);obtain⟨m',h0,h1,h2⟩:=kh g1.drew (Tj.append RK) (by rw[List.all_append,To,hone];rfl) rest e mu true (λ_=>rfl);have R2:(h.set b .dead).length=h.length:=Si
   rw[R2]at h0;have SB:=RK.length;have Yi:=Tj.length;refine⟨_,_,m',RL,⟨_,_,nc,h0,rfl,Wb,λ_=>rfl,?_⟩,h1,(g2.drew.trans h2 hr.cK)⟩;exact ND
 |full ys k b o n c Ts hk hb Sx hc hl=>
  subst Sx;obtain⟨en,ca,cap,Sm,rfl,R8,Sp,hroom⟩:=hx;obtain⟨hlen,S2,hone,RQ⟩:=cL hr hy Ts;have V5:cellsIn i.size h (.slice b o n i.size)=some ((c.drop o).take (n*i.size),n):=by simp[cellsIn,hc];omega
  have hdt:=mM hl;have hfull:cap<=n:=by
   obtain⟨_,_,_,_,_,_,_,hex⟩:=hr.dR b en _ Sm hc;have he:=(hex (.inl rfl)).2 rfl;by_cases hle:cap<=n
   ·exact hle
   ·have h2:(n+1)*i.size<=cap*i.size:=Z3 _ Om;rw[aaf]at h2;omega
  obtain⟨_,_,_,hfo⟩:=cL hr.drew (y:=.slice b o n i.size) ⟨en,ca,cap,Sm,rfl,R8,Sp,hroom⟩ V5;obtain⟨vo,hvo,Tj⟩:=hfo n (Y9 _);obtain⟨_,_,To,_⟩:=cL hr (y:=.slice b o n i.size) ⟨en,ca,cap,Sm,rfl,R8,Sp,hroom⟩ V5;obtain⟨_,_,_,SU⟩:=cL hr.drew hy Ts;obtain⟨vn,TZ,RK⟩:=SU k (Y9 _);rw[ZE Om]at RK;rw[ZE (by simp;omega),hdt]at Tj;rw[hdt]at To;obtain⟨nc,rest,Wb,SN,RL⟩:=nS hts0 hts1 hs hbytes hbytes' hud hdk Uv Om hb hlen hvo TZ T Wv;obtain⟨m',h0,h1,h2⟩:=kh hr.drew (Tj.append RK) (by simp[To,hone]) rest e true true (λ_=>rfl);have SB:=RK.length;have Yi:=Tj.length;refine⟨_,_,m',RL,⟨_,_,nc,h0,rfl,Wb,λ_=>rfl,?_⟩,h1,h2.CB⟩
  exact ND
def DG(n es cap:Nat)(h:n<=cap):n*es<=cap*es:=Z3 _ h
def KY{dT e:TypeId}{i:TypeInfo}{ts}(hts0:ts[0]? =some dT)(hs:dU P dT=some (e,i))(hspos:0<i.size)
  (hr:HR P m h w) {x y}{cx cy}(hx:VR m (ρ x) cx) (hy:VR m (ρ y) cy) (hf:dx (.zb i.size x y) ρ h=some (v,h')) (T:TypeId):
  ∃cv w' m',(Builtin.copy_ ts T #[cx,cy]).run P w=.ok cv w'/\VR m' v cv/\HR P m' h' w'/\Grow m h w m' h' w':=by
 obtain⟨hu,hi⟩:=fq hs;have R1:∀w,(sizeOf e).run P w=.ok i.size w:=λw=>cg (by simp[dS,hi]) w
 simp only[dx]at hf;split at hf
 ·rename_i b o n es' ys k SF Ts;rw[SF]at hx;obtain⟨en,ca,cap,Sm,rfl,R8,Sp,hroom⟩:=hx;obtain⟨hlen,S2,hone,RQ⟩:=cL hr hy Ts;obtain⟨vn,TZ,RK⟩:=RQ (min k n) (Nat.min_le_left _ _);split at hf
  case isFalse=>cases hf
  rename_i hes;subst hes;have US:Nat.min k n=min k n:=rfl;split at hf
  ·rename_i h0;cases hf;have Yj:vn=[]:=by rw[h0]at RK;simp[bE]at RK;exact RK
   subst Yj;refine⟨.int .i64 0,w,m,?_,rfl,hr,Grow.refl m h w hr.cK⟩;simp only[Builtin.copy_,hts0,aaq,Z7,aai,Zj,Zh hu,Y8,hlen,R1,US,TZ,ZB,storeCells];simp[goInt,h0]
  ·rename_i h0;split at hf
   case h_2=>cases hf
   rename_i c tl hb;split at hf
   case isFalse=>cases hf
   rename_i hle;cases hf;have UM:(ys.take (min k n*i.size)).all AV.one=true:=by
    rw[Zy]at hone ⊢
    exactλa ha=>hone a (ZW ha)
   have WN:(ys.take (min k n*i.size)).length=min k n*i.size:=by
    have:=DG (min k n) i.size k (Nat.min_le_left _ _);simp;omega
   obtain⟨w',bU,h1,h2⟩:=pk (ys.take (min k n*i.size)) vn hr Sm hb o 0 Om UM RK;refine⟨.int .i64 (min k n:Nat),w',m,?_,rfl,h1,h2⟩;have VK:=Sp Om;subst VK;simp only[Builtin.copy_,hts0,aaq,Z7,aai,Zj,Zh hu,Y8,hlen,R1,US,TZ,ZB,bU,goInt]
 ·rename_i SF Ts;rename_i p;obtain⟨ys,k⟩:=p;rw[SF,VR]at hx;subst hx;cases hf;obtain⟨hlen,S2,hone,RQ⟩:=cL hr hy Ts;obtain⟨vn,TZ,RK⟩:=RQ 0 (Zw _);have US:Nat.min k 0=0:=Nat.min_zero k;refine⟨.int .i64 0,w,m,?_,rfl,hr,Grow.refl m h w hr.cK⟩;simp only[Builtin.copy_,hts0,aaq,Z7,aai,Zj,Zh hu,Y8,hlen,R1,US,TZ,ZB,goInt];rfl
 ·cases hf
end
section
variable {P:Program}{m:b9}{h h':ah}{w:World}{ρ:cX->AV}{v:AV}
theorem wC:∀{l}{vs}{bs},cI m l vs->l.mapM byteOf=some bs->
  ∀(acc:ByteArray),(forIn (m:=Sem) vs acc λc s=>
    match c with
    |.int .u8 n=>pure (ForInStep.yield (s.push (UInt8.ofNat n.toNat)))
    |_=>do
     (stuck "bytesToString: byte expected" :Sem PUnit)
     pure (ForInStep.yield s)).run P w=.ok ⟨⟨acc.data.toList++bs⟩⟩ w
 |[],vs,bs,hv,hb,acc=>by
  rw[bE]at hv;subst hv;simp at hb;subst hb;simp
 |x::xs,vs,bs,hv,hb,acc=>by
  obtain⟨y,ys,rfl,hy,hys⟩:=aO.1 hv;simp only[abh,aa2,abn]at hb;cases hx:byteOf x with
  |none=>simp[hx]at hb
  |some b=>
   cases hl:xs.mapM byteOf with
   |none=>simp[hx,hl]at hb
   |some bs'=>
    simp[hx,hl]at hb;subst hb;unfold byteOf at hx;split at hx
    case h_2=>cases hx
    rename_i n;cases hx;rw[VR]at hy;subst hy;have:=wC hys hl (acc.push (UInt8.ofNat n.toNat));simp only[List.forIn_cons,Zj,ZB,Y8];rw[this];simp[ByteArray.push]
def y0{e:TypeId}(h:Ey P e=true):P.underlying e=some (.int .u8):=by
 unfold Ey at h;split at h
 ·assumption
 ·cases h
def Hy{s d:TypeId}{k x cx}(hk:CI P s d=some k)(hr:HR P m h w)(hx:VR m (ρ x) cx)(hf:dx (.conv k x) ρ h=some (v,h')):
  ∃cv w' m',(convert s d cx).run P w=.ok cv w'/\VR m' v cv/\HR P m' h' w'/\Grow m h w m' h' w':=by
 simp only[dx]at hf;have same:∀{cv:Value},(convert s d cx).run P w=.ok cv w->VR m v cv->h' =h->∃cv w' m',(convert s d cx).run P w=.ok cv w'/\VR m' v cv/\HR P m' h' w'/\Grow m h w m' h' w':=by
  intro cv h1 h2 h3;exact z196
 unfold CI at hk;split at hk
 ·rename_i k1 k2 hs hd;cases hk;simp only[kg]at hf;split at hf
  case h_2=>cases hf
  rename_i hρ;rw[hρ,VR]at hx;subst hx;cases hf;exact same (by simp[convert,Zh hs,Zh hd,Conv.intToInt]) rfl rfl
 ·rename_i k1 k2 hs hd;cases hk;simp only[kg]at hf;split at hf
  case h_2=>cases hf
  rename_i hρ;rw[hρ,VR]at hx;subst hx;cases hf;exact same (by simp[convert,Zh hs,Zh hd,Conv.intToFloat]) ⟨_,rfl,.inl rfl⟩ rfl
 ·rename_i k1 k2 hs hd;cases hk;simp only[kg]at hf;split at hf
  case h_2=>cases hf
  rename_i sk b hρ;rw[hρ]at hx;obtain⟨b',rfl,hfr⟩:=hx;split at hf
  case h_2=>cases hf
  rename_i n hn;split at hf
  case isFalse=>cases hf
  rename_i hc;cases hf;have hbb:b' =b:=by
   rcases hfr with h1|⟨h1,_⟩
   ·exact h1
   ·rw[hc.1]at h1;cases h1
  subst hbb;exact same (by simp[convert,Zh hs,Zh hd,Conv.floatToInt,hn,hc.2]) rfl rfl
 ·rename_i k1 k2 hs hd;cases hk;simp only[kg]at hf;split at hf
  case h_2=>cases hf
  rename_i sk b hρ;rw[hρ]at hx;obtain⟨b',rfl,hfr⟩:=hx;split at hf
  case isFalse=>cases hf
  rename_i hc;cases hf;subst hc;exact same (by simp[convert,Zh hs,Zh hd,Conv.floatToFloat]) ⟨_,rfl,hfr⟩ rfl
 ·rename_i hs hd;cases hk;simp only[kg]at hf;split at hf
  case h_2=>cases hf
  rename_i hρ;rw[hρ,VR]at hx;subst hx;cases hf;exact same (by simp[convert,Zh hs,Zh hd]) rfl rfl
 ·rename_i e hs hd;split at hk
  case isFalse=>cases hk
  rename_i he;have hue:P.underlying e=some (.int .u8):=y0 he;cases hk;simp only[kg]at hf;split at hf
  case h_2=>cases hf
  rename_i s hρ;rw[hρ,VR]at hx;subst hx;cases hf;obtain⟨q,hq⟩:∃q:Question,q=.appendCap s.length 0 e:=⟨_,rfl⟩;obtain⟨nc,Vv⟩:∃nc:Nat,nc=q.cut (w.tape w.drawn q):=⟨_,rfl⟩;have Wb:s.length<=nc:=by rw[Vv,hq];show s.length<=s.length+_;omega
  have TT:(choose (.appendCap s.length 0 e)).run P w=.ok nc w.drew:=by
   rw[run_choose,Vv,hq];rfl
  let vs:List Value:=s.map λb=>.int .u8 b.toNat
  let rest:List Value:=List.replicate (nc-s.length) (.int .u8 0)
  have SB:vs.length=s.length:=by simp[vs]
  have Tl:rest.length=nc-s.length:=by simp[rest]
  let W:World:=(w.drew.alloc (.cells ⟨vs++rest⟩ e))
  let W':World:=W.freeze ⟨w.heap.size,nc,none⟩ 1
  have hWh:W.heap[w.heap.size]? =some (.cells ⟨vs++rest⟩ e):=World.alloc_heap_new w.drew _;have hlt:w.heap.size<W.heap.size:=(Ze.1 hWh).1;have hW':W'.heap[w.heap.size]? =some (.cells ⟨vs++rest⟩ e (nc,nc+1)):=by
   have hk:W.heap[w.heap.size]=.cells ⟨vs++rest⟩ e:=(Ze.1 hWh).2;show((if(1:Nat)=0 then W else {W with heap:=W.heap.modify w.heap.size _}).heap)[w.heap.size]? =_;rw[Y6 Om];show(W.heap.modify w.heap.size _)[w.heap.size]? =_;rw[ZO (by rw[Array.size_modify];exact hlt),Array.getElem_modify_self,hk];rfl
  have hother:∀i,i≠w.heap.size->W'.heap[i]? =W.heap[i]? :=by
   intro i hi;show((if(1:Nat)=0 then W else {W with heap:=W.heap.modify w.heap.size _}).heap)[i]? =_;rw[Y6 Om];show(W.heap.modify w.heap.size _)[i]? =_;rw[Array.getElem?_modify,Y6 (λx=>hi x.symm)]
  have R1:W'.heap.size=W.heap.size:=by
   show((if(1:Nat)=0 then W else {W with heap:=W.heap.modify w.heap.size _}).heap).size=_;rw[Y6 Om];simp
  obtain⟨m',h0,h1,h2⟩:=kh hr.drew (ng m s) (rr s) rest e true true (λ_=>rfl);have h0':m' h.length=some ⟨w.heap.size,0,vs.length+rest.length,true⟩:=h0;have hne:∀b e2 k2,m' b=some e2->b≠h.length->(h++[.cells (s.map λb=>.int .u8 b.toNat) true true])[b]? =some k2->k2.live=true->e2.cb≠w.heap.size:=by
   intro b e2 k2 hb hbl RJ hl hcb;have:=h1.sep h.length b _ e2 (.cells (s.map λb=>.int .u8 b.toNat) true true) k2 (λx=>hbl x.symm) h0' hb Si RJ hcb.symm;cases k2<;>first|exact absurd this.1 Si|exact this|(cases hl;done)
  have hgrow:Grow m h w m' (h++[.cells (s.map λb=>.int .u8 b.toNat) true true]) W':=by
   have g:=h2.CB;refine⟨g.ext,g.len,g.new,g.tl,by rw[R1];exact g.size,?_,?_,?_,?_⟩
   ·exact g.os
   ·exact g.out
   ·exact g.tape
   ·intro i hi hno;rw[hother i Om];exact g.frame i hi hno
  refine⟨.slice (some ⟨w.heap.size,0,none⟩) s.length nc,W',m',?_,⟨_,_,nc,h0',rfl,Wb,λ_=>rfl,by show 0+0+nc*1<=vs.length+rest.length;omega⟩,⟨h1.cK,?_,h1.sep,h1.fX,λb' e' hb'=>by have:=h1.lt b' e' hb';rw[R1];exact this⟩,hgrow⟩
  ·have ep:(⟨⟨s⟩⟩:ByteArray).size=s.length:=rfl;have Vz:(⟨s⟩:Array UInt8).map (λb=>Value.int .u8 b.toNat)=⟨vs⟩:=by apply abk;simp[vs]
   have Sz:(⟨vs⟩:Array Value)++Array.replicate (nc-s.length) (.int .u8 0)=⟨vs++rest⟩:=by apply abk;simp[rest]
   have Ym:W.shape? w.heap.size=some (e,nc):=by
    simp only[World.shape?,hWh];simp[SB,Tl];omega
   simp only[convert,Zj,Zh hs,Zh hd,Y8,Zh hue,Conv.stringToBytes,ep,TT,Vz,Sz,newRow,run_newObj,ZB];simp only[markStringish,Zj,run_shape];have Se:World.shape? {heap:=w.drew.heap.push (Obj.cells ⟨vs++rest⟩ e),tape:=w.drew.tape,drawn:=w.drew.drawn,os:=w.drew.os,output:=w.drew.output} w.drew.heap.size=some (e,nc):=Ym;simp only[Se,Y8,run_freeze];rfl
  ·intro b e2 k2 hb RJ;have S0:=h1.dR b e2 k2 hb RJ;by_cases hbl:b=h.length
   ·subst hbl;rw[h0']at hb;cases hb;simp at RJ;subst RJ;obtain⟨cc,el,fz,hh,h3,h4,h5,h6⟩:=S0;have hWh':W.heap[w.heap.size]? =some (.cells cc el fz):=hh;rw[hWh]at hWh';cases hWh';refine⟨⟨vs++rest⟩,e,(nc,nc+1),hW',h3,h4,λ_=>⟨(h5 rfl).1,λi hi=>?_⟩,h6⟩;have:(⟨vs++rest⟩:Array Value).size=nc:=by simp[SB,Tl];omega
    simp only;omega
   ·by_cases hl:k2.live=true
    ·exact S0.heap (hother _ (hne b e2 k2 hb hbl RJ hl))
    ·exact G2
 ·rename_i e hs hd;split at hk
  case isFalse=>cases hk
  rename_i he;have hue:P.underlying e=some (.int .u8):=y0 he;cases hk;simp only[kg]at hf;split at hf
  ·rename_i hρ;rw[hρ,VR]at hx;subst hx;cases hf;exact same (by simp[convert,Zh hs,Zh hd,Zh hue,Conv.bytesToString];rfl) rfl rfl
  ·rename_i b o n es hρ;rw[hρ]at hx;split at hf
   case h_2=>cases hf
   rename_i l k hc;split at hf
   case h_2=>cases hf
   rename_i r hl;cases hf;obtain⟨hlen,S2,hone,RQ⟩:=cL hr hx hc;obtain⟨vs,SH,RK⟩:=RQ k (Y9 _);rw[ZE Om]at RK;have hkn:k=n:=by
    unfold cellsIn at hc;simp only at hc;split at hc
    ·split at hc
     ·split at hc
      ·cases hc;rfl
      ·cases hc
     ·cases hc
    ·cases hc
   subst hkn;obtain⟨en,ca,cap,Sm,rfl,R8,Sp,hroom⟩:=hx;simp only[Builtin.firstCells,aa3]at SH;refine same (cv:=.string ⟨⟨r⟩⟩) ?_ rfl rfl;have hb:=wC (P:=P) (w:=w) RK hl ByteArray.empty;simp only[convert,Zj,Zh hs,Zh hd,Y8,Zh hue,Conv.bytesToString,SH];rw[<-Array.forIn_toList]
   erw [hb]
   simp
  ·cases hf
 ·cases hk
theorem wh:∀{l}{vs}{x v}{cx},VR m x cx->cI m l vs->iL pV x l=some v->∃cv,(vs.foldlM (m:=Sem) Builtin.max2 cx).run P w=.ok cv w/\VR m v cv
 |[],vs,x,v,cx,hx,hl,hf=>by
  exact z208
 |y::l,vs,x,v,cx,hx,hl,hf=>by
  obtain⟨cy,vs',rfl,hy,RT⟩:=aO.1 hl;simp only[iL]at hf;split at hf
  case h_2=>cases hf
  rename_i z hz;unfold pV at hz;split at hz
  case h_2=>cases hz
  rename_i k a k' b;split at hz
  case isFalse=>cases hz
  cases hz;rw[VR]at hx hy;subst hx;subst hy;obtain⟨cv,h1,h2⟩:=wh (x:=.int k (if b > a then b else a)) (cx:=.int k (if b > a then b else a)) rfl RT hf;exact⟨cv,by simp only[List.foldlM_cons,Zj,Builtin.max2,ZB,Y8];exact h1,h2⟩
theorem wg:∀{l}{vs}{x v}{cx},VR m x cx->cI m l vs->iL pU x l=some v->∃cv,(vs.foldlM (m:=Sem) Builtin.min2 cx).run P w=.ok cv w/\VR m v cv
 |[],vs,x,v,cx,hx,hl,hf=>by
  exact z208
 |y::l,vs,x,v,cx,hx,hl,hf=>by
  obtain⟨cy,vs',rfl,hy,RT⟩:=aO.1 hl;simp only[iL]at hf;split at hf
  case h_2=>cases hf
  rename_i z hz;unfold pU at hz;split at hz
  case h_2=>cases hz
  rename_i k a k' b;split at hz
  case isFalse=>cases hz
  cases hz;rw[VR]at hx hy;subst hx;subst hy;obtain⟨cv,h1,h2⟩:=wg (x:=.int k (if b<a then b else a)) (cx:=.int k (if b<a then b else a)) rfl RT hf;exact⟨cv,by simp only[List.foldlM_cons,Zj,Builtin.min2,ZB,Y8];exact h1,h2⟩
def BH{t e:TypeId}{i:TypeInfo}{n:Nat}{z:AV}{ps:Array (Nat×Operand)}{l:List (Nat×cX)}{σ:Operand->Value}(hs:dU P t=some (e,i))(hz:jF P e=some z)
  (hl:ps.toList.mapM (λp=>(cS p.2).map λy=>(p.1*i.size,y))=some l) (hspos:0<i.size) (hzs:z.cells.length=i.size) (h1:z.cells.all AV.one=true) (hn:n*i.size<=2^24)
  (hr:HR P m h w) (hρ:∀p∈ps.toList,∀y,cS p.2=some y->VR m (ρ y) (σ p.2)) {c:List AV}(hf:eI (dN n z.cells) (l.map λp=>(p.1,i.size,ρ p.2))=some c) (hc1:c.all AV.one=true) (hcl:c.length=n*i.size) (mu tl:Bool):
  ∃cv w' m',(Instr.buildSlice t n (ps.map λ(i,x)=>(i,σ x))).run P w=.ok cv w'/\VR m' (.slice h.length 0 n i.size) cv/\HR P m' (h++[.cells c mu tl]) w'/\Grow m h w m' (h++[.cells c mu tl]) w':=by
 have _:=h1;obtain⟨hu,hi⟩:=fq hs;obtain⟨cz,Uv,U5⟩:=jU hz w m;have hzc:=U5.cells;have ep:cz.cells.size=z.cells.length:=by have:=hzc.length;simpa using this
 have hzero:∀(row:Array Value),row=(Array.range (n*cz.cells.size)).map (cz.cells[·% cz.cells.size]!)->cI m (dN n z.cells) row.toList:=by
  intro row hrow;have:=sL hzc Om n n (Y9 _);rw[<-hrow,ZE]at this
  ·exact this
  ·rw[hrow];simp[ep]
 have Yr:∀(qs:List (Nat×Operand)) (l:List (Nat×cX)),qs.mapM (λp=>(cS p.2).map λy=>(p.1*i.size,y))=some l->qs.length=l.length/\∀(j:Nat) p q,qs[j]? =some p->l[j]? =some q->q.1=p.1*i.size/\cS p.2=some q.2:=by
  intro qs
  induction qs with
  |nil=>intro l hl;simp at hl;subst hl;exact⟨rfl,λj p q hp=>by simp at hp⟩
  |cons p qs ih=>
   intro l hl;simp only[abh,aa2,abn]at hl;cases ho:cS p.2 with
   |none=>simp[ho]at hl
   |some y=>
    cases hr':qs.mapM (λp=>(cS p.2).map λy=>(p.1*i.size,y))with
    |none=>simp[ho,hr']at hl
    |some l'=>
     simp[ho,hr']at hl;subst hl;obtain⟨h2,h3⟩:=ih l' hr';refine⟨by simp[h2],λj a b ha hb=>?_⟩;cases j with
     |zero=>simp at ha hb;subst ha;subst hb;exact⟨rfl,ho⟩
     |succ j=>exact h3 j a b (by simpa using ha) (by simpa using hb)
 obtain⟨UR,hpq⟩:=Yr _ _ hl;by_cases Wc:n*i.size=0
 ·have hnz:n=0:=by
   rcases Nat.mul_eq_zero.1 Wc with h|h
   ·exact h
   ·omega
  obtain⟨Sr,S4,SH⟩:=qx (m:=m) (λj=>some (j*i.size,i.size)) (ps.toList.map λp=>(p.1,σ p.2)) (l.map λp=>(p.1,i.size,ρ p.2)) (dN n z.cells) #[] c (by simp[UR])
   (λj p q hp hq=>by
    simp only[aac,Zk]at hp hq;obtain⟨p0,hp0,rfl⟩:=hp;obtain⟨q0,hq0,rfl⟩:=hq;obtain⟨h2,h3⟩:=hpq j p0 q0 hp0 hq0;exact⟨by simp[h2],hρ p0 (ZT hp0) _ h3⟩) (by subst hnz;simp[dN,bE]) hf
  obtain⟨m',h2,h3,h4⟩:=lO hr SH hc1 e mu tl;have SB:=SH.length;refine⟨.slice (some ⟨w.heap.size,0,none⟩) n n,_,m',?_,⟨_,_,n,h2,rfl,Y9 _,λ_=>rfl,by show 0+0+n*i.size<=Sr.toList.length;omega⟩,h3,h4⟩;have RY:¬(n*i.size > 2^24):=Om
  have R1:(sizeOf e).run P w=.ok i.size w:=cg (by simp[dS,hi]) w;have e0:(Array.range 0).map (λx=>(#[] :Array Value)[x%(#[] :Array Value).size]!)=#[]:=Si
  simp only[Instr.buildSlice,Zj,Zh hu,Y8,R1,RY,Zf];simp only[Wc,Zi,Zj,Y8,ZB,e0];exact Ks
 ·obtain⟨Sr,S4,SH⟩:=qx (m:=m) (λj=>some (j*i.size,i.size)) (ps.toList.map λp=>(p.1,σ p.2)) (l.map λp=>(p.1,i.size,ρ p.2)) (dN n z.cells) ((Array.range (n*i.size)).map (cz.cells[·% cz.cells.size]!)) c (by simp[UR])
   (λj p q hp hq=>by
    simp only[aac,Zk]at hp hq;obtain⟨p0,hp0,rfl⟩:=hp;obtain⟨q0,hq0,rfl⟩:=hq;obtain⟨h2,h3⟩:=hpq j p0 q0 hp0 hq0;exact⟨by simp[h2],hρ p0 (ZT hp0) _ h3⟩) (hzero _ (by rw[ep,hzs])) hf
  obtain⟨m',h2,h3,h4⟩:=lO hr SH hc1 e mu tl;have SB:=SH.length;refine⟨.slice (some ⟨w.heap.size,0,none⟩) n n,_,m',?_,⟨_,_,n,h2,rfl,Y9 _,λ_=>rfl,by show 0+0+n*i.size<=Sr.toList.length;omega⟩,h3,h4⟩;have RY:¬(n*i.size > 2^24):=Om
  have R1:(sizeOf e).run P w=.ok i.size w:=cg (by simp[dS,hi]) w;simp only[Instr.buildSlice,Zj,Zh hu,Y8,R1,RY,Zf,Wc,ZB,Uv];exact Ks
def wq{op}{t:TypeId}{x y xs ys}(hm:P.eqGuardType P.depth t=false):(eqGuard op t x y (.agg xs) (.agg ys)).run P w=.ok () w:=by
 cases op<;>simp[eqGuard,run_program,hm]
def kI{op}{t:TypeId}{x y a b}(h1:∀l,a≠.agg l)(h2:a≠.nilIface):(eqGuard op t x y a b).run P w=.ok () w:=by
 cases op<;>cases a<;>first
  |rfl
  |exact absurd rfl h2
  |exact absurd rfl (h1 _)
def VR.Ln{x cx}(hx:VR m x cx)(h1:x.one=true):(∀l,cx≠.agg l)/\cx≠.nilIface:=by
 have hc:=hx.tX h1;refine⟨λl e=>?_,λe=>?_⟩
 ·subst e;cases hc
 ·subst e;cases x<;>simp[VR,AV.one]at hx h1
def DS{t:TypeId}{e:TypeId}(hu:P.underlying t=some (.slice e)){x y cx cy b}(hx:VR m x cx)(hy:VR m y cy)(hb:Pp x y=some b)(d:Nat):
  (Op.equalIn (d+1) t cx cy).run P w=.ok b w/\(∀l,cx≠.agg l)/\cx≠.nilIface/\(binOp .eql t cx cy=do pure (.bool (<-Op.equal t cx cy)))/\(binOp .neq t cx cy=do pure (.bool (!(<-Op.equal t cx cy)))):=by
 unfold Pp at hb;split at hb
 ·rw[VR]at hx hy;subst hx;subst hy;cases hb;exact AQ
 ·rw[VR]at hx;obtain⟨_,ca,cap,_,rfl,_⟩:=hy;subst hx;cases hb;exact AQ
 ·rw[VR]at hy;obtain⟨_,ca,cap,_,rfl,_⟩:=hx;subst hy;cases hb;exact AQ
 ·cases hb
def DT{t:TypeId}{e:TypeId}(hu:P.underlying t=some (.pointer e)){x y cx cy b}(hx:VR m x cx)(hy:VR m y cy)(hb:Pq x y=some b)(d:Nat):
  (Op.equalIn (d+1) t cx cy).run P w=.ok b w/\(∀l,cx≠.agg l)/\cx≠.nilIface/\(binOp .eql t cx cy=do pure (.bool (<-Op.equal t cx cy)))/\(binOp .neq t cx cy=do pure (.bool (!(<-Op.equal t cx cy)))):=by
 unfold Pq at hb;split at hb
 ·rw[VR]at hx hy;subst hx;subst hy;cases hb;exact AQ
 ·rw[VR]at hx;obtain⟨_,_,rfl⟩:=hy;subst hx;cases hb;exact AQ
 ·rw[VR]at hy;obtain⟨_,_,rfl⟩:=hx;subst hy;cases hb;exact AQ
 ·cases hb
def DV{t:TypeId}{e f g}(hu:P.underlying t=some (.func e f g)){x y cx cy b}(hx:VR m x cx)(hy:VR m y cy)(hb:Ps x y=some b)(d:Nat):
  (Op.equalIn (d+1) t cx cy).run P w=.ok b w/\(∀l,cx≠.agg l)/\cx≠.nilIface/\(binOp .eql t cx cy=do pure (.bool (<-Op.equal t cx cy)))/\(binOp .neq t cx cy=do pure (.bool (!(<-Op.equal t cx cy)))):=by
 unfold Ps at hb;split at hb
 ·rw[VR]at hx hy;subst hx;subst hy;cases hb;exact AQ
 ·rw[VR]at hx;obtain⟨_,_,_,rfl,_⟩:=hy;subst hx;cases hb;exact AQ
 ·rw[VR]at hy;obtain⟨_,_,_,rfl,_⟩:=hx;subst hy;cases hb;exact AQ
 ·cases hb
def DU{t:TypeId}{e f:TypeId}(hu:P.underlying t=some (.map e f)){x y cx cy b}(hx:VR m x cx)(hy:VR m y cy)(hb:Pr x y=some b)(d:Nat):
  (Op.equalIn (d+1) t cx cy).run P w=.ok b w/\(∀l,cx≠.agg l)/\cx≠.nilIface/\(binOp .eql t cx cy=do pure (.bool (<-Op.equal t cx cy)))/\(binOp .neq t cx cy=do pure (.bool (!(<-Op.equal t cx cy)))):=by
 unfold Pr at hb;split at hb
 ·rw[VR]at hx hy;subst hx;subst hy;cases hb;exact AQ
 ·rw[VR]at hx;obtain⟨_,_,rfl⟩:=hy;subst hx;cases hb;exact AQ
 ·rw[VR]at hy;obtain⟨_,_,rfl⟩:=hx;subst hy;cases hb;exact AQ
 ·cases hb
def Ge{t:TypeId}{neg k x y ox oy cx cy}(hk:Is P neg t x y=some (.eqv neg k x y))(hx:VR m (ρ x) cx)(hy:VR m (ρ y) cy)(hf:dx (.eqv neg k x y) ρ h=some (v,h')):
  ∃cv,(do eqGuard (if neg then .neq else .eql) t ox oy cx cy;binOp (if neg then .neq else .eql) t cx cy:Sem Value).run P w=.ok cv w/\VR m v cv/\h' =h:=by
 simp only[dx]at hf;split at hf
 case h_2=>cases hf
 rename_i b hb;cases hf;have fin:(eqGuard (if neg then .neq else .eql) t ox oy cx cy).run P w=.ok () w->(Op.equalIn 10000 t cx cy).run P w=.ok b w->(binOp .eql t cx cy=do pure (.bool (<-Op.equal t cx cy)))->(binOp .neq t cx cy=do pure (.bool (!(<-Op.equal t cx cy))))->
   ∃cv,(do eqGuard (if neg then .neq else .eql) t ox oy cx cy;binOp (if neg then .neq else .eql) t cx cy:Sem Value).run P w=.ok cv w/\VR m (.bool (if neg then !b else b)) cv/\h=h:=by
  intro h1 h2 h3 h4;refine⟨.bool (if neg then !b else b),?_,rfl,rfl⟩;simp only[Zj,h1,Y8];cases neg
  ·simp only[ZM,Zf,h3,Zj,Op.equal,Op.maxDepth,h2,Y8,ZB]
  ·simp only[Zi,h4,Zj,Op.equal,Op.maxDepth,h2,Y8,ZB]
 unfold Is at hk;split at hk<;>first
  |(cases hk;done)
  |skip
 ·rename_i hu;cases hk;have hb':cV .b (ρ x) (ρ y)=some b:=hb;have hone:(ρ x).one=true:=by unfold cV at hb';split at hb'<;>first|(cases hb';done)|simp_all [AV.one]
  obtain⟨n1,n2⟩:=hx.Ln hone;obtain⟨a,c,hxa,Ts⟩:∃a c,ρ x=.bool a/\ρ y=.bool c:=by unfold cV at hb';split at hb'<;>first|(cases hb';done)|simp_all
  rw[hxa,VR]at hx;rw[Ts,VR]at hy;subst hx;subst hy;refine fin (kI n1 n2) ?_ rfl rfl;exact qX (m:=m) (t:=t) (k:=.b) hu (x:=.bool a) (y:=.bool c) rfl rfl (by rw[<-hxa,<-Ts];exact hb') 9999
 ·rename_i fs hu;exact z21
 ·rename_i n e hu;exact z21
 ·rename_i e hu;cases hk;obtain⟨h1,h2,h3,h4,h5⟩:=DS (w:=w) hu hx hy hb 9999;exact Dt
 ·rename_i e hu;cases hk;obtain⟨h1,h2,h3,h4,h5⟩:=DT (w:=w) hu hx hy hb 9999;exact Dt
 ·rename_i hu;cases hk;obtain⟨h1,h2,h3,h4,h5⟩:=DV (w:=w) hu hx hy hb 9999;exact Dt
 ·rename_i hu;cases hk;obtain⟨h1,h2,h3,h4,h5⟩:=DU (w:=w) hu hx hy hb 9999;exact Dt
end
def mP(k:pf)(ρ:cX->AV)(h:ah)(v:AV)(h':ah):Prop:=
 match k with
 |.call _ _=>False
 |.app es w x y=>wO es w (ρ x) (ρ y) h v h'
 |.bd es n z ps=>∃c mu tl,eI (dN n z) (ps.map λp=>(p.1,es,ρ p.2))=some c/\c.all AV.one=true/\c.length=n*es/\v=.slice h.length 0 n es/\h' =h++[.cells c mu tl]
 |k=>dx k ρ h=some (v,h')
section
variable {P:Program}{m:b9}{h h':ah}{w:World}{ρ:cX->AV}{v:AV}{σ:Operand->Value}
def eU.nG{r:Result Value}(hr:HR P m h w)(hx:∃cv,r=.ok cv w/\VR m v cv/\h' =h){R:Result Next}(hR:∀cv,r=.ok cv w->R=.ok (.value cv) w):eU P m h w v h' R:=by
 obtain⟨cv,h1,h2,rfl⟩:=hx;exact eU.same hr h2 (hR cv h1)
def eU.zx{r:Result Value}(hx:∃cv w' m',r=.ok cv w'/\VR m' v cv/\HR P m' h' w'/\Grow m h w m' h' w'){R:Result Next}(hR:∀cv w',r=.ok cv w'->R=.ok (.value cv) w'):eU P m h w v h' R:=by
 obtain⟨cv,w',m',h1,h2,h3,h4⟩:=hx;exact⟨cv,w',m',.inl (hR cv w' h1),h2,h3,h4⟩
def nV{l l'}(hl:yS l=some l')(hρ:∀x∈l,∀x',cS x=some x'->VR m (ρ x') (σ x)):cI m (l'.map ρ) (l.map σ).toList:=by
 have key:∀(l:List Operand) (l':List cX),l.mapM cS=some l'->(∀x∈l,∀x',cS x=some x'->VR m (ρ x') (σ x))->cI m (l'.map ρ) (l.map σ):=by
  intro l
  induction l with
  |nil=>intro l' h _;simp at h;subst h;exact bE.2 rfl
  |cons x l ih=>
   intro l' h hρ;simp only[abh,aa2,abn]at h;cases hx:cS x with
   |none=>simp[hx]at h
   |some y=>
    cases hl:l.mapM cS with
    |none=>simp[hx,hl]at h
    |some l2=>
     simp[hx,hl]at h;subst h;exact aO.2 ⟨_,_,rfl,hρ x Si y hx,ih l2 hl (λx' RN=>hρ x' (by simp[RN]))⟩
 have:=key l.toList l' hl (λx hx=>hρ x (by simpa using hx))
 simpa using this
def ri{lo lo'}(hl:vu lo=some lo')(hρ:∀x∈lo,∀x',cS x=some x'->VR m (ρ x') (σ x)):
  pe m ρ lo' (lo.map σ):=by
 cases lo with
 |none=>simp[vu]at hl;subst hl;trivial
 |some x=>
  simp only[vu,Zk]at hl;obtain⟨y,hy,rfl⟩:=hl;exact hρ x rfl y hy
def KZ{op}{t:TypeId}{x y ox oy cx cy}(hr:HR P m h w)(hx:VR m (ρ x) cx)(hy:VR m (ρ y) cy)(hf:dx (.bin op x y) ρ h=some (v,h')):
  ∃cv w' m',(do eqGuard op t ox oy cx cy;binOp op t cx cy:Sem Value).run P w=.ok cv w'/\VR m' v cv/\HR P m' h' w'/\Grow m h w m' h' w':=by
 simp only[dx]at hf;split at hf
 case h_2=>cases hf
 rename_i u hu;cases hf;have fin:∀{cv:Value},(eqGuard op t ox oy cx cy).run P w=.ok () w->(binOp op t cx cy).run P w=.ok cv w->VR m v cv->
   ∃cv w' m',(do eqGuard op t ox oy cx cy;binOp op t cx cy:Sem Value).run P w=.ok cv w'/\VR m' v cv/\HR P m' h w'/\Grow m h w m' h w':=by
  intro cv h1 h2 h3;exact⟨cv,w,m,by simp only[Zj,h1,Y8,h2],h3,hr,Grow.refl m h w hr.cK⟩
 unfold eo at hu;split at hu
 ·rename_i k a k' b SF Yc;rw[SF,VR]at hx;rw[Yc,VR]at hy;subst hx;subst hy;have hg:(eqGuard op t ox oy (.int k a) (.int k' b)).run P w=.ok () w:=kI (λl=>by simp) Si;split at hu
  ·rename_i hs;obtain⟨cv,h1,h2⟩:=xA (P:=P) (m:=m) (w:=w) (k':=k') hs hu t;exact fin hg h1 h2
  ·rename_i hs;split at hu
   case isFalse=>cases hu
   rename_i hk;subst hk;obtain⟨cv,h1,h2⟩:=xC (P:=P) (m:=m) (w:=w) (by simpa using hs) hu t;exact fin hg h1 h2
 ·rename_i a b SF Yc;rw[SF,VR]at hx;rw[Yc,VR]at hy;subst hx;subst hy;obtain⟨cv,h1,h2⟩:=xz (P:=P) (m:=m) (w:=w) hu t;exact fin (kI (λl=>by simp) Si) h1 h2
 ·cases hu
def sE{b ts l k S9}(hk:oA P b ts l=some k)(hargs:cI m (l.map ρ) S9.toList)(hr:HR P m h w)(hs:mP k ρ h v h')(T:TypeId)(cs:Array Bool):
  ∃cv w' m',(builtin b ts T cs S9).run P w=.ok (.value cv) w'/\VR m' v cv/\HR P m' h' w'/\Grow m h w m' h' w':=by
 have same:∀{cv:Value},(builtin b ts T cs S9).run P w=.ok (.value cv) w->VR m v cv->h' =h->∃cv w' m',(builtin b ts T cs S9).run P w=.ok (.value cv) w'/\VR m' v cv/\HR P m' h' w'/\Grow m h w m' h' w':=by
  intro cv h1 h2 h3;exact z196
 have args1:∀{x:cX},cI m [ρ x] S9.toList->∃cx,S9=#[cx]/\VR m (ρ x) cx:=by
  intro x h1;obtain⟨cx,r,W9,UO,U6⟩:=aO.1 h1;rw[bE]at U6;subst U6;exact⟨cx,by apply abk;rw[W9],UO⟩
 have XU:∀{x y:cX},cI m [ρ x,ρ y] S9.toList->∃cx cy,S9=#[cx,cy]/\VR m (ρ x) cx/\VR m (ρ y) cy:=by
  intro x y h1;obtain⟨cx,r,W9,UO,U6⟩:=aO.1 h1;obtain⟨cy,r',hcy,hvy,hr1⟩:=aO.1 U6;rw[bE]at hr1;subst hr1;subst hcy;exact⟨cx,cy,by apply abk;rw[W9],UO,hvy⟩
 unfold oA at hk;split at hk
 ·
  rename_i x;obtain⟨cx,rfl,hx⟩:=args1 hargs;have ud:∀(lk:LK) (t0:TypeId) (d:TypeDesc),ts[0]? =some t0->P.underlying t0=some d->(match lk with|.sl=>∃e,d=.slice e|.st=>d=.string|.mp=>∃a b,d=.map a b)->dx (.len lk x) ρ h=some (v,h')->
    ∃cv w' m',(builtin .len ts T cs #[cx]).run P w=.ok (.value cv) w'/\VR m' v cv/\HR P m' h' w'/\Grow m h w m' h' w':=by
   intro lk t0 d T0 hu hd RH;simp only[dx]at RH;split at RH
   case h_2=>cases RH
   rename_i n hn;cases RH;have go:(Builtin.len_ ts T #[cx]).run P w=.ok (.int .i64 n) w:=by
    unfold zX at hn;split at hn
    ·rename_i s hρ;rw[hρ,VR]at hx;subst hx;split at hn
     case isFalse=>cases hn
     rename_i T5;subst T5;cases hn;cases hd;have:(⟨⟨s⟩⟩:ByteArray).size=s.length:=rfl;simp[Builtin.len_,T0,Zh hu,goInt,this]
    ·rename_i b o n' es hρ;rw[hρ]at hx;obtain⟨_,ca,cap,_,rfl,_⟩:=hx;exact Kx
    ·rename_i hρ;rw[hρ,VR]at hx;subst hx;exact Kx
    ·rename_i r hρ;rw[hρ]at hx;obtain⟨e,he,rfl⟩:=hx;split at hn
     case h_2=>cases hn
     rename_i es hb;split at hn
     case isFalse=>cases hn
     rename_i T5;subst T5;cases hn;obtain⟨a,b,rfl⟩:=hd;obtain⟨_,TV,clock,hheap,hlen,_⟩:=hr.dR r e _ he hb;simp[Builtin.len_,T0,Zh hu,goInt,kB hheap rfl,hlen]
    ·rename_i hρ;rw[hρ,VR]at hx;subst hx;split at hn
     case isFalse=>cases hn
     rename_i T5;subst T5;cases hn;obtain⟨a,b,rfl⟩:=hd;simp[Builtin.len_,T0,Zh hu,goInt]
    ·cases hn
   exact⟨.int .i64 n,w,m,by simp only[builtin,Zj,go,Y8,ZB],rfl,hr,Grow.refl m h w hr.cK⟩
  split at hk
  ·rename_i e hd;cases hk;obtain⟨t0,T0,UF⟩:=Z1.1 hd;exact ud .sl t0 _ T0 UF ⟨e,rfl⟩ hs
  ·rename_i hd;cases hk;obtain⟨t0,T0,UF⟩:=Z1.1 hd;exact ud .st t0 _ T0 UF rfl hs
  ·rename_i a b hd;cases hk;obtain⟨t0,T0,UF⟩:=Z1.1 hd;exact ud .mp t0 _ T0 UF ⟨a,b,rfl⟩ hs
  ·rename_i n e hd;cases hk;obtain⟨t0,T0,UF⟩:=Z1.1 hd;have RH:dx (.zW n) ρ h=some (v,h'):=hs;simp only[dx,Zu,abc]at RH;obtain⟨rfl,rfl⟩:=RH;exact same (cv:=.int .i64 n) (by simp[builtin,Builtin.len_,T0,Zh UF,goInt]) rfl rfl
  ·cases hk
 ·
  rename_i x y;obtain⟨cx,cy,rfl,hx,hy⟩:=XU hargs;have appF:∀(e:TypeId) (i:TypeInfo) (d:TypeDesc),(ts[0]?).bind (dU P)=some (e,i)->(ts[1]?).bind P.underlying=some d->(∀k,d≠.int k)->
    (if 0<i.size/\0<i.bytes/\i.bytes<=2^20 then(i.zero.bind (mE 4)).bind λz=>if z.cells.length=i.size then some (pf.app i.size i.bytes x y)else none else none)=some k->
    ∃cv w' m',(builtin .append ts T cs #[cx,cy]).run P w=.ok (.value cv) w'/\VR m' v cv/\HR P m' h' w'/\Grow m h w m' h' w':=by
   intro e i d h0 h1 hd hk;obtain⟨sT,hts0,hsl⟩:=Z1.1 h0;obtain⟨xT,hts1,hud⟩:=Z1.1 h1;split at hk
   case isFalse=>cases hk
   rename_i hc;obtain⟨c1,c2,c3⟩:=hc;obtain⟨z,hz,hk⟩:=Z1.1 hk;split at hk
   case isFalse=>cases hk
   rename_i hzl;cases hk;obtain⟨cv,w',m',h2,h3,h4,h5⟩:=K3 (w:=w) hts0 hts1 hsl c1 c2 c3 hud hd hz hzl hr hx hy hs T;exact⟨cv,w',m',by simp only[builtin,Zj,h2,Y8,ZB],h3,h4,h5⟩
  split at hk
  ·rename_i e i e2 h0 h1;exact appF e i _ h0 h1 (λk=>by simp) hk
  ·rename_i e i h0 h1;exact appF e i _ h0 h1 (λk=>by simp) hk
  ·cases hk
 ·
  rename_i x y;obtain⟨cx,cy,rfl,hx,hy⟩:=XU hargs;split at hk
  case h_2=>cases hk
  rename_i e i h0;split at hk
  case isFalse=>cases hk
  rename_i hpos;cases hk;obtain⟨dT,hts0,hsl⟩:=Z1.1 h0;obtain⟨cv,w',m',h2,h3,h4,h5⟩:=KY (w:=w) hts0 hsl hpos hr hx hy hs T;exact⟨cv,w',m',by simp only[builtin,Zj,h2,Y8,ZB],h3,h4,h5⟩
 ·
  rename_i x l;cases hk;have RH:dx (.mx x l) ρ h=some (v,h'):=hs;simp only[dx]at RH;split at RH
  case h_2=>cases RH
  rename_i u hu;cases RH;obtain⟨cx,r,W9,UO,RK⟩:=aO.1 hargs;obtain⟨cv,h1,h2⟩:=wh (P:=P) (w:=w) UO RK hu;exact same (by simp only[builtin,Builtin.max_,W9,Zj,h1,Y8,ZB]) h2 rfl
 ·
  rename_i x l;cases hk;have RH:dx (.mn x l) ρ h=some (v,h'):=hs;simp only[dx]at RH;split at RH
  case h_2=>cases RH
  rename_i u hu;cases RH;obtain⟨cx,r,W9,UO,RK⟩:=aO.1 hargs;obtain⟨cv,h1,h2⟩:=wg (P:=P) (w:=w) UO RK hu;exact same (by simp only[builtin,Builtin.min_,W9,Zj,h1,Y8,ZB]) h2 rfl
 ·cases hk
def w7{o:Oper}{k:pf}(hc:dY P o=some k)(hρ:∀x∈o.op.operands,∀x',cS x=some x'->VR m (ρ x') (σ x))(hcst:∀z,ρ (.c z)=z)(hr:HR P m h w)(hs:mP k ρ h v h'):
  eU P m h w v h' ((execOp σ o).run P w):=by
 unfold dY at hc;cases RI:o.op with
 |move x=>
  exact QN
 |assign x=>
  exact QN
 |pick c a b=>
  simp only[RI]at hc;split at hc
  case h_2=>cases hc
  rename_i c' a' b' Tg Xb hb';cases hc;have RH:dx (.pick c' a' b') ρ h=some (v,h'):=hs;simp only[dx]at RH;split at RH
  case h_2=>cases RH
  rename_i t ht;cases RH;have h1:=hρ c (by simp[RI,Op.operands]) c' Tg;rw[ht,VR]at h1;refine eU.same (cv:=if t then σ a else σ b) hr ?_ (by simp[execOp,RI,h1,asBool]);cases t
  ·exact hρ b (by simp[RI,Op.operands]) b' hb'
  ·exact hρ a (by simp[RI,Op.operands]) a' Xb
 |alloc e=>
  simp only[RI]at hc;split at hc
  case h_2=>cases hc
  rename_i z hz;split at hc
  case isFalse=>cases hc
  rename_i h1;cases hc;have RH:dx (.box (.c z)) ρ h=some (v,h'):=hs;simp only[dx,hcst,h1,Zi,Zu,abc]at RH;obtain⟨rfl,rfl⟩:=RH;obtain⟨cz,Uv,U5⟩:=jU hz w m;obtain⟨m',h2,h3,h4,h5⟩:=tg hr U5 h1 e true false;exact⟨_,_,m',.inl (by simp only[execOp,RI,Instr.alloc,Zj,Uv,Y8,h2,ZB]),h3,h4,h5⟩
 |box e x=>
  simp only[RI,Zk]at hc;obtain⟨x',RN,rfl⟩:=hc;have RH:dx (.box x') ρ h=some (v,h'):=hs;simp only[dx]at RH;split at RH
  case isFalse=>cases RH
  rename_i h1;cases RH;obtain⟨m',h2,h3,h4,h5⟩:=tg hr (hρ x (by simp[RI,Op.operands]) x' RN) h1 e true false;exact⟨_,_,m',.inl (by simp only[execOp,RI,Instr.box,Zj,Y8,h2,ZB]),h3,h4,h5⟩
 |build t ps=>
  simp only[RI]at hc;split at hc
  case h_2=>cases hc
  rename_i z l hz hl;split at hc
  case isFalse=>cases hc
  rename_i hp;cases hc;have RH:dx (.build z.cells l) ρ h=some (v,h'):=hs;exact eU.nG hr (DQ (w:=w) (σ:=σ) hz hl hp (λp hp y hy=>hρ p.2 (by simp only[RI,Op.operands];simp only[List.mem_toArray,Zv];exact⟨p,hp,rfl⟩) y hy) RH) (λcv h=>by simp[execOp,RI,h])
 |buildSlice t n ps=>
  simp only[RI]at hc;split at hc
  case h_2=>cases hc
  rename_i e i hsl;split at hc
  case h_2=>cases hc
  rename_i z l hz hl;split at hc
  case isFalse=>cases hc
  rename_i R3;obtain⟨h1,h2,h3,h4⟩:=R3;cases hc;obtain⟨c,mu,tl,S4,hc1,hcl,rfl,rfl⟩:=hs;exact eU.zx (BH (w:=w) (σ:=σ) hsl hz hl h1 h2 h3 h4 hr (λp hp y hy=>hρ p.2 (by simp only[RI,Op.operands];simp only[List.mem_toArray,Zv];exact⟨p,hp,rfl⟩) y hy) S4 hc1 hcl mu tl) (λcv w' h=>by simp[execOp,RI,h])
 |load t a=>
  simp only[RI]at hc;split at hc
  case h_2=>cases hc
  rename_i n a' hn Xb;cases hc;exact eU.nG hr (BG hn hr (hρ a (by simp[RI,Op.operands]) a' Xb) hs) (λcv h=>by simp[execOp,RI,h])
 |store t a x=>
  simp only[RI]at hc;split at hc
  case h_2=>cases hc
  rename_i n a' x' hn Xb RN;cases hc;obtain⟨w',h1,rfl,h2,h3⟩:=DN (w:=w) hn hr (hρ a (by simp[RI,Op.operands]) a' Xb) (hρ x (by simp[RI,Op.operands]) x' RN) hs;exact⟨undef,w',m,.inr ⟨by simp[execOp,RI,h1],rfl⟩,jV m,h2,h3⟩
 |nilCheck x=>
  simp only[RI,Zk]at hc;obtain⟨x',RN,rfl⟩:=hc;have RH:dx (.bP x') ρ h=some (v,h'):=hs;have h1:=hρ x (by simp[RI,Op.operands]) x' RN;simp only[dx]at RH;split at RH
  ·rename_i b o hv;cases RH;rw[hv]at h1;have h1':=h1;obtain⟨e,he,h2⟩:=h1;exact eU.same hr h1' (by simp[execOp,RI,h2])
  ·rename_i f a c hv;exact Nx
  ·rename_i f a c hv;cases RH;rw[hv]at h1;have h1':=h1;obtain⟨f',a',c',h2,h3,_⟩:=h1;obtain⟨e,he,rfl⟩:=h3;exact eU.same hr h1' (by simp[execOp,RI,h2])
  ·rename_i t' n a c hv;exact Nx
  ·rename_i t' p f q a c hv;exact Nx
  ·cases RH
 |binOp op t x y ty=>
  simp only[RI]at hc;split at hc
  case h_2=>cases hc
  rename_i x' y' RN hy';have hx:=hρ x (by simp[RI,Op.operands]) x' RN;have hy:=hρ y (by simp[RI,Op.operands]) y' hy';have bin:∀{op':BinOp},o.op=.binOp op' t x y ty->k=.bin op' x' y'->eU P m h w v h' ((execOp σ o).run P w):=by
   intro op' ho hk;subst hk;exact eU.zx (KZ (op:=op') (t:=t) (ox:=x) (oy:=y) hr hx hy hs) (λcv w' h=>by simp only[execOp,ho];rw[Zj,h];rfl)
  have eqv:∀(neg:Bool),o.op=.binOp (if neg then .neq else .eql) t x y ty->Is P neg t x' y' =some k->eU P m h w v h' ((execOp σ o).run P w):=by
   intro neg ho hk;have hk0:=hk;unfold Is at hk;split at hk
   ·cases hk;exact bin ho rfl
   ·cases hk;exact bin ho rfl
   ·cases hk;exact bin ho rfl
   ·exact z24
   ·exact QH
   ·exact QH
   ·exact z24
   ·exact z24
   ·exact z24
   ·exact z24
   ·cases hk
  split at hc
  ·exact eqv false RI hc
  ·exact eqv true RI hc
  ·cases hc;exact bin RI rfl
 |unOp op t x=>
  simp only[RI,Zk]at hc;obtain⟨x',RN,rfl⟩:=hc;have RH:dx (.un op x') ρ h=some (v,h'):=hs;simp only[dx]at RH;split at RH
  case h_2=>cases RH
  rename_i u hu;cases RH;obtain⟨cv,h1,h2⟩:=DR (P:=P) (w:=w) (hρ x (by simp[RI,Op.operands]) x' RN) hu;exact eU.same hr h2 (by simp[execOp,RI,h1])
 |convert s d x=>
  simp only[RI]at hc;split at hc
  case h_2=>cases hc
  rename_i ck x' Td RN;cases hc;exact eU.zx (Hy Td hr (hρ x (by simp[RI,Op.operands]) x' RN) hs) (λcv w' h=>by simp[execOp,RI,h])
 |makeInterface u x=>
  simp only[RI]at hc;split at hc
  ·cases hc
  ·rename_i d x' hni hd RN;cases hc;have RH:dx (.conv (.uM u) x') ρ h=some (v,h'):=hs;simp only[dx,kg,Zu,abc]at RH;obtain⟨rfl,rfl⟩:=RH;have UN:=hρ x (by simp[RI,Op.operands]) x' RN;refine eU.same (cv:=.iface u (σ x)) hr ⟨_,rfl,UN⟩ ?_;simp only[execOp,RI,Instr.makeInterface,Zj,Zh hd,Y8];cases d<;>first|rfl|exact absurd rfl (hni _)
  ·cases hc
 |makeFunc fn a c=>
  simp only[RI]at hc;split at hc
  case isFalse=>cases hc
  rename_i hfn;split at hc
  case h_2=>cases hc
  rename_i a' c' Xb Tg;cases hc;have RH:dx (.uc fn a' c') ρ h=some (v,h'):=hs;simp only[dx,Zu,abc]at RH;obtain⟨rfl,rfl⟩:=RH;have h1:=nV (m:=m) (ρ:=ρ) (σ:=σ) Xb (λx hx=>hρ x (by simp only[RI,Op.operands];exact Array.mem_append.2 (.inl hx)));have h2:=nV (m:=m) (ρ:=ρ) (σ:=σ) Tg (λx hx=>hρ x (by simp only[RI,Op.operands];exact Array.mem_append.2 (.inr hx)));refine eU.same (cv:=.func fn (a.map σ) (c.map σ)) hr ⟨fn,(a.map σ).toList,(c.map σ).toList,rfl,?_,h1,h2⟩ (by simp[execOp,RI,Instr.makeFunc]);cases fn<;>first
   |rfl
   |(cases hfn;done)
 |makeMap t r=>
  simp only[RI]at hc;cases r with
  |some _=>simp at hc
  |none=>
   simp only[Zu]at hc;subst hc;have RH:dx .mJ ρ h=some (v,h'):=hs;simp only[dx,Zu,abc]at RH;obtain⟨rfl,rfl⟩:=RH;have XJ:=ki hr (.map #[] 0) (.bf []) ⟨w.heap.size,0,0,true⟩ rfl rfl (λm' _=>⟨rfl,#[],0,World.alloc_heap_new w _,rfl,λi p hp=>by simp at hp⟩);exact⟨.map (some w.heap.size),_,_,.inl (by simp[execOp,RI,Instr.makeMap]),⟨⟨w.heap.size,0,0,true⟩,by simp[b9.add],rfl⟩,XJ.1,XJ.2⟩
 |makeSlice t l c=>
  simp only[RI]at hc;split at hc
  case h_2=>cases hc
  rename_i e i l' c' hsl RT Tg;split at hc
  case h_2=>cases hc
  rename_i z hz;split at hc
  case isFalse=>cases hc
  rename_i R3;obtain⟨h1,h2,h3⟩:=R3;cases hc;exact eU.zx (Ht hsl hz h1 h2 h3 hr (hρ l (by simp[RI,Op.operands]) l' RT) (hρ c (by simp[RI,Op.operands]) c' Tg) hs) (λcv w' h=>by simp[execOp,RI,h])
 |slice t x lo hi mx=>
  simp only[RI]at hc;cases mx with
  |some _=>simp at hc
  |none=>
   simp only at hc;split at hc
   case h_2=>cases hc
   rename_i x' lo' hi' RN hlo' hhi';have hx:=hρ x (by simp[RI,Op.operands]) x' RN;have hlo:=ri (m:=m) (ρ:=ρ) (σ:=σ) hlo' (λy hy=>hρ y (by simp only[RI,Op.operands];cases hy;simp));have hhi:=ri (m:=m) (ρ:=ρ) (σ:=σ) hhi' (λy hy=>hρ y (by simp only[RI,Op.operands];cases hy;simp));split at hc
   ·rename_i hu;cases hc;exact eU.nG hr (KU hu hx hlo hhi hs) (λcv h=>by simp only[execOp,RI,abb];rw[Zj,h];rfl)
   ·rename_i e hu;simp only[Zk]at hc;obtain⟨n,hn,rfl⟩:=hc;exact eU.nG hr (N1 hu hn hx hlo hhi hs) (λcv h=>by simp only[execOp,RI,abb];rw[Zj,h];rfl)
   ·rename_i n e hu;simp only[Zk]at hc;obtain⟨es,hes,rfl⟩:=hc;exact eU.nG hr (KV hu hes hr hx hlo hhi hs) (λcv h=>by simp only[execOp,RI,abb];rw[Zj,h];rfl)
   ·cases hc
 |fieldAddr t x i=>
  simp only[RI]at hc;split at hc
  case h_2=>cases hc
  rename_i f x' hf RN;split at hc
  case h_2=>cases hc
  rename_i n hn;split at hc
  case isFalse=>cases hc
  rename_i hpos;cases hc;exact eU.nG hr (Hx hf hn hpos (hρ x (by simp[RI,Op.operands]) x' RN) hs) (λcv h=>by simp[execOp,RI,h])
 |indexAddr t x i=>
  simp only[RI]at hc;split at hc
  case h_2=>cases hc
  rename_i x' i' RN hi';have hx:=hρ x (by simp[RI,Op.operands]) x' RN;have hi:=hρ i (by simp[RI,Op.operands]) i' hi';split at hc
  ·rename_i e hu;simp only[Zk]at hc;obtain⟨n,hn,rfl⟩:=hc;exact eU.nG hr (Hv hu hn hx hi hs) (λcv h=>by simp[execOp,RI,h])
  ·rename_i len e hu;simp only[Zk]at hc;obtain⟨n,hn,rfl⟩:=hc;exact eU.nG hr (Hw hu hn hx hi hs) (λcv h=>by simp[execOp,RI,h])
  ·cases hc
 |field t x i=>
  simp only[RI]at hc;split at hc
  case h_2=>cases hc
  rename_i f x' hf RN;simp only[Zk]at hc;obtain⟨n,hn,rfl⟩:=hc;exact eU.nG hr (DO hf hn (hρ x (by simp[RI,Op.operands]) x' RN) hs) (λcv h=>by simp[execOp,RI,h])
 |index t x i=>
  simp only[RI]at hc;split at hc
  case h_2=>cases hc
  rename_i x' i' RN hi';have hx:=hρ x (by simp[RI,Op.operands]) x' RN;have hi:=hρ i (by simp[RI,Op.operands]) i' hi';split at hc
  ·rename_i hu;cases hc;exact eU.nG hr (KW hu hx hi hs) (λcv h=>by simp[execOp,RI,h])
  ·rename_i len e hu;split at hc
   case h_2=>cases hc
   rename_i n q hn hq;cases hc;exact eU.nG hr (KX hu hn hq hx hi hs) (λcv h=>by simp[execOp,RI,h])
  ·cases hc
 |lookup t x i ok=>
  simp only[RI]at hc;split at hc
  case h_2=>cases hc
  rename_i kt e x' i' hu RN hi';split at hc
  case h_2=>cases hc
  rename_i kk z hkk hz;cases hc;exact eU.nG hr (Hu hu hkk hz hr (hρ x (by simp[RI,Op.operands]) x' RN) (hρ i (by simp[RI,Op.operands]) i' hi') hs) (λcv h=>by simp[execOp,RI,h])
 |mapUpdate t x i y=>
  exact QP
 |insert t x i y=>
  exact QP
 |range t x=>
  simp only[RI]at hc;split at hc
  case h_2=>cases hc
  rename_i hu;simp only[Zk]at hc;obtain⟨x',RN,rfl⟩:=hc;exact eU.zx (Hq hu hr (hρ x (by simp[RI,Op.operands]) x' RN) hs) (λcv w' h=>by simp[execOp,RI,h])
 |next x isS=>
  simp only[RI]at hc;cases isS with
  |false=>simp at hc
  |true=>
   simp only[Zk]at hc;obtain⟨x',RN,rfl⟩:=hc;exact eU.zx (DP (t:=o.type) hr (hρ x (by simp[RI,Op.operands]) x' RN) hs) (λcv w' h=>by simp[execOp,RI,h])
 |extract x i=>
  simp only[RI,Zk]at hc;obtain⟨x',RN,rfl⟩:=hc;have RH:dx (.ext x' i) ρ h=some (v,h'):=hs;simp only[dx]at RH;split at RH
  case h_2=>cases RH
  rename_i l hl;split at RH
  case h_2=>cases RH
  rename_i u hu;cases RH;have h1:=hρ x (by simp[RI,Op.operands]) x' RN;rw[hl]at h1;obtain⟨l',h2,h3⟩:=h1;obtain⟨cv,TQ,RK⟩:=h3.get hu;exact eU.same hr RK (by simp[execOp,RI,Instr.extract,h2,TQ])
 |call c=>
  simp only[RI]at hc;split at hc
  case h_2=>cases hc
  rename_i l hl;have hargs:=nV (m:=m) (ρ:=ρ) (σ:=σ) hl (λx hx=>hρ x (by simp only[RI,Op.operands,Call.operands];exact Array.mem_append.2 (.inr hx)));split at hc
  ·exact z154
  ·exact z154
  ·rename_i b hb;obtain⟨cv,w',m',h1,h2,h3,h4⟩:=sE (w:=w) hc hargs hr hs o.type (c.args.map λ|.const _=>true|_=>false);refine⟨cv,w',m',.inl ?_,h2,h3,h4⟩;simp only[execOp,RI,resolve,hb,Zj,ZB,Y8,invoke];exact h1
 |_=>simp[RI]at hc
end
def Rel(P:Program)(m:b9)(h:ah)(w:World)(v:AV)(h':ah)(e:Ending)(w':World):Prop:=
 ∃cv m',e=.returned cv/\VR m' v cv/\HR P m' h' w'/\Grow m h w m' h' w'
def lP(P:Program)(f:FuncId)(args:List AV)(h:ah)(v:AV)(h':ah):Prop:=
 ∀(m:b9) (w:World) (vs:List Value),HR P m h w->cI m args vs->Calls P f ⟨vs⟩ w (Rel P m h w v h')
def Dj(P:Program)(R:Ending->World->Prop):Result Next->Prop
 |.ok (.value cv) w'=>R (.returned cv) w'
 |.ok (.enter f args) w'=>CallsIn Fence.wide 0 P f args w' R
 |.ok (.round l f tmps asg body) w'=>RoundIn Fence.wide 0 P l f tmps asg body w' R
 |_=>False
def fh(P:Program)(fv:AV)(args:List AV)(h:ah)(v:AV)(h':ah):Prop:=
 ∀(m:b9) (w:World) (cv:Value) (vs:List Value),HR P m h w->VR m fv cv->cI m args vs->
  ∃d,(∀w,(Deferred.ofValue cv ⟨vs⟩).run P w=.ok d w)/\Dj P (Rel P m h w v h') ((invoke d.target d.args).run P w)
def pL(P:Program)(k:pf)(ρ:cX->AV)(h:ah)(v:AV)(h':ah):Prop:=
 match k with
 |.call f args=>fh P (ρ f) (args.map ρ) h v h'
 |k=>mP k ρ h v h'
abbrev Fd(ro:Option Nat):Fence:={Fence.wide with round:=ro}
def kC{P f fn args w}(hf:P.funcs[f]? =some fn)(hb:fn.body.isSome=true)(hn:(fn.name == "runtime.NumGoroutine")=false):
  (callFunc f args).run P w=.ok (.enter f args) w:=by
 have hb':fn.body≠none:=by cases h:fn.body<;>simp_all
 have Wd:fn.name≠ "runtime.NumGoroutine":=by simpa using hn
 simp[callFunc,Zj,run_program,hf,Wd,hb',Result.andThen]
section
variable {P:Program}{m:b9}{h h':ah}{w:World}{v:AV}
def qL{ro:Option Nat}{o:Oper}{a:Act}{next:Act->World->Prop}{Q:Exit->Act->World->Prop}{r:Result Next}
  (hr:Dj P (Rel P m h w v h') r) (hn:∀cv m' w',VR m' v cv->HR P m' h' w'->Grow m h w m' h' w'->next (a.put o.dst cv) w'):o.uponIn (Fd ro) 0 P a next Q r:=by
 cases r with
 |halt x w'=>exact hr.elim
 |ok x w'=>
  cases x<;>first
   |exact hr.elim
   |skip
  case value cv=>
   obtain⟨cv',m',he,h1,h2,h3⟩:=hr;cases he;exact hn cv m' w' h1 h2 h3
  case enter f args=>
   rw[Oper.uponIn_enter];refine⟨λhd=>by simp[Fd,Fence.wide]at hd,CallsIn.mono (F:=Fd ro) (show CallsIn (Fd ro) (0-1) P f args w' (Rel P m h w v h')from hr) λe w'' he=>?_⟩;exact JZ
  case round l f tmps asg body=>
   rw[Oper.uponIn_round];refine⟨λhd=>by simp[Fd,Fence.wide]at hd,RoundIn.mono (F:=Fd ro) (show RoundIn (Fd ro) (0-1) P l f tmps asg body w' (Rel P m h w v h')from hr) λe w'' he=>?_⟩;exact JZ
def vv{o:Oper}{k:pf}{ρ:cX->AV}(hc:dY P o=some k){a:Act}(hρ:∀x∈o.op.operands,∀x',cS x=some x'->VR m (ρ x') (a.eval x))(hcst:∀z,ρ (.c z)=z)
  (hr:HR P m h w) (hs:pL P k ρ h v h') (ro:Option Nat) (next:Act->World->Prop) (Q:Exit->Act->World->Prop)
  (hn:∀cv m' w',VR m' v cv->HR P m' h' w'->Grow m h w m' h' w'->next (a.put o.dst cv) w'):o.wpIn (Fd ro) 0 P a w next Q:=by
 refine⟨λ_ _=>trivial,?_⟩;have hdef:∀c,o.op≠.defer c:=by
  intro c RI;simp[dY,RI]at hc
 rw[Oper.semAt_eq _ _ _ hdef];by_cases Ub:∃f args,k=.call f args
 ·obtain⟨f,args,rfl⟩:=Ub;have RH:fh P (ρ f) (args.map ρ) h v h':=hs;cases RI:o.op with
  |call c=>
   have Tg:=hc;simp only[dY,RI]at Tg;split at Tg
   case h_2=>cases Tg
   rename_i l hl;have hargs:=nV (m:=m) (ρ:=ρ) (σ:=a.eval) hl (λx hx=>hρ x (by simp only[RI,Op.operands,Call.operands];exact Array.mem_append.2 (.inr hx)));split at Tg
   ·rename_i g hg;simp only[Zk]at Tg;obtain⟨g',R6,he⟩:=Tg;cases he;have hf:=hρ g (by simp[RI,Op.operands,Call.operands,hg]) _ R6;obtain⟨d,hd,haf⟩:=RH m w _ _ hr hf hargs;refine qL (m:=m) (h:=h) (w:=w) (v:=v) (h':=h') ?_ hn;simp only[execOp,RI,resolve,hg,Zj];have Sh:(Deferred.ofValue (a.eval g) (c.args.map a.eval)).run P w=.ok d w:=hd w;rw[Sh];exact haf
   ·rename_i r name hg;simp only[Zk]at Tg;obtain⟨r',hr',he⟩:=Tg;cases he;have hrv:=hρ r (by simp[RI,Op.operands,Call.operands,hg]) _ hr';have hf:VR m (ρ (.c (.func (.method name) [] []))) (.func (.method name) #[] #[]):=by
     rw[hcst,VR];exact⟨_,[],[],rfl,rfl,rfl,rfl⟩
    obtain⟨d,hd,haf⟩:=RH m w _ (a.eval r:: (c.args.map a.eval).toList) hr hf (aO.2 ⟨_,_,rfl,hrv,hargs⟩);refine qL (m:=m) (h:=h) (w:=w) (v:=v) (h':=h') ?_ hn;simp only[execOp,RI,resolve,hg,Zj];have Sh:=hd w;have:(#[]++(⟨a.eval r:: (c.args.map a.eval).toList⟩:Array Value))=#[a.eval r]++c.args.map a.eval:=by
     apply abk;simp
    simp only[Deferred.ofValue,this]at Sh;cases Sh;exact haf
   ·rename_i b hb;exfalso;unfold oA at Tg
    repeat' split at Tg
    all_goals first|(cases Tg;done)|(simp only[Z1]at Tg;obtain⟨z,_,hz⟩:=Tg;split at hz<;>cases hz)
  |makeMap t r=>cases r<;>simp[dY,RI]at hc
  |next x b=>
   cases b
   ·simp[dY,RI]at hc
   ·simp[dY,RI,Zk]at hc
  |slice t x lo hi mx=>
   cases mx with
   |some _=>simp[dY,RI]at hc
   |none=>
    exfalso;simp only[dY,RI]at hc
    repeat' split at hc
    all_goals first
     |(cases hc;done)
     |(simp[Zk]at hc;done)
  |_=>
   exfalso;simp only[dY,RI]at hc
   repeat' split at hc
   all_goals first
    |(cases hc;done)
    |(simp[Zk,Z1]at hc;done)
    |(unfold Is at hc;repeat' split at hc;all_goals first|(cases hc;done)|(simp[Zk]at hc;done))
 ·have RH:mP k ρ h v h':=by
   cases k<;>first|exact hs|exact absurd ⟨_,_,rfl⟩ Ub
  obtain⟨cv,w',m',he,h1,h2,h3⟩:=w7 (w:=w) hc hρ hcst hr RH;rcases he with he|⟨he,rfl⟩
  ·rw[he];exact hn cv m' w' h1 h2 h3
  ·rw[he];exact hn undef m' w' h1 h2 h3
def GV(P:Program)(m:b9):Prop:=∀g,g<P.globals.size->∃e,m g=some e/\e.cb=g/\e.d=0
def HR.gv(hr:HR P m h w):GV P m:=λg hg=>by obtain⟨e,h1,h2,h3,_⟩:=hr.fX g hg;exact⟨e,h1,h2,h3⟩
def y6(hg:GV P m){ts:TS}{a:Act}{x:Operand}{x':cX}(hx:cS x=some x')(hok:Nf P x=true)(ht:∀t,x=.tmp t->VR m (ts.getD t az) (a.tmps.getD t undef)):VR m (val ts x') (a.eval x):=by
 cases x with
 |tmp t=>cases hx;exact ht t rfl
 |const c=>
  simp only[cS,Zk]at hx;obtain⟨y,hy,rfl⟩:=hx;exact qA m 4 _ _ hy
 |global g=>
  cases hx;simp only[Nf,ZJ]at hok;obtain⟨e,he,hcb,hd⟩:=hg g hok;exact⟨e,he,by rw[hcb,hd];rfl⟩
 |func f=>cases hx;exact⟨.func f,[],[],rfl,rfl,rfl,rfl⟩
def nP{ts:TS}{vs:Array Value}(h:cI m ts vs.toList)(t:Nat):VR m (ts.getD t az) (vs.getD t undef):=by
 have hl:=h.length;by_cases ht:t<ts.length
 ·have hx:ts[t]? =some ts[t]:=YU ht;obtain⟨y,hy,hr⟩:=h.get hx;have e1:ts.getD t az=ts[t]:=by simp[List.getD,hx]
  have e2:vs.getD t undef=y:=by
   simp only[aap]at hy;simp[ZK,hy]
  rw[e1,e2];exact hr
 ·have e1:ts.getD t az=az:=by simp[List.getD,aaR (by omega:ts.length<=t)]
  have e2:vs.getD t undef=undef:=by
   have:vs.size<=t:=by simp at hl;omega
   simp[ZK,aas this]
  rw[e1,e2];exact jV m
def D6{ts:TS}{a:Act}(h:cI m ts a.tmps.toList){x:AV}{cv:Value}(hx:VR m x cv)(d:Option Nat):cI m (put ts d x) (a.put d cv).tmps.toList:=by
 cases d with
 |none=>exact h
 |some d=>simp only[put,Act.put,Array.toList_setIfInBounds];exact h.set d hx
def put_defers(a:Act)(d:Option Nat)(cv:Value):(a.put d cv).defers=a.defers:=by cases d<;>rfl
def qK{ts:TS}{a:Act}{ops:Array Oper}{o:Oper}{g:Option (Nat×Bool)}(hg:uf ops o.guard=some g)
  (ht:∀t b,g=some (t,b)->(t<ts.length↔t<a.tmps.size)/\VR m (ts.getD t az) (a.tmps.getD t undef)):Region.wanted o (yielded ops a.tmps)=true↔wanted g ts:=by
 unfold uf at hg;unfold Region.wanted wanted;cases U8:o.guard with
 |none=>rw[U8]at hg;cases hg;simp
 |some p=>
  obtain⟨j,b⟩:=p;rw[U8]at hg;simp only[Zk]at hg;obtain⟨d,hd,rfl⟩:=hg;simp only[yielded,hd,Option.bind_some,beq_iff_eq];obtain⟨hlt,RK⟩:=ht d b rfl;by_cases hdl:d<ts.length
  ·have Va:=hlt.1 hdl;have e1:ts.getD d az=ts[d]:=by simp[List.getD,YU hdl]
   have e2:a.tmps.getD d undef=a.tmps[d]:=by simp[ZK,ZO Va]
   rw[e1,e2]at RK;rw[ZO Va,YU hdl];generalize a.tmps[d]=cv at RK;generalize ts[d]=av at RK;cases av with
   |bool t=>rw[VR]at RK;subst RK;simp
   |int k n=>rw[VR]at RK;subst RK;simp
   |wR k n=>rw[VR]at RK;obtain⟨_,rfl,_⟩:=RK;simp
   |wy k x y=>rw[VR]at RK;obtain⟨_,_,rfl,_⟩:=RK;simp
   |str s=>rw[VR]at RK;subst RK;simp
   |ptr b o=>rw[VR]at RK;obtain⟨_,_,rfl⟩:=RK;simp
   |nilPtr=>rw[VR]at RK;subst RK;simp
   |slice b o n e=>rw[VR]at RK;obtain⟨_,_,_,_,rfl,_⟩:=RK;simp
   |af=>rw[VR]at RK;subst RK;simp
   |map r=>rw[VR]at RK;obtain⟨_,_,rfl⟩:=RK;simp
   |db=>rw[VR]at RK;subst RK;simp
   |func f x y=>rw[VR]at RK;obtain⟨_,_,_,rfl,_⟩:=RK;simp
   |nilFunc=>rw[VR]at RK;subst RK;simp
   |agg l=>rw[VR]at RK;obtain⟨_,rfl,_⟩:=RK;simp
   |dM l=>rw[VR]at RK;obtain⟨_,rfl,_⟩:=RK;simp
   |uM u l=>rw[VR]at RK;obtain⟨_,rfl,_⟩:=RK;simp
   |kE=>rw[VR]at RK;subst RK;simp
  ·have Va:¬d<a.tmps.size:=λx=>hdl (hlt.2 x)
   rw[aas Om,aaR Om];simp
inductive dB (P:Program) (o:bI) (ts:TS) (h:ah):TS->ah->Prop
 |run {v:AV}{h':ah}(hw:wanted o.gd ts) (hb:ue o.dst o.k ts.length) (hs:pL P o.k (val ts) h v h'):dB P o ts h (put ts o.dst v) h'
 |skip (hw:¬wanted o.gd ts):dB P o ts h (put ts o.dst az) h
def yr(P:Program):List bI->TS->ah->TS->ah->Prop
 |[],ts,h,ts',h'=>ts' =ts/\h' =h
 |o::r,ts,h,ts',h'=>∃Tt h1,dB P o ts h Tt h1/\(o.q=true->∃g,h1=h++g)/\yr P r Tt h1 ts' h'
structure St(P:Program)(m:b9)(ts:TS)(h:ah)(a:Act)(w:World):Prop where
 hr:HR P m h w
 ts:cI m ts a.tmps.toList
def oM{ρ}:¬pL P .bad ρ h v h':=λhs=>by
 have RH:dx .bad ρ h=some (v,h'):=hs;simp[dx]at RH
def fw{ops:Array Oper}{i:Nat}{o:Oper}(ho:ops[i]? =some o){q:Bool}{io:bI}(hc:bT P ops q o=some io){ts ts':TS}{a:Act}
  (hg:GV P m) (hr:HR P m h w) (hlen:a.tmps.size=ts.length)
  (ht:∀t,t∈o.looksAt ops->VR m (ts.getD t az) (a.tmps.getD t undef)) (hs:dB P io ts h ts' h') (ro:Option Nat) (K:Act->World->Prop) (Q:Exit->Act->World->Prop)
  (hn:∀cv v m' w',ts' =put ts o.dst v->VR m' v cv->HR P m' h' w'->Grow m h w m' h' w'->K (a.put o.dst cv) w'):wpOpIn (Fd ro) 0 P ops Q i K a w:=by
 unfold bT at hc;split at hc
 case h_2=>cases hc
 rename_i g U8;cases hc;have hw:=qK (m:=m) (ts:=ts) (a:=a) U8 (λt b UX=>⟨Om,ht t (by
  unfold Oper.looksAt;refine List.mem_append_right _ ?_;unfold uf at U8;cases hog:o.guard with
  |none=>rw[hog]at U8;cases U8;cases UX
  |some p=>
   obtain⟨j,b'⟩:=p;rw[hog]at U8;simp only[Zk]at U8;obtain⟨d,hd,rfl⟩:=U8;cases UX;simp[hd])⟩)
 unfold wpOpIn;rw[ho];cases hs with
 |run hwa hb hs=>
  clear hb;simp only;rw[Zb (hw.2 hwa)];simp only at hs;split at hs
  case isFalse=>exact absurd hs oM
  rename_i hgok;cases hk:dY P o with
  |none=>rw[hk]at hs;exact absurd hs oM
  |some k=>
   rw[hk]at hs;refine vv hk (λx hx x' RN=>?_) (λz=>rfl) hr hs ro K Q (λcv m' w' h1 h2 h3=>hn cv _ m' w' rfl h1 h2 h3);exact QE
 |skip hwa=>
  simp only;rw[Y6 (λx=>hwa (hw.1 x))];exact⟨λ_ _=>trivial,hn undef _ m w rfl (jV m) hr (Grow.refl m h w hr.cK)⟩
theorem gf{α β:Type}{f:Nat->α->Option β}:∀{l:List α}{i:Nat}{r:List β},eO f l i=some r->r.length=l.length/\∀(j:Nat) (x:α),l[j]? =some x->∃y,r[j]? =some y/\f (i+j) x=some y
 |[],i,r,h=>by cases h;exact⟨rfl,λj x hx=>by simp at hx⟩
 |x::xs,i,r,h=>by
  unfold eO at h;split at h
  case h_2=>cases h
  rename_i y ys hy hys;cases h;obtain⟨h1,h2⟩:=gf hys;refine⟨by simp[h1],λj z hz=>?_⟩;cases j with
  |zero=>simp at hz;subst hz;exact⟨y,Si,hy⟩
  |succ j=>
   simp at hz;obtain⟨u,hu,hf⟩:=h2 j z hz;exact⟨u,by simpa using hu,by rw[show i+(j+1)=i+1+j from by omega];exact hf⟩
structure Row(P:Program)(l:List bI)(T:Nat->TS)(H:Nat->ah):Prop where
 step:∀i o,l[i]? =some o->dB P o (T i) (H i) (T (i+1)) (H (i+1))/\(o.q=true->∃g,H (i+1)=H i++g)
theorem yr.row:∀{l}{ts ts'}{h h'},yr P l ts h ts' h'->∃T H,T 0=ts/\H 0=h/\T l.length=ts'/\H l.length=h'/\Row P l T H
 |[],ts,ts',h,h',hs=>by
  obtain⟨rfl,rfl⟩:=hs;exact⟨λ_=>ts',λ_=>h',rfl,rfl,rfl,rfl,⟨λi o ho=>by simp at ho⟩⟩
 |o::r,ts,ts',h,h',hs=>by
  obtain⟨Tt,h1,bU,hq,hr⟩:=hs;obtain⟨T,H,hT,hH,Ti,hH',hrow⟩:=hr.row;refine⟨λi=>match i with| 0=>ts|i+1=>T i,λi=>match i with| 0=>h|i+1=>H i,rfl,rfl,Ti,hH',⟨λi x hx=>?_⟩⟩;cases i with
  |zero=>
   simp at hx;subst hx;show dB P o ts h (T 0) (H 0)/\_;rw[hT,hH];exact⟨bU,λq=>by show ∃g,H 0=h++g;rw[hH];exact hq q⟩
  |succ i=>exact hrow.step i x (by simpa using hx)
def nf(ts:TS)(d:Option Nat)(v:AV):(put ts d v).length=ts.length:=by cases d<;>simp[put]
theorem dB.put{o ts ts'}(hs:dB P o ts h ts' h'):∃v,ts' =put ts o.dst v:=by
 cases hs with
 |run=>exact⟨_,rfl⟩
 |skip=>exact⟨_,rfl⟩
def dw{ops q o io}(hc:bT P ops q o=some io):io.dst=o.dst/\io.q=q:=by
 unfold bT at hc;split at hc
 ·cases hc;exact⟨rfl,rfl⟩
 ·cases hc
def xO{ops:Array Oper}{l:List bI}(hc:cM P ops false=some l){ts ts':TS}{h h':ah}(hs:yr P l ts h ts' h'){m:b9}{a:Act}{w:World}(st:St P m ts h a w)(ro:Option Nat)
  (Q:Exit->Act->World->Prop) (hQ:∀m' a' w',St P m' ts' h' a' w'->Grow m h w m' h' w'->a'.defers=a.defers->Q .normal a' w') (id:Nat):(Code.region id ops false).wpIn (Fd ro) 0 P Q a w:=by
 refine wpIn_region ?_;obtain⟨T,H,rfl,rfl,rfl,rfl,hrow⟩:=hs.row;obtain⟨hlen,RP⟩:=gf (show eO (λ_ o=>bT P ops false o) ops.toList 0=some l from hc);simp only[aa4]at hlen;have key:∀(k j:Nat),j+k=ops.size->∀(m1:b9) (a1:Act) (w1:World),St P m1 (T j) (H j) a1 w1->Grow m (H 0) w m1 (H j) w1->a1.defers=a.defers->
   wpOpsIn (Fd ro) 0 P ops Q (List.range' j k) a1 w1:=by
  intro k
  induction k with
  |zero=>
   intro j hj m1 a1 w1 s1 g1 hd;have:j=l.length:=Om
   subst this;exact hQ m1 a1 w1 s1 g1 hd
  |succ k ih=>
   intro j hj m1 a1 w1 s1 g1 hd;rw[List.range'_succ,wpOpsIn_cons];have Yy:j<ops.size:=Om
   have ho:ops[j]? =some ops[j]:=ZO Yy;obtain⟨io,hio,RU⟩:=RP j ops[j] Si;obtain⟨bU,_⟩:=hrow.step j io hio;refine fw ho RU s1.hr.gv s1.hr (by simpa using s1.ts.length) (λt _=>nP s1.ts t) bU ro _ Q ?_;intro cv v m' w' RG h1 h2 h3;have hle:=h3.le s1.hr.cK;exact ih (j+1) Om m' _ w' ⟨h2,by rw[RG];exact D6 (cI.mono hle _ _ s1.ts) h1 _⟩ (g1.trans h3 st.hr.cK) (by rw[put_defers];exact hd)
 have:=key ops.size 0 Om m a w st (Grow.refl m _ w st.hr.cK) rfl
 rwa [<-List.range_eq_range']at this
end
end Go.Abs
