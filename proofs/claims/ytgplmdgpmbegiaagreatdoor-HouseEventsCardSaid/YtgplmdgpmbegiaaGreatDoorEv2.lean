/- A part of the proof that HouseEvents holds. No condition. -/
import Derived.Shelf.Strings.Builder1
import Derived.Shelf.Strings.Builder2
import Derived.Shelf.Strings.OnBuilder
import Derived.Test.YtgplmdgpmbegiaaGreatDoorProg
import Derived.Shelf.Strings.Repeat
import Derived.Tactics
import Derived.OrdersIn
import Derived.RangeFuncLeaves
import Derived.RangeFuncIn
import Derived.RangeFuncOwn
import Derived.Laws.Sem
import Derived.Laws.World
import Derived.Laws.Cells
import Derived.Laws.Entries
import Derived.Below
import Derived.MapKept
import Derived.Laws.Tables
import Derived.Laws.StructEq
import Derived.Test.YtgplmdgpmbegiaaGreatDoorEv0
set_option linter.all false
namespace Go.Proofs
open Go.Shelf
def Tryz.p7:Go.Shelf.Ren:=⟨λ| 156=>114| 165=>210| 166=>211| 169=>212| 240=>257| 241=>258| 276=>282| 277=>283|n=>n,λ| 31=>28| 9=>9| 3=>3| 4=>4| 0=>0| 20=>20| 72=>271| 76=>275| 70=>269| 37=>119| 75=>274| 127=>308| 164=>332| 5=>5| 80=>97|n=>n,λn=>n⟩
def Tryz.yW:Go.Proofs.Lays.n156 Tryz.prog Tryz.p7:={
 mixed:=by kernel_rfl
 f156:=Tryz.func114.trans (congrArg some (by kernel_rfl))
 f165:=Tryz.func210.trans (congrArg some (by kernel_rfl))
 f166:=Tryz.func211.trans (congrArg some (by kernel_rfl))
 f169:=Tryz.func212.trans (congrArg some (by kernel_rfl))
 f240:=Tryz.func257.trans (congrArg some (by kernel_rfl))
 f241:=Tryz.func258.trans (congrArg some (by kernel_rfl))
 f276:=Tryz.func282.trans (congrArg some (by kernel_rfl))
 f277:=Tryz.func283.trans (congrArg some (by kernel_rfl))
 t0:=Tryz.underlying0
 a0:=Tryz.isAgg0
 z0:=Tryz.sizeOf0
 v0:=Tryz.zeroValue0
 t3:=Tryz.underlying3
 a3:=Tryz.isAgg3
 z3:=Tryz.sizeOf3
 v3:=Tryz.zeroValue3
 t4:=Tryz.underlying4
 a4:=Tryz.isAgg4
 z4:=Tryz.sizeOf4
 v4:=Tryz.zeroValue4
 t9:=Tryz.underlying9
 a9:=Tryz.isAgg9
 z9:=Tryz.sizeOf9
 v9:=Tryz.zeroValue9
 t20:=Tryz.underlying20
 a20:=Tryz.isAgg20
 z20:=Tryz.sizeOf20
 v20:=Tryz.zeroValue20
 t31:=Tryz.underlying28
 a31:=Tryz.isAgg28
 z31:=Tryz.sizeOf28
 v31:=Tryz.zeroValue28
 t37:=Tryz.underlying119
 a37:=Tryz.isAgg119
 z37:=Tryz.sizeOf119
 v37:=Tryz.zeroValue119
 t70:=Tryz.underlying269
 a70:=Tryz.isAgg269
 z70:=Tryz.sizeOf269
 v70:=Tryz.zeroValue269
 t72:=Tryz.underlying271
 a72:=Tryz.isAgg271
 z72:=Tryz.sizeOf271
 v72:=Tryz.zeroValue271
 t75:=Tryz.underlying274
 a75:=Tryz.isAgg274
 z75:=Tryz.sizeOf274
 v75:=Tryz.zeroValue274
 t76:=Tryz.underlying275
 a76:=Tryz.isAgg275
 z76:=Tryz.sizeOf275
 v76:=Tryz.zeroValue275
 t127:=Tryz.underlying308
 a127:=Tryz.isAgg308
 z127:=Tryz.sizeOf308
 v127:=Tryz.zeroValue308
 t164:=Tryz.underlying332
 a164:=Tryz.isAgg332
 z164:=Tryz.sizeOf332
 v164:=Tryz.zeroValue332}
def Tryz.jK:Builder.Extra Tryz.prog Tryz.p7:={
 sizeBuilder:=by kernel_rfl
 liesBuilder:=by kernel_rfl
 t5:=Tryz.underlying5
 a5:=Tryz.isAgg5
 z5:=Tryz.sizeOf5
 v5:=Tryz.zeroValue5
 infoByte:=by kernel_rfl
 cellsByte:=by kernel_rfl
 sizeByte:=by kernel_rfl
 neB5:=by decide}
open Go.RowKit in
theorem Tryz.strings_Join_none(a:Option Addr)(c:Nat)(sep:ByteArray)(w:World):
  Calls Tryz.prog 114 #[.slice a 0 c,.string sep] w λe w'=>e=.returned (.string ⟨#[]⟩)/\w' =w:=Any.strings_Join_none Tryz.yW Tryz.jK a c sep w
open Go.RowKit in
theorem Tryz.strings_Join(bk o c:Nat)(xs:List ByteArray)(sep:ByteArray)(w:World)(hcells:∀(j:Nat) x,xs[j]? =some x->w.cell? ⟨bk,o+j,none⟩=some (.string x))(hbk:bk<w.heap.size)(hN:xs.length<=140737488355328)(hcap:xs.length<=c)(hlen:(Lib.join (xs.map (·.data.toList)) sep.data.toList).length<=140737488355328):
  Calls Tryz.prog 114 #[.slice (some ⟨bk,o,none⟩) xs.length c,.string sep] w λe w'=>e=.returned (.string ⟨(Lib.join (xs.map (·.data.toList)) sep.data.toList).toArray⟩)/\Below w.heap.size w w':=Any.strings_Join Tryz.yW Tryz.jK bk o c xs sep w hcells hbk hN hcap hlen
end Go.Proofs
namespace Go.Proofs
open Go.Shelf
def Tryz.p8:Go.Shelf.Ren:=⟨λ| 105=>252| 212=>267| 99=>270| 165=>210| 166=>211| 170=>271| 169=>212| 263=>285| 264=>286| 206=>287| 240=>257| 241=>258| 276=>282| 277=>283|n=>n,λ| 9=>9| 3=>3| 4=>4| 20=>20| 0=>0| 46=>319| 109=>320| 5=>5| 72=>271| 76=>275| 51=>335| 146=>336| 53=>327| 148=>338| 70=>269| 37=>119| 75=>274| 127=>308| 164=>332| 80=>97|n=>n,λn=>n⟩
def Tryz.D9:Go.Proofs.Lays.n105 Tryz.prog Tryz.p8:={
 mixed:=by kernel_rfl
 f99:=Tryz.func270.trans (congrArg some (by kernel_rfl))
 f105:=Tryz.func252.trans (congrArg some (by kernel_rfl))
 f165:=Tryz.func210.trans (congrArg some (by kernel_rfl))
 f166:=Tryz.func211.trans (congrArg some (by kernel_rfl))
 f169:=Tryz.func212.trans (congrArg some (by kernel_rfl))
 f170:=Tryz.func271.trans (congrArg some (by kernel_rfl))
 f206:=Tryz.func287.trans (congrArg some (by kernel_rfl))
 f212:=Tryz.func267.trans (congrArg some (by kernel_rfl))
 f240:=Tryz.func257.trans (congrArg some (by kernel_rfl))
 f241:=Tryz.func258.trans (congrArg some (by kernel_rfl))
 f263:=Tryz.func285.trans (congrArg some (by kernel_rfl))
 f264:=Tryz.func286.trans (congrArg some (by kernel_rfl))
 f276:=Tryz.func282.trans (congrArg some (by kernel_rfl))
 f277:=Tryz.func283.trans (congrArg some (by kernel_rfl))
 t0:=Tryz.underlying0
 a0:=Tryz.isAgg0
 z0:=Tryz.sizeOf0
 v0:=Tryz.zeroValue0
 t3:=Tryz.underlying3
 a3:=Tryz.isAgg3
 z3:=Tryz.sizeOf3
 v3:=Tryz.zeroValue3
 t4:=Tryz.underlying4
 a4:=Tryz.isAgg4
 z4:=Tryz.sizeOf4
 v4:=Tryz.zeroValue4
 t5:=Tryz.underlying5
 a5:=Tryz.isAgg5
 z5:=Tryz.sizeOf5
 v5:=Tryz.zeroValue5
 t9:=Tryz.underlying9
 a9:=Tryz.isAgg9
 z9:=Tryz.sizeOf9
 v9:=Tryz.zeroValue9
 t20:=Tryz.underlying20
 a20:=Tryz.isAgg20
 z20:=Tryz.sizeOf20
 v20:=Tryz.zeroValue20
 t37:=Tryz.underlying119
 a37:=Tryz.isAgg119
 z37:=Tryz.sizeOf119
 v37:=Tryz.zeroValue119
 t46:=Tryz.underlying319
 a46:=Tryz.isAgg319
 z46:=Tryz.sizeOf319
 v46:=Tryz.zeroValue319
 t51:=Tryz.underlying335
 a51:=Tryz.isAgg335
 z51:=Tryz.sizeOf335
 v51:=Tryz.zeroValue335
 t53:=Tryz.underlying327
 a53:=Tryz.isAgg327
 z53:=Tryz.sizeOf327
 v53:=Tryz.zeroValue327
 t70:=Tryz.underlying269
 a70:=Tryz.isAgg269
 z70:=Tryz.sizeOf269
 v70:=Tryz.zeroValue269
 t72:=Tryz.underlying271
 a72:=Tryz.isAgg271
 z72:=Tryz.sizeOf271
 v72:=Tryz.zeroValue271
 t75:=Tryz.underlying274
 a75:=Tryz.isAgg274
 z75:=Tryz.sizeOf274
 v75:=Tryz.zeroValue274
 t76:=Tryz.underlying275
 a76:=Tryz.isAgg275
 z76:=Tryz.sizeOf275
 v76:=Tryz.zeroValue275
 t109:=Tryz.underlying320
 a109:=Tryz.isAgg320
 z109:=Tryz.sizeOf320
 v109:=Tryz.zeroValue320
 t127:=Tryz.underlying308
 a127:=Tryz.isAgg308
 z127:=Tryz.sizeOf308
 v127:=Tryz.zeroValue308
 t146:=Tryz.underlying336
 a146:=Tryz.isAgg336
 z146:=Tryz.sizeOf336
 v146:=Tryz.zeroValue336
 t148:=Tryz.underlying338
 a148:=Tryz.isAgg338
 z148:=Tryz.sizeOf338
 v148:=Tryz.zeroValue338
 t164:=Tryz.underlying332
 a164:=Tryz.isAgg332
 z164:=Tryz.sizeOf332
 v164:=Tryz.zeroValue332}
def Tryz.o7:Builder.Extra Tryz.prog Tryz.p8:={
 sizeBuilder:=by kernel_rfl
 liesBuilder:=by kernel_rfl
 t5:=Tryz.underlying5
 a5:=Tryz.isAgg5
 z5:=Tryz.sizeOf5
 v5:=Tryz.zeroValue5
 infoByte:=by kernel_rfl
 cellsByte:=by kernel_rfl
 sizeByte:=by kernel_rfl
 neB5:=by decide}
end Go.Proofs
namespace Go.Abs
inductive AV where
 |bool (b:Bool)
 |int (k:IntKind) (n:Int)
 |wS (k:FloatKind) (b:Nat)
 |wD (k:FloatKind) (re im:Nat)
 |str (s:By)
 |ptr (b o:Nat)
 |nilPtr
 |slice (b o n e:Nat)
 |af
 |map (r:Nat)
 |db
 |func (f:Fn) (a c:List AV)
 |nilFunc
 |agg (l:List AV)
 |dL (l:List AV)
 |uM (u:TypeId) (v:AV)
 |kC
 deriving Inhabited
def ay:AV:=.dL []
def AV.cells:AV->List AV
 |.agg l=>l
 |v=>[v]
def AV.one:AV->Bool
 |.agg _=>false
 |.dL _=>false
 |.kC=>false
 |_=>true
inductive cV where
 |t (i:Nat)
 |c (v:AV)
 |g (i:Nat)
 |f (i:Nat)
 deriving Inhabited
inductive CK where
 |b
 |i
 |s
 deriving DecidableEq,Inhabited
inductive P7 where
 |one (k:CK)
 |agg (ks:List CK)
 |D1
 |D2
 |qo
 |Lc
 deriving Inhabited
inductive zq where
 |LH (k:IntKind)
 |NG
 |MS
 |same
 |OQ (k:FloatKind)
 |O5 (k:IntKind)
 |O6 (k:FloatKind)
 |uM (u:TypeId)
 deriving Inhabited
inductive LK where
 |sl
 |st
 |mp
 deriving DecidableEq,Inhabited
inductive o6 where
 |cg (x:cV)
 |pick (c a b:cV)
 |box (x:cV)
 |lK (n:Nat) (x:cV)
 |build (z:List AV) (ps:List (Nat×Nat×cV))
 |bg (es:Nat) (n:Nat) (z:List AV) (ps:List (Nat×cV))
 |load (n:Option Nat) (a:cV)
 |store (n:Nat) (a x:cV)
 |bQ (x:cV)
 |bin (op:BinOp) (x y:cV)
 |eqv (neg:Bool) (t:P7) (x y:cV)
 |un (op:UnOp) (x:cV)
 |conv (k:zq) (x:cV)
 |ud (f:Fn) (a c:List cV)
 |nV
 |vI (es w:Nat) (z:List AV) (l c:cV)
 |sl (es:Nat) (x:cV) (lo hi:Option cV)
 |Jd (x:cV) (lo hi:Option cV)
 |MO (n es:Nat) (x:cV) (lo hi:Option cV)
 |aX (off:Nat) (x:cV)
 |bw (es:Nat) (x i:cV)
 |sj (len es:Nat) (x i:cV)
 |part (n:Option Nat) (off:Nat) (x:cV)
 |Jf (len es:Nat) (n:Option Nat) (x i:cV)
 |Dh (x i:cV)
 |look (kk:CK) (z:AV) (ok:Bool) (m k:cV)
 |fO (kk:CK) (m k x:cV)
 |BI (x:cV)
 |rk (x:cV)
 |ext (x:cV) (i:Nat)
 |call (f:cV) (args:List cV)
 |len (lk:LK) (x:cV)
 |zT (n:Nat)
 |app (es w:Nat) (x y:cV)
 |za (es:Nat) (x y:cV)
 |mx (x:cV) (l:List cV)
 |mn (x:cV) (l:List cV)
 |bad
 deriving Inhabited
structure bK where
 dst:Option Nat
 k:o6
 gd:Option (Nat×Bool)
 q:Bool
 deriving Inhabited
def xZ(d:Option Nat)(k:o6)(n:Nat):Prop:=
 match k,d with
 |.lK _ _,some d=>d<n
 |_,_=>True
inductive ai where
 |skip
 |ops (l:List bK)
 |sg (l:List bK)
 |my (l:List bK)
 |seq (a b:ai)
 |cond (c:cV) (a b:ai)
 |block (id:Nat) (a:ai)
 |loop (a:ai)
 |exit (id:Nat)
 |ret
 |fN (g:cV) (ps:List Nat) (asg body:ai)
 |bad
 deriving Inhabited
inductive Ex where
 |normal
 |exit (id:Nat)
 |ret
 deriving DecidableEq,Inhabited
def Ex.CB:Ex->Exit
 |.normal=>.normal
 |.exit id=>.exit id
 |.ret=>.ret
def Ex.jump:Ex->Option Code
 |.normal=>none
 |.exit id=>some (.exit id)
 |.ret=>some .ret
inductive ak where
 |cells (c:List AV) (mu tl:Bool)
 |dead
 |bj (es:List (AV×AV))
 |iter (s:By) (pos:Nat)
 |loop (st:LoopState) (ex:Ex) (ts:List AV) (ps:List Nat) (asg body:ai)
 deriving Inhabited
abbrev ah:=List ak
abbrev TS:=List AV
structure sK where
 cb:Nat
 d:Nat
 sz:Nat
 own:Bool
abbrev bZ:=Nat->Option sK
def bZ.le(m m':bZ):Prop:=∀b e,m b=some e->m' b=some e
def bZ.le_trans{a b c:bZ}(h:a.le b)(k:b.le c):a.le c:=λx e hx=>k x e (h x e hx)
def D4(k:FloatKind)(b:Nat):Bool:=(k.format.order b b).isNone
def FR(k:FloatKind)(b b':Nat):Prop:=b' =b\/(D4 k b=true/\D4 k b' =true)
def AN(m:bZ):Fn->Fn->Prop
 |.yield l,g=>∃e,m l=some e/\g=.yield e.cb
 |f,g=>g=f
mutual
def VR(m:bZ):AV->Value->Prop
 |.bool b,v=>v=.bool b
 |.int k n,v=>v=.int k n
 |.wS k b,v=>∃b',v=.float k b'/\FR k b b'
 |.wD k x y,v=>∃x' y',v=.complex k x' y'/\FR k x x'/\FR k y y'
 |.str s,v=>v=.string ⟨⟨s⟩⟩
 |.ptr b o,v=>∃e,m b=some e/\v=.pointer (some ⟨e.cb,o+e.d,none⟩)
 |.nilPtr,v=>v=.pointer none
 |.slice b o n es,v=>∃e ca cap,m b=some e/\v=.slice (some ca) n cap/\n<=cap/\(0<cap->ca=⟨e.cb,o+e.d,none⟩)/\o+e.d+cap*es<=e.sz
 |.af,v=>v=.slice none 0 0
 |.map r,v=>∃e,m r=some e/\v=.map (some e.cb)
 |.db,v=>v=.map none
 |.func f a c,v=>∃f' a' c',v=.func f' ⟨a'⟩ ⟨c'⟩/\AN m f f'/\cK m a a'/\cK m c c'
 |.nilFunc,v=>v=.nilFunc
 |.agg l,v=>∃l',v=.agg ⟨l'⟩/\cK m l l'
 |.dL l,v=>∃l',v=.tuple ⟨l'⟩/\cK m l l'
 |.uM u a,v=>∃v',v=.iface u v'/\VR m a v'
 |.kC,v=>v=.nilIface
def cK(m:bZ):List AV->List Value->Prop
 |[],vs=>vs=[]
 |x::xs,vs=>∃y ys,vs=y::ys/\VR m x y/\cK m xs ys
end
def AN.mono{m m'}(h:m.le m'):∀{f g},AN m f g->AN m' f g:=by
 intro f g hf;cases f<;>simp only[AN]at hf ⊢<;>try exact hf
 obtain⟨e,he,hg⟩:=hf;exact⟨e,h _ _ he,hg⟩
mutual
theorem VR.mono{m m'}(h:m.le m'):∀(a:AV) (v:Value),VR m a v->VR m' a v
 |.bool _,v,hv=>hv
 |.int _ _,v,hv=>hv
 |.wS _ _,v,hv=>hv
 |.wD _ _ _,v,hv=>hv
 |.str _,v,hv=>hv
 |.ptr b o,v,hv=>by
  obtain⟨e,he,hv⟩:=(show ∃e,m b=some e/\v=.pointer (some ⟨e.cb,o+e.d,none⟩)from hv);exact⟨e,h _ _ he,hv⟩
 |.nilPtr,v,hv=>hv
 |.slice b o n es,v,hv=>by
  obtain⟨e,ca,cap,he,hr⟩:=(show ∃e ca cap,m b=some e/\v=.slice (some ca) n cap/\n<=cap/\(0<cap->ca=⟨e.cb,o+e.d,none⟩)/\o+e.d+cap*es<=e.sz from hv);exact⟨e,ca,cap,h _ _ he,hr⟩
 |.af,v,hv=>hv
 |.map r,v,hv=>by
  obtain⟨e,he,hv⟩:=(show ∃e,m r=some e/\v=.map (some e.cb)from hv);exact⟨e,h _ _ he,hv⟩
 |.db,v,hv=>hv
 |.func f a c,v,hv=>by
  obtain⟨f',a',c',hv,hf,ha,hc⟩:=(show ∃f' a' c',v=.func f' ⟨a'⟩ ⟨c'⟩/\AN m f f'/\cK m a a'/\cK m c c' from hv);exact⟨f',a',c',hv,hf.mono h,cK.mono h a a' ha,cK.mono h c c' hc⟩
 |.nilFunc,v,hv=>hv
 |.agg l,v,hv=>by
  obtain⟨l',hv,hl⟩:=(show ∃l',v=.agg ⟨l'⟩/\cK m l l' from hv);exact⟨l',hv,cK.mono h l l' hl⟩
 |.dL l,v,hv=>by
  obtain⟨l',hv,hl⟩:=(show ∃l',v=.tuple ⟨l'⟩/\cK m l l' from hv);exact⟨l',hv,cK.mono h l l' hl⟩
 |.uM u a,v,hv=>by
  obtain⟨v',hv,ha⟩:=(show ∃v',v=.iface u v'/\VR m a v' from hv);exact⟨v',hv,VR.mono h a v' ha⟩
 |.kC,v,hv=>hv
theorem cK.mono{m m'}(h:m.le m'):∀(l:List AV) (vs:List Value),cK m l vs->cK m' l vs
 |[],_,hv=>hv
 |x::xs,vs,hv=>by
  obtain⟨y,ys,hv,hx,UL⟩:=(show ∃y ys,vs=y::ys/\VR m x y/\cK m xs ys from hv);exact⟨y,ys,hv,VR.mono h x y hx,cK.mono h xs ys UL⟩
end
def bE{m vs}:cK m [] vs↔vs=[]:=Iff.rfl
def aR{m x xs vs}:cK m (x::xs) vs↔∃y ys,vs=y::ys/\VR m x y/\cK m xs ys:=Iff.rfl
theorem cK.length{m}:∀{l}{vs},cK m l vs->vs.length=l.length
 |[],_,h=>by rw[bE]at h;simp[h]
 |x::xs,vs,h=>by
  obtain⟨y,ys,rfl,_,UL⟩:=aR.1 h;simp[cK.length UL]
theorem cK.get{m:bZ}:∀{l:List AV}{vs:List Value},cK m l vs->∀{i:Nat}{x:AV},l[i]? =some x->∃y,vs[i]? =some y/\VR m x y
 |[],_,_,i,x,h=>by simp at h
 |z::zs,vs,h,i,x,hx=>by
  obtain⟨y,ys,rfl,hy,hys⟩:=aR.1 h;cases i with
  |zero=>simp at hx;subst hx;exact⟨y,Si,hy⟩
  |succ i=>simp at hx;simpa using cK.get hys hx
theorem cK.gU{m}:∀{l}{vs},vs.length=l.length->(∀(i:Nat) (x:AV),l[i]? =some x->∃y,vs[i]? =some y/\VR m x y)->cK m l vs
 |[],vs,hl,_=>by rw[bE];exact Z4.1 (by simpa using hl)
 |x::xs,[],hl,_=>by simp at hl
 |x::xs,v::vs,hl,h=>by
  refine aR.2 ⟨v,vs,rfl,?_,cK.gU (by simpa using hl) λi z hz=>?_⟩
  ·obtain⟨y,hy,hr⟩:=h 0 x Si;simp at hy;subst hy;exact hr
  ·obtain⟨y,hy,hr⟩:=h (i+1) z (by simpa using hz);exact⟨y,by simpa using hy,hr⟩
theorem cK.append{m}:∀{a b}{va vb},cK m a va->cK m b vb->cK m (a++b) (va++vb)
 |[],b,va,vb,ha,hb=>by rw[bE]at ha;subst ha;simpa using hb
 |x::xs,b,va,vb,ha,hb=>by
  obtain⟨y,ys,rfl,hy,hys⟩:=aR.1 ha;exact aR.2 ⟨y,ys++vb,Si,hy,cK.append hys hb⟩
theorem cK.set{m:bZ}{l:List AV}{vs:List Value}(h:cK m l vs)(i:Nat){x:AV}{v:Value}(hx:VR m x v):cK m (l.set i x) (vs.set i v):=by
 refine cK.gU (by simp[h.length]) λj z hz=>?_
 rw[List.getElem?_set]at hz ⊢;by_cases hij:i=j
 ·simp only[hij,Zk]at hz ⊢;split at hz
  ·simp only[Zy]at hz;subst hz;rename_i hlt;exact⟨v,by simp[h.length,hlt],hx⟩
  ·simp at hz
 ·simp only[hij,Zi]at hz ⊢;exact h.get hz
theorem cK.take{m}:∀{l}{vs}(n:Nat),cK m l vs->cK m (l.take n) (vs.take n)
 |[],vs,n,h=>by rw[bE]at h;subst h;simp[bE]
 |x::xs,vs,0,h=>by simp[bE]
 |x::xs,vs,n+1,h=>by
  obtain⟨y,ys,rfl,hy,hys⟩:=aR.1 h;exact aR.2 ⟨y,ys.take n,Si,hy,cK.take n hys⟩
theorem cK.drop{m}:∀{l}{vs}(n:Nat),cK m l vs->cK m (l.drop n) (vs.drop n)
 |[],vs,n,h=>by rw[bE]at h;subst h;simp[bE]
 |x::xs,vs,0,h=>by simpa using h
 |x::xs,vs,n+1,h=>by
  obtain⟨y,ys,rfl,hy,hys⟩:=aR.1 h
  simpa using cK.drop n hys
theorem VR.one{m x v}(h:VR m x v)(hx:x.one=true):v.cells=#[v]:=by
 exact QD
def VR.tX{m x v}(h:VR m x v)(hx:x.one=true):v.oneCell' =true:=by
 exact QD
theorem VR.cells{m x v}(h:VR m x v):cK m x.cells v.cells.toList:=by
 by_cases hx:x.one=true
 ·have hc:x.cells=[x]:=by cases x<;>first|rfl|cases hx
  rw[h.one hx,hc];exact aR.2 ⟨v,[],rfl,h,bE.2 rfl⟩
 ·cases x with
  |agg l=>rw[VR]at h;obtain⟨l',rfl,hl⟩:=h;exact hl
  |dL l=>exact aR.2 ⟨v,[],by rw[VR]at h;obtain⟨l',rfl,hl⟩:=h;rfl,h,bE.2 rfl⟩
  |kC=>exact aR.2 ⟨v,[],by rw[VR]at h;subst h;rfl,h,bE.2 rfl⟩
  |_=>exact absurd rfl hx
def val(ts:TS):cV->AV
 |.t i=>ts.getD i ay
 |.c v=>v
 |.g i=>.ptr i 0
 |.f i=>.func (.func i) [] []
def put(ts:TS)(d:Option Nat)(v:AV):TS:=
 match d with
 |some d=>ts.set d v
 |none=>ts
def wanted(g:Option (Nat×Bool))(ts:TS):Prop:=
 match g with
 |none=>True
 |some (t,b)=>ts[t]? =some (.bool b)
def eM(h:ah)(b:Nat):Bool:=
 match h[b]? with
 |some (.cells _ _ tl)=>tl
 |_=>false
def mA:Nat->Value->Option AV
 | 0,_=>none
 |n+1,v=>
  match v with
  |.bool b=>some (.bool b)
  |.int k i=>some (.int k i)
  |.float k b=>some (.wS k b)
  |.complex k x y=>some (.wD k x y)
  |.string s=>some (.str s.data.toList)
  |.pointer none=>some .nilPtr
  |.slice none 0 0=>some .af
  |.map none=>some .db
  |.nilFunc=>some .nilFunc
  |.agg cs=>(cs.toList.mapM (mA n)).map .agg
  |.tuple cs=>(cs.toList.mapM (mA n)).map .dL
  |_=>none
def cS:Operand->Option cV
 |.tmp t=>some (.t t)
 |.const v=>(mA 4 v).map .c
 |.global g=>some (.g g)
 |.func f=>some (.f f)
def DX:Operand->Option cV
 |.global _=>none
 |x=>cS x
def yQ(l:Array Operand):Option (List cV):=l.toList.mapM cS
def vz:Option Operand->Option (Option cV)
 |none=>some none
 |some x=>(cS x).map some
def jO:TypeDesc->Bool
 |.struct _=>true
 |.array _ _=>true
 |_=>false
def AR(P:Program)(t:TypeId):Option (Option Nat):=
 match P.underlying t with
 |some d=>if jO d then(P.info? t).map λi=>some i.size else some none
 |none=>none
def dV(P:Program)(t:TypeId):Option Nat:=(P.info? t).map (·.size)
def jy(P:Program)(t:TypeId):Option AV:=(P.info? t).bind λi=>i.zero.bind (mA 4)
def wm(P:Program)(F:TypeId->Option (List CK)):List Field->Nat->Option (List CK)
 |[],_=>some []
 |f::fs,off=>
  match F f.type,P.info? f.type with
  |some ks,some i=>
   if f.name≠ "_"/\f.offset=off/\i.size=ks.length/\0<ks.length then
    match wm P F fs (off+ks.length)with
    |some r=>some (ks++r)
    |none=>none
   else none
  |_,_=>none
def flat(P:Program):Nat->TypeId->Option (List CK)
 | 0,_=>none
 |d+1,t=>
  match P.underlying t with
  |some .bool=>some [.b]
  |some (.int _)=>some [.i]
  |some .string=>some [.s]
  |some (.struct fs)=>if P.stoodInHeld t=false then wm P (flat P d) fs.toList 0 else none
  |some (.array len e)=>
   match flat P d e,P.info? e with
   |some ks,some i=>if i.size=ks.length/\0<ks.length then some (List.replicate len ks).flatten else none
   |_,_=>none
  |_=>none
def Ib(P:Program)(neg:Bool)(t:TypeId)(x y:cV):Option o6:=
 match P.underlying t with
 |some (.int _)=>some (.bin (if neg then .neq else .eql) x y)
 |some .string=>some (.bin (if neg then .neq else .eql) x y)
 |some (.float _)=>some (.bin (if neg then .neq else .eql) x y)
 |some .bool=>some (.eqv neg (.one .b) x y)
 |some (.struct _)=>if P.eqGuardType P.depth t=false then(flat P 20 t).map λks=>.eqv neg (.agg ks) x y else none
 |some (.array _ _)=>if P.eqGuardType P.depth t=false then(flat P 20 t).map λks=>.eqv neg (.agg ks) x y else none
 |some (.slice _)=>some (.eqv neg .D1 x y)
 |some (.pointer _)=>some (.eqv neg .D2 x y)
 |some (.func _ _ _)=>some (.eqv neg .qo x y)
 |some (.map _ _)=>some (.eqv neg .Lc x y)
 |_=>none
def Ej(P:Program)(e:TypeId):Bool:=
 match P.underlying e with
 |some (.int .u8)=>true
 |_=>false
def CA(P:Program)(s d:TypeId):Option zq:=
 match P.underlying s,P.underlying d with
 |some (.int _),some (.int k)=>some (.LH k)
 |some (.int _),some (.float k)=>some (.OQ k)
 |some (.float _),some (.int k)=>some (.O5 k)
 |some (.float _),some (.float k)=>some (.O6 k)
 |some .string,some .string=>some .same
 |some .string,some (.slice e)=>if Ej P e=true then some .NG else none
 |some (.slice e),some .string=>if Ej P e=true then some .MS else none
 |_,_=>none
def fieldAt(P:Program)(t:TypeId)(i:Nat):Option Field:=
 match P.underlying t with
 |some (.struct fs)=>fs[i]?
 |_=>none
def jC(P:Program)(t:TypeId)(i:Nat):Option (Nat×Nat):=
 match P.underlying t with
 |some (.struct fs)=>
  match fs.toList.mapM (λf=>(P.info? f.type).map λi=>(f.offset,i.size))with
  |some places=>places[i]?
  |none=>none
 |some (.array _ e)=>(P.info? e).map λie=>(i*ie.size,ie.size)
 |_=>none
def nR(P:Program)(t:TypeId):Bool:=
 match P.underlying t with
 |some (.struct fs)=>(fs.toList.mapM (λf=>(P.info? f.type).map λi=>(f.offset,i.size))).isSome
 |some (.array _ e)=>(P.info? e).isSome
 |_=>false
def mh(P:Program)(t:TypeId):List (Nat×Operand)->Option (List (Nat×Nat×cV))
 |[]=>some []
 |(i,x)::r=>
  match jC P t i,cS x,mh P t r with
  |some (off,n),some y,some r=>some ((off,n,y)::r)
  |_,_,_=>none
def dY(P:Program)(t:TypeId):Option (TypeId×TypeInfo):=
 match P.underlying t with
 |some (.slice e)=>(P.info? e).map λi=>(e,i)
 |_=>none
def oa(P:Program)(b:Builtin)(ts:Array TypeId)(args:List cV):Option o6:=
 match b,args with
 |.len,[x]=>
  match (ts[0]?).bind P.underlying with
  |some (.slice _)=>some (.len .sl x)
  |some .string=>some (.len .st x)
  |some (.map _ _)=>some (.len .mp x)
  |some (.array n _)=>some (.zT n)
  |_=>none
 |.append,[x,y]=>
  match (ts[0]?).bind (dY P),(ts[1]?).bind P.underlying with
  |some (_,i),some (.slice _)=>if 0<i.size/\0<i.bytes/\i.bytes<=2^20 then(i.zero.bind (mA 4)).bind λz=>if z.cells.length=i.size then some (.app i.size i.bytes x y)else none else none
  |some (_,i),some .string=>if 0<i.size/\0<i.bytes/\i.bytes<=2^20 then(i.zero.bind (mA 4)).bind λz=>if z.cells.length=i.size then some (.app i.size i.bytes x y)else none else none
  |_,_=>none
 |.copy,[x,y]=>
  match (ts[0]?).bind (dY P)with
  |some (_,i)=>if 0<i.size then some (.za i.size x y)else none
  |_=>none
 |.max,x::l=>some (.mx x l)
 |.min,x::l=>some (.mn x l)
 |_,_=>none
def xY(P:Program)(t:TypeId):Option CK:=
 match P.underlying t with
 |some (.int _)=>some .i
 |some .string=>some .s
 |some .bool=>some .b
 |_=>none
def B2:Fn->Bool
 |.yield _=>false
 |_=>true
def eA(P:Program)(o:Oper):Option o6:=
 match o.op with
 |.move x=>(cS x).map .cg
 |.assign x=>(cS x).map .cg
 |.pick c a b=>
  match cS c,cS a,cS b with
  |some c,some a,some b=>some (.pick c a b)
  |_,_,_=>none
 |.alloc e=>
  match jy P e with
  |some z=>if z.cells.all AV.one then some (.box (.c z))else none
  |none=>none
 |.box _ x=>(cS x).map .box
 |.build t ps=>
  match jy P t,mh P t ps.toList with
  |some z,some l=>if nR P t=true then some (.build z.cells l)else none
  |_,_=>none
 |.buildSlice t n ps=>
  match dY P t with
  |some (e,i)=>
   match jy P e,ps.toList.mapM λp=>(cS p.2).map λy=>(p.1*i.size,y)with
   |some z,some l=>if 0<i.size/\z.cells.length=i.size/\z.cells.all AV.one/\n*i.size<=2^24 then some (.bg i.size n z.cells l)else none
   |_,_=>none
  |none=>none
 |.load t a=>
  match AR P t,cS a with
  |some n,some a=>some (.load n a)
  |_,_=>none
 |.store t a x=>
  match dV P t,cS a,cS x with
  |some n,some a,some x=>some (.store n a x)
  |_,_,_=>none
 |.nilCheck x=>(cS x).map .bQ
 |.binOp op t x y _=>
  match cS x,cS y with
  |some x,some y=>
   match op with
   |.eql=>Ib P false t x y
   |.neq=>Ib P true t x y
   |_=>some (.bin op x y)
  |_,_=>none
 |.unOp op _ x=>(cS x).map (.un op)
 |.convert s d x=>
  match CA P s d,cS x with
  |some k,some x=>some (.conv k x)
  |_,_=>none
 |.makeInterface t x=>
  match P.underlying t,cS x with
  |some (.interface _),_=>none
  |some _,some x=>some (.conv (.uM t) x)
  |_,_=>none
 |.makeFunc fn a c=>
  if B2 fn=true then
   match yQ a,yQ c with
   |some a,some c=>some (.ud fn a c)
   |_,_=>none
  else none
 |.makeMap _ none=>some .nV
 |.makeSlice t l c=>
  match dY P t,cS l,cS c with
  |some (e,i),some l,some c=>
   match jy P e with
   |some z=>if 0<i.size/\z.cells.length=i.size/\z.cells.all AV.one then some (.vI i.size i.bytes z.cells l c)else none
   |none=>none
  |_,_,_=>none
 |.slice t x lo hi none=>
  match cS x,vz lo,vz hi with
  |some x,some lo,some hi=>
   match P.underlying t with
   |some .string=>some (.Jd x lo hi)
   |some (.slice e)=>(dV P e).map λn=>.sl n x lo hi
   |some (.array k e)=>(dV P e).map λn=>.MO k n x lo hi
   |_=>none
  |_,_,_=>none
 |.fieldAddr t x i=>
  match fieldAt P t i,cS x with
  |some f,some x=>
   match dV P f.type with
   |some n=>if 0<n then some (.aX f.offset x)else none
   |none=>none
  |_,_=>none
 |.indexAddr t x i=>
  match cS x,cS i with
  |some x,some i=>
   match P.underlying t with
   |some (.slice e)=>(dV P e).map λn=>.bw n x i
   |some (.array k e)=>(dV P e).map λn=>.sj k n x i
   |_=>none
  |_,_=>none
 |.field t x i=>
  match fieldAt P t i,cS x with
  |some f,some x=>(AR P f.type).map λn=>.part n f.offset x
  |_,_=>none
 |.index t x i=>
  match cS x,cS i with
  |some x,some i=>
   match P.underlying t with
   |some .string=>some (.Dh x i)
   |some (.array k e)=>
    match dV P e,AR P e with
    |some n,some q=>some (.Jf k n q x i)
    |_,_=>none
   |_=>none
  |_,_=>none
 |.lookup t m k ok=>
  match P.underlying t,cS m,cS k with
  |some (.map kt e),some m,some k=>
   match xY P kt,jy P e with
   |some kk,some z=>some (.look kk z ok m k)
   |_,_=>none
  |_,_,_=>none
 |.mapUpdate t m k x=>
  match P.underlying t,cS m,cS k,cS x with
  |some (.map kt _),some m,some k,some x=>(xY P kt).map λkk=>.fO kk m k x
  |_,_,_,_=>none
 |.insert t m k x=>
  match P.underlying t,cS m,cS k,cS x with
  |some (.map kt _),some m,some k,some x=>(xY P kt).map λkk=>.fO kk m k x
  |_,_,_,_=>none
 |.range t x=>
  match P.underlying t with
  |some .string=>(cS x).map .BI
  |_=>none
 |.next x true=>(cS x).map .rk
 |.extract x i=>(cS x).map λx=>.ext x i
 |.call c=>
  match yQ c.args with
  |some l=>
   match c.callee with
   |.value f=>(cS f).map λf=>.call f l
   |.invoke r name=>(cS r).map λr=>.call (.c (.func (.method name) [] [])) (r::l)
   |.builtin b=>oa P b c.argTypes l
  |none=>none
 |_=>none
def uf(ops:Array Oper)(g:Option (Nat×Bool)):Option (Option (Nat×Bool)):=
 match g with
 |none=>some none
 |some (j,b)=>((ops[j]?).bind (·.dst)).map λd=>some (d,b)
def MQ(P:Program):Operand->Bool
 |.global g=>decide (g<P.globals.size)
 |_=>true
def bU(P:Program)(ops:Array Oper)(q:Bool)(o:Oper):Option bK:=
 match uf ops o.guard with
 |some g=>some {dst:=o.dst,k:=if o.op.operands.toList.all (MQ P)then(eA P o).getD .bad else .bad,gd:=g,q:=q}
 |none=>none
def ahead(M:Array Nat)(i j:Nat):Bool:=(M.getD j 0).testBit i
def kG(M:Array Nat)(ops:Array Oper):Bool:=
 (List.range ops.size).all λj=>
  match ops[j]? with
  |none=>true
  |some o=>
   (o.after.toList.all λe=>!Region.binds .any e||decide (e.on<j)) &&
   ((List.range ops.size).all λi=>!ahead M i j||o.after.toList.any λe=>Region.binds .any e&&(e.on==i||ahead M i e.on))
def lQ(M:Array Nat)(ops:Array Oper):Bool:=
 (List.range ops.size).all λj=>
  (List.range j).all λi=>
   match ops[i]?,ops[j]? with
   |some x,some y=>
    (match x.dst with
     |some d=>y.dst !=some d&&(!(y.looksAt ops).contains d||ahead M i j)
     |none=>true) &&
    (match y.dst with
     |some d=>!(x.looksAt ops).contains d||ahead M i j
     |none=>true)
   |_,_=>true
def gG(M:Array Nat)(n j:Nat):Bool:=
 (List.range n).all λi=>i==j||(if i<j then ahead M i j else ahead M j i)
def eX{α β:Type}(f:Nat->α->Option β):List α->Nat->Option (List β)
 |[],_=>some []
 |x::xs,i=>
  match f i x,eX f xs (i+1)with
  |some y,some ys=>some (y::ys)
  |_,_=>none
def yi:AV->Bool
 |.bool _=>true
 |.int _ _=>true
 |.wS _ _=>true
 |.wD _ _ _=>true
 |.str _=>true
 |.nilPtr=>true
 |.af=>true
 |.db=>true
 |.nilFunc=>true
 |_=>false
def lP(o:bK):Option (Nat×Nat×cV):=
 match o.dst,o.k,o.gd,o.q with
 |none,.store n (.t t) x,none,true=>some (n,t,x)
 |_,_,_,_=>none
def tF(o:bK):Option (Nat×AV):=
 match o.dst,o.k,o.gd,o.q with
 |some t,.box (.c z),none,true=>some (t,z)
 |_,_,_,_=>none
def fG(ops:Array Oper)(j t:Nat):Bool:=
 match ops[j]? with
 |some o=>(o.looksAt ops).contains t
 |none=>false
def pt(ops:Array Oper)(l:List bK)(k s:Nat):Bool:=
 match (l[k]?).bind tF,(l[s]?).bind lP with
 |some (t,z),some (n,t',x)=>
  t==t'&&z.cells.length==n&&z.cells.all yi&&(match x with|.t u=>u !=t&&fG ops s u|_=>true)&&fG ops s t&&(List.range ops.size).all λj=>j==s || !fG ops j t
 |_,_=>false
def OO(ops:Array Oper)(l:List bK)(s:Nat):Option Nat:=(List.range s).find? λk=>pt ops l k s
def ND(ops:Array Oper)(l:List bK)(k:Nat):Option Nat:=(List.range l.length).find? λs=>decide (k<s)&&pt ops l k s
def tw(ops:Array Oper)(l:List bK)(j:Nat)(o:bK):bK:=
 match lP o with
 |some (n,t,x)=>
  match OO ops l j with
  |some _=>{dst:=some t,k:=.lK n x,gd:=none,q:=true}
  |none=>o
 |none=>
  match tF o with
  |some _=>
   match ND ops l j with
   |some _=>{dst:=none,k:=.cg (.c (.bool false)),gd:=none,q:=true}
   |none=>o
  |none=>o
def qb(ops:Array Oper)(l:List bK):Nat->List bK->List bK
 |_,[]=>[]
 |j,o::r=>tw ops l j o::qb ops l (j+1) r
def cN(P:Program)(ops:Array Oper)(draw:Bool):Option (List bK):=
 if draw then
  let M:=Region.before ops
  if kG M ops&&lQ M ops then
   (eX (λi o=>bU P ops (!gG M ops.size i) o) ops.toList 0).map λl=>qb ops l 0 l
  else none
 else eX (λ_ o=>bU P ops false o) ops.toList 0
def fC:o6->Bool
 |.cg _=>true
 |.pick _ _ _=>true
 |.bin _ _ _=>true
 |.eqv _ _ _ _=>true
 |.un _ _=>true
 |.conv (.LH _) _=>true
 |.aX _ _=>true
 |.sj _ _ _ _=>true
 |.bw _ _ _=>true
 |.part _ _ _=>true
 |.Jf _ _ _ _ _=>true
 |.Dh _ _=>true
 |.ext _ _=>true
 |.bQ _=>true
 |.mx _ _=>true
 |.mn _ _=>true
 |.build _ _=>true
 |.Jd _ _ _=>true
 |.sl _ _ _ _=>true
 |.zT _=>true
 |.ud _ _ _=>true
 |.len .sl _=>true
 |.len .st _=>true
 |_=>false
def cF:o6->Bool
 |.load _ _=>true
 |k=>fC k
def CW:o6->Bool
 |.box _=>true
 |.bg _ _ _ _=>true
 |.nV=>true
 |_=>false
def Em:o6->Bool
 |.call _ _=>true
 |_=>false
def kL(o:bK):Bool:=CW o.k||(o.q&&Em o.k)
def El(o:Oper):Bool:=
 match o.op with
 |.call c=>
  match c.callee with
  |.builtin _=>false
  |_=>true
 |_=>false
def Ek(o:Oper):Bool:=
 o.guard.isNone&&match o.op with
 |.load _ _=>true
 |_=>false
def si(c:Nat)(o:Oper):Bool:=(decide (1<=c)&&El o)||(decide (2<=c)&&Ek o)
def mG(o:bK):Bool:=
 o.q&&match o.k with
 |.load _ _=>true
 |_=>false
def nW(M:Array Nat)(l:List bK):Bool:=
 (List.range l.length).all λj=>
  (List.range j).all λi=>
   match l[i]?,l[j]? with
   |some x,some y=>fC x.k||fC y.k||mG x||mG y||(cF x.k&&(cF y.k||kL y))||(kL x&&cF y.k)||ahead M i j
   |_,_=>true
def yN(o:bK):Bool:=
 o.q&&match o.k with
  |.store _ _ _=>true
  |_=>false
def LP(o:bK):Bool:=
 o.q&&match o.k with
  |.store _ _ _=>true
  |.app _ _ _ _=>true
  |.za _ _ _=>true
  |.fO _ _ _ _=>true
  |_=>false
def Cc(o:bK):Bool:=fC o.k||match o.k with
 |.store _ _ _=>true
 |_=>false
def LF(o:bK):Bool:=match o.k with
 |.store _ _ _=>true
 |_=>false
def kD(l:List bK):Bool:=l.all Cc&&decide ((l.filter LF).length<=2)
def dI:List bK->Nat
 |[]=>0
 |o::r=>if kD (o::r)=true then 0 else dI r+1
def nh(M:Array Nat)(l:List bK):Bool:=
 (List.range l.length).all λi=>
  match l[i]? with
  |some x=>!mG x||(List.range l.length).all λj=>
    match l[j]? with
    |some y=>cF y.k||decide (j<dI l)||ahead M i j
    |none=>true
  |none=>true
def rn(M:Array Nat)(l:List bK)(f:Nat):Bool:=
 (List.range l.length).all λj=>
  (List.range j).all λi=>
   match l[i]?,l[j]? with
   |some x,some y=>fC x.k||fC y.k||mG x||mG y||decide (j=f)||ahead M i j
   |_,_=>true
def wk(ops:Array Oper)(l:List bK)(f:Nat):Bool:=
 match l[f]? with
 |some {dst:=some d,k:=.bg _ _ z ps,gd:=none,q:=_}=>z.all yi&&ps.all (λp=>match p.2 with|.t u=>fG ops f u|_=>false)&&(List.range l.length).all λj=>
   match l[j]? with
   |some o=>!cF o.k||((fC o.k||mG o) && !fG ops j d)
   |none=>true
 |_=>false
def Gf(M:Array Nat)(ops:Array Oper)(l:List bK):Option Nat:=(List.range l.length).find? λf=>wk ops l f&&rn M l f
def Mo(l:List bK):Bool:=l.any λo=>o.q&&match o.k with
 |.app _ _ (.t d) _=>l.any λp=>p.dst==some d&&match p.k with
  |.app _ _ _ _=>true
  |_=>false
 |_=>false
def nw(P:Program)(ops:Array Oper)(draw:Bool):Option ai:=
 match cN P ops draw with
 |none=>none
 |some l=>
  if l.any LP=true/\draw=true then
   match eX (λ_ o=>bU P ops (si 0 o) o) ops.toList 0,eX (λ_ o=>bU P ops (si 1 o) o) ops.toList 0,eX (λ_ o=>bU P ops (si 2 o) o) ops.toList 0 with
   |some l',some l2,some l3=>if(nW (Region.before ops) l' && !l'.any mG)=true then some (.ops l')else if(nW (Region.before ops) l2 && !l2.any mG)=true then some (.ops l2)else if(l.any yN&&(Gf (Region.before ops) ops l3).isSome&&nh (Region.before ops) l3)=true then some (.my l3)else if l.any yN=true then(if(decide (2<(l.filter LF).length)&&nW (Region.before ops) l3&&nh (Region.before ops) l3)=true then some (.my l3)else some (.sg l'))else if(nW (Region.before ops) l3&&nh (Region.before ops) l3)=true then some (.my l3)else if(Mo l&&(Gf (Region.before ops) ops l3).isSome&&nh (Region.before ops) l3)=true then some (.my l3)else some (.ops l)
   |_,_,_=>none
  else some (.ops l)
def compile(P:Program):Code->Option ai
 |.skip=>some .skip
 |.region _ ops draw=>nw P ops draw
 |.seq a b=>
  match compile P a,compile P b with
  |some x,some y=>some (.seq x y)
  |_,_=>none
 |.cond c a b=>
  match DX c,compile P a,compile P b with
  |some c,some x,some y=>some (.cond c x y)
  |_,_,_=>none
 |.block id a=>(compile P a).map (.block id)
 |.loop a=>(compile P a).map .loop
 |.exit id=>some (.exit id)
 |.ret=>some .ret
 |.label _=>some .skip
 |.scope a=>compile P a
 |.rangeFunc g ps asg body=>
  match DX g,compile P asg,compile P body with
  |some g,some x,some y=>some (.fN g ps.toList x y)
  |_,_,_=>none
 |.goto _=>some .bad
 |.refuse _=>some .bad
structure au where
 nt:Nat
 np:Nat
 rs:List (Nat×Option (Option Nat))
 body:ai
def tU(P:Program):ResultVar->Option (Nat×Option (Option Nat))
 |.tmp t=>some (t,none)
 |.cell a t=>(AR P t).map λn=>(a,some n)
def bS(P:Program)(f:FuncId):Option au:=
 match P.funcs[f]? with
 |none=>none
 |some fn=>
  match fn.body with
  |none=>none
  |some c=>
   match compile P c,fn.results.toList.mapM (tU P)with
   |some b,some rs=>if fn.name == "runtime.NumGoroutine" then none else some {nt:=fn.ntmps,np:=fn.params.size,rs:=rs,body:=b}
   |_,_=>none
def Eo(P:Program)(g:Nat):Nat:=
 match P.globals[g]? with
 |some G=>
  match P.info? G.type with
  |some i=>i.size
  |none=>0
 |none=>0
def BR(P:Program)(m:bZ)(w:World)(e:sK):ak->Prop
 |.cells c mu tl=>∃cc el fz,w.heap[e.cb]? =some (.cells cc el fz)/\(e.d+c.length<=cc.size/\e.d+c.length<=e.sz/\cc.size=e.sz)/\
   (∀(i:Nat) (x:AV),c[i]? =some x->x.one=true/\∃v,cc[e.d+i]? =some v/\VR m x v)/\
   (e.own=true->cc.size=e.sz/\∀i,i<cc.size->¬(fz.1<=i/\i<fz.2))/\((mu=true\/tl=true)->e.own=true/\(tl=false->e.sz=e.d+c.length))
 |.dead=>True
 |.bj es=>e.own=true/\∃TU clock,w.heap[e.cb]? =some (.map TU clock)/\TU.size=es.length/\
   ∀(i:Nat) (p:AV×AV),es[i]? =some p->∃q,TU[i]? =some q/\VR m p.1 q.key/\VR m p.2 q.val
 |.iter s pos=>e.own=true/\e.d=0/\w.heap[e.cb]? =some (.stringIter ⟨⟨s⟩⟩ pos)
 |.loop st ex ts ps asg body=>e.own=true/\∃fn tmps SH R5 df,w.heap[e.cb]? =some (.loop {state:=st,pending:=ex.jump,fn:=fn,tmps:=tmps,params:=⟨ps⟩,assign:=SH,body:=R5,defers:=df})/\
   cK m ts tmps.toList/\compile P SH=some asg/\compile P R5=some body
def ak.live:ak->Bool
 |.dead=>false
 |_=>true
def pR(e1 e2:sK):ak->ak->Prop
 |.cells c1 mu1 tl1,.cells c2 mu2 tl2=>mu1=false/\mu2=false/\(tl1=true->tl2=false/\e2.d+c2.length<=e1.d+c1.length)
 |.dead,_=>True
 |_,.dead=>True
 |_,_=>False
structure HR(P:Program)(m:bZ)(h:ah)(w:World):Prop where
 cL:∀b e,m b=some e->b<h.length
 dR:∀b e k,m b=some e->h[b]? =some k->BR P m w e k
 sep:∀b1 b2 e1 e2 k1 k2,b1≠b2->m b1=some e1->m b2=some e2->h[b1]? =some k1->h[b2]? =some k2->e1.cb=e2.cb->pR e1 e2 k1 k2
 ga:∀g,g<P.globals.size->∃e,m g=some e/\e.cb=g/\e.d=0/\e.own=false/\e.sz=Eo P g
 lt:∀b e,m b=some e->e.cb<w.heap.size
structure Grow(m:bZ)(h:ah)(w:World)(m':bZ)(h':ah)(w':World):Prop where
 ext:∀b,b<h.length->m' b=m b
 len:h.length<=h'.length
 new:∀b e,h.length<=b->m' b=some e->e.own=true/\(w.heap.size<=e.cb\/∃b0 e0,m b0=some e0/\e0.cb=e.cb/\e0.own=true/\eM h b0=true/\eM h' b0=false)
 tl:∀b,b<h.length->eM h' b=true->eM h b=true
 size:w.heap.size<=w'.heap.size
 os:w'.os=w.os
 out:w'.output=w.output
 tape:w'.tape=w.tape
 frame:∀i,i<w.heap.size->(∀b e,m b=some e->e.own=true->e.cb≠i)->w'.heap[i]? =w.heap[i]?
def Grow.refl(m:bZ)(h:ah)(w:World)(hd:∀b e,m b=some e->b<h.length):Grow m h w m h w where
 ext:=λ_ _=>rfl
 len:=Zc _
 new:=λb e hb he=>absurd (hd b e he) Om
 tl:=λ_ _ h=>h
 size:=Zc _
 os:=rfl
 out:=rfl
 tape:=rfl
 frame:=λ_ _ _=>rfl
theorem Grow.le{m m' h h' w w'}(g:Grow m h w m' h' w')(hd:∀b e,m b=some e->b<h.length):m.le m':=
 λb e he=>by rw[g.ext b (hd b e he)];exact he
theorem Grow.trans{m m1 m2 h h1 h2 w w1 w2}(a:Grow m h w m1 h1 w1)(b:Grow m1 h1 w1 m2 h2 w2)
  (hd:∀b e,m b=some e->b<h.length):Grow m h w m2 h2 w2 where
 ext:=λi hi=>(b.ext i (ZW hi a.len)).trans (a.ext i hi)
 len:=ZR a.len b.len
 new:=by
  intro i e hi he;by_cases h1i:h1.length<=i
  ·obtain⟨ho,hc⟩:=b.new i e h1i he;refine⟨ho,?_⟩;rcases hc with hc|⟨b0,e0,SZ,hcb,ho0,TZ,WD⟩
   ·exact .inl (ZR a.size hc)
   ·by_cases hb:h.length<=b0
    ·obtain⟨_,hc0⟩:=a.new b0 e0 hb SZ;rcases hc0 with hc0|⟨b00,e00,hb00,YL,ho00,ht00,Xw⟩
     ·exact .inl (hcb▸hc0)
     ·refine .inr ⟨b00,e00,hb00,YL.trans hcb,ho00,ht00,?_⟩;cases hx:eM h2 b00 with
      |false=>rfl
      |true=>
       have hlt:=hd _ _ hb00;rw[b.tl b00 (ZW hlt a.len) hx]at Xw;cases Xw
    ·have hlt:b0<h.length:=Om
     rw[a.ext b0 hlt]at SZ;exact .inr ⟨b0,e0,SZ,hcb,ho0,a.tl b0 hlt TZ,WD⟩
  ·have hi1:i<h1.length:=Om
   rw[b.ext i hi1]at he;obtain⟨ho,hc⟩:=a.new i e hi he;refine⟨ho,?_⟩;rcases hc with hc|⟨b0,e0,SZ,hcb,ho0,TZ,WD⟩
   ·exact .inl hc
   ·refine .inr ⟨b0,e0,SZ,hcb,ho0,TZ,?_⟩;cases hx:eM h2 b0 with
    |false=>rfl
    |true=>
     have hlt:=hd _ _ SZ;rw[b.tl b0 (ZW hlt a.len) hx]at WD;cases WD
 tl:=λi hi ht=>a.tl i hi (b.tl i (ZW hi a.len) ht)
 size:=ZR a.size b.size
 os:=b.os.trans a.os
 out:=b.out.trans a.out
 tape:=b.tape.trans a.tape
 frame:=by
  intro i hi hno;refine(b.frame i (ZW hi a.size) ?_).trans (a.frame i hi hno);intro j e he ho hcb;by_cases hj:h.length<=j
  ·obtain⟨_,hc⟩:=a.new j e hj he;rcases hc with hc|⟨b0,e0,SZ,YL,ho0,_,_⟩
   ·omega
   ·exact hno b0 e0 SZ ho0 (YL.trans hcb)
  ·rw[a.ext j Om]at he;exact hno j e he ho hcb
theorem BR.heap{P m w w' e k}(h:BR P m w e k)(hw:w'.heap[e.cb]? =w.heap[e.cb]?):BR P m w' e k:=by
 cases k<;>simp only[BR,hw]at h ⊢<;>exact h
theorem BR.mono{P m m' w e k}(hm:m.le m')(h:BR P m w e k):BR P m' w e k:=by
 cases k with
 |cells c mu tl=>
  obtain⟨cc,el,fz,h1,h2,h3,h4⟩:=h;exact⟨cc,el,fz,h1,h2,λi x hx=>by obtain⟨ho,v,hv,hr⟩:=h3 i x hx;exact⟨ho,v,hv,VR.mono hm _ _ hr⟩,h4⟩
 |dead=>trivial
 |bj es=>
  obtain⟨ho,TU,clock,h1,h2,h3⟩:=h;exact⟨ho,TU,clock,h1,h2,λi p hp=>by obtain⟨q,hq,ha,hb⟩:=h3 i p hp;exact⟨q,hq,VR.mono hm _ _ ha,VR.mono hm _ _ hb⟩⟩
 |iter s pos=>exact h
 |loop st ex ts ps asg body=>
  obtain⟨ho,fn,tmps,SH,R5,df,h1,h2,h3,h4⟩:=h;exact⟨ho,fn,tmps,SH,R5,df,h1,cK.mono hm _ _ h2,h3,h4⟩
theorem HR.drew{P m h w}(hr:HR P m h w):HR P m h w.drew where
 cL:=hr.cL
 dR:=λb e k hb hk=>(hr.dR b e k hb hk).heap rfl
 sep:=hr.sep
 ga:=hr.ga
 lt:=hr.lt
theorem Grow.drew{m h w m' h' w'}(g:Grow m h w m' h' w'):Grow m h w m' h' w'.drew:=
 ⟨g.ext,g.len,g.new,g.tl,g.size,g.os,g.out,g.tape,g.frame⟩
def Grow.Cv{m h w m' h' w'}(g:Grow m h w.drew m' h' w'):Grow m h w m' h' w':=
 ⟨g.ext,g.len,g.new,g.tl,g.size,g.os,g.out,g.tape,g.frame⟩
def BR.lt{P m w e k}(h:BR P m w e k)(hl:k.live=true):e.cb<w.heap.size:=by
 cases k with
 |cells c mu tl=>obtain⟨cc,el,fz,h1,_⟩:=h;exact(Zl.1 h1).1
 |dead=>cases hl
 |bj es=>obtain⟨_,TU,clock,h1,_⟩:=h;exact(Zl.1 h1).1
 |iter s pos=>exact(Zl.1 h.2.2).1
 |loop st ex ts ps asg body=>obtain⟨_,fn,tmps,SH,R5,df,h1,_⟩:=h;exact(Zl.1 h1).1
def bZ.add(m:bZ)(b:Nat)(e:sK):bZ:=λx=>if x=b then some e else m x
def bZ.rQ{m:bZ}{b:Nat}(e:sK)(h:m b=none):m.le (m.add b e):=by
 intro x y hx;unfold bZ.add;by_cases hb:x=b
 ·subst hb;rw[h]at hx;cases hx
 ·rw[Za hb];exact hx
def fH{h k b}(hb:b<h.length):eM (h++[k]) b=eM h b:=by
 unfold eM;rw[YY hb]
def ki{P:Program}{m:bZ}{h:ah}{w:World}(hr:HR P m h w)(o:Obj)(k:ak)(e:sK)(he:e.cb=w.heap.size)(ho:e.own=true)
  (hk:∀m':bZ,m.le m'->BR P m' (w.alloc o) e k):
  HR P (m.add h.length e) (h++[k]) (w.alloc o)/\Grow m h w (m.add h.length e) (h++[k]) (w.alloc o):=by
 have SO:m h.length=none:=by
  exact MI
 have hle:=bZ.rQ e SO;have hold:∀b x,m b=some x->(m.add h.length e) b=some x:=hle;have hheap:∀i,i<w.heap.size->(w.alloc o).heap[i]? =w.heap[i]? :=λi hi=>Go.RowKit.Below.heap_alloc w o i hi
 have VF:∀b x k',m b=some x->h[b]? =some k'->k'.live=true->x.cb<w.heap.size:=λb x k' hb hk' hl=>(hr.dR b x k' hb hk').lt hl
 refine⟨⟨?_,?_,?_,?_,?_⟩,⟨?_,Si,?_,?_,Si,rfl,rfl,rfl,λi hi _=>hheap i hi⟩⟩
 ·intro b x hb;unfold bZ.add at hb;by_cases hbl:b=h.length
  ·subst hbl;simp
  ·rw[Za hbl]at hb;have:=hr.cL _ _ hb;simp;omega
 ·intro b x k' hb hk';unfold bZ.add at hb;by_cases hbl:b=h.length
  ·subst hbl;rw[Zh rfl]at hb;cases hb;simp at hk';subst hk';exact hk _ hle
  ·rw[Za hbl]at hb;have hlt:=hr.cL _ _ hb;rw[YY hlt]at hk';have h0:=hr.dR b x k' hb hk';by_cases hl:k'.live=true
   ·exact(h0.mono hle).heap (hheap _ (h0.lt hl))
   ·cases k'<;>first|trivial|exact absurd rfl hl
 ·intro b1 b2 e1 e2 k1 k2 hne h1 h2 hk1 RF hcb;unfold bZ.add at h1 h2;by_cases Sb:b1=h.length
  ·subst Sb;rw[Zh rfl]at h1;cases h1;have Sl:b2≠h.length:=λx=>hne x.symm
   rw[Za Sl]at h2;have hlt:=hr.cL _ _ h2;rw[YY hlt]at RF;by_cases hl:k2.live=true
   ·have:=VF _ _ _ h2 RF hl;omega
   ·cases k2<;>first|(cases k1<;>trivial)|exact absurd rfl hl
  ·rw[Za Sb]at h1;have hlt1:=hr.cL _ _ h1;rw[YY hlt1]at hk1;by_cases Sl:b2=h.length
   ·subst Sl;rw[Zh rfl]at h2;cases h2;by_cases hl:k1.live=true
    ·have:=VF _ _ _ h1 hk1 hl;omega
    ·cases k1<;>first|trivial|exact absurd rfl hl
   ·rw[Za Sl]at h2;have SQ:=hr.cL _ _ h2;rw[YY SQ]at RF;exact hr.sep b1 b2 e1 e2 k1 k2 hne h1 h2 hk1 RF hcb
 ·intro g hg;obtain⟨x,hx,h1⟩:=hr.ga g hg;exact⟨x,hold _ _ hx,h1⟩
 ·intro b x hb;unfold bZ.add at hb;simp only[World.size_alloc];by_cases hbl:b=h.length
  ·rw[Zh hbl]at hb;cases hb;omega
  ·rw[Za hbl]at hb;have:=hr.lt _ _ hb;omega
 ·intro b hb;unfold bZ.add;rw[Za Om]
 ·intro b x hb hx;unfold bZ.add at hx;by_cases hbl:b=h.length
  ·rw[Zh hbl]at hx;cases hx;exact⟨ho,.inl Om⟩
  ·rw[Za hbl]at hx;exact absurd (hr.cL _ _ hx) Om
 ·intro b hb ht
  rwa [fH hb]at ht
def uL{P:Program}{m:bZ}{w:World}{c:List AV}{vs:List Value}(hc:cK m c vs)(h1:c.all AV.one=true)(el:TypeId)(mu tl:Bool)(m':bZ)(hm:m.le m'):
  BR P m' (w.alloc (.cells ⟨vs⟩ el)) ⟨w.heap.size,0,vs.length,true⟩ (.cells c mu tl):=by
 refine⟨⟨vs⟩,el,(0,0),World.alloc_heap_new w _,⟨by simp[hc.length],by simp[hc.length]⟩,?_,?_,λ_=>⟨rfl,λ_=>by simp[hc.length]⟩⟩
 ·intro i x hx;obtain⟨v,hv,hr⟩:=hc.get hx;exact⟨ZC.1 h1 x (ZV hx),v,by simpa using hv,VR.mono hm _ _ hr⟩
 ·intro _;exact⟨Si,λi _=>by simp⟩
def lL{P m h w}(hr:HR P m h w){c vs}(hc:cK m c vs)(h1:c.all AV.one=true)(el:TypeId)(mu tl:Bool):
  ∃m',m' h.length=some ⟨w.heap.size,0,vs.length,true⟩/\HR P m' (h++[.cells c mu tl]) (w.alloc (.cells ⟨vs⟩ el))/\Grow m h w m' (h++[.cells c mu tl]) (w.alloc (.cells ⟨vs⟩ el)):=
 ⟨_,by simp[bZ.add],ki hr (.cells ⟨vs⟩ el) (.cells c mu tl) ⟨w.heap.size,0,vs.length,true⟩ rfl rfl (λm' hm=>uL hc h1 el mu tl m' hm)⟩
def gI(b o n:Nat):(⟨b,o,none⟩:Addr).add n=⟨b,o+n,none⟩:=by
 unfold Addr.add;by_cases h:n=0
 ·simp[h]
 ·simp[h]
def cell_of{P m h w}(hr:HR P m h w){b e c mu tl}(he:m b=some e)(hb:h[b]? =some (.cells c mu tl))
  {i}{x}(hx:c[i]? =some x):x.one=true/\∃v,w.cell? ⟨e.cb,i+e.d,none⟩=some v/\VR m x v:=by
 obtain⟨cc,el,fz,h1,_,h3,_⟩:=hr.dR b e _ he hb;obtain⟨ho,v,hv,RG⟩:=h3 i x hx;exact⟨ho,v,by simp only[World.cell?,h1];rw[Nat.add_comm];simpa using hv,RG⟩
def nf{P m h w}(hr:HR P m h w){b e c mu tl}(he:m b=some e)(hb:h[b]? =some (.cells c mu tl))
  (o n:Nat) (hn:o+n<=c.length):∃vs,(loadCells ⟨e.cb,o+e.d,none⟩ n).run P w=.ok ⟨vs⟩ w/\cK m ((c.drop o).take n) vs/\((c.drop o).take n).all AV.one=true:=by
 have RM:∀j,j<n->∃x,c[o+j]? =some x:=λj hj=>⟨c[o+j],YZ Om⟩
 have SA:∀j,j<n->∃v,w.cell? ⟨e.cb,o+e.d+j,none⟩=some v/\∃x,c[o+j]? =some x/\VR m x v:=by
  intro j hj;obtain⟨x,hx⟩:=RM j hj;obtain⟨_,v,hv,RG⟩:=cell_of hr he hb hx;exact⟨v,by rw[show o+e.d+j=o+j+e.d from by omega];exact hv,x,hx,RG⟩
 obtain⟨f,hf⟩:∃f:Nat->Value,∀j,j<n->w.cell? ⟨e.cb,o+e.d+j,none⟩=some (f j):=
  ⟨λj=>(w.cell? ⟨e.cb,o+e.d+j,none⟩).getD default,λj hj=>by obtain⟨v,hv,_⟩:=SA j hj;simp[hv]⟩
 have SE:cK m ((c.drop o).take n) ((List.range n).map f):=by
  refine cK.gU (by simp;omega) λi x hx=>?_
  have hi:i<n:=by
   have:=(YU.1 hx).1;simp at this;omega
  rw[aa0 hi,abe]at hx;obtain⟨v,hv,y,hy,RG⟩:=SA i hi;rw[hx]at hy;cases hy;refine⟨f i,by simp[hi],?_⟩;have:=hf i hi;rw[hv]at this;cases this;exact RG
 refine⟨(List.range n).map f,?_,SE,?_⟩
 ·have:=run_loadCells_list (P:=P) (w:=w) ⟨e.cb,o+e.d,none⟩ ((List.range n).map f) (λj v hj=>by
   have hi:j<n:=by
    have:=(YU.1 hj).1
    simpa using this
   rw[gI];simp[hi]at hj;rw[<-hj];exact hf j hi)
  simpa using this
 ·rw[ZC];intro x hx;have RI:x∈c:=List.mem_of_mem_drop (Z8 hx);obtain⟨i,hi,rfl⟩:=aa4 RI;exact(cell_of hr he hb (YZ hi)).1
def fM(c:List AV)(o:Nat):List AV->List AV
 |[]=>c
 |x::xs=>fM (c.set o x) (o+1) xs
def bI(h:ah)(b b':Nat)(k:ak)(hb:b<h.length):(h.set b k)[b']? =if b' =b then some k else h[b']? :=by
 rw[List.getElem?_set];by_cases e:b=b'
 ·subst e;simp[hb]
 ·have e':¬b' =b:=λx=>e x.symm
  rw[Za e,Za e']
def n8{w:World}{cb i:Nat}{cc:Array Value}{el:TypeId}{fz:Nat×Nat}(h1:w.heap[cb]? =some (.cells cc el fz))(h:¬(fz.1<=i/\i<fz.2)):w.frozen? ⟨cb,i,none⟩=false:=by
 obtain⟨lo,hi⟩:=fz;simp only[World.frozen?,h1];simp only[Bool.and_eq_false_iff,aaM];simp only at h;omega
def heap_setCell_same{w:World}{cb i:Nat}{cc:Array Value}{el:TypeId}{fz:Nat×Nat}(h1:w.heap[cb]? =some (.cells cc el fz))(v:Value):
  (w.setCell ⟨cb,i,none⟩ v).heap[cb]? =some (.cells (cc.setIfInBounds i v) el fz):=by
 obtain⟨hlt,hk⟩:=Zl.1 h1;simp only[World.setCell];rw[ZT (by rw[Array.size_modify];exact hlt),Array.getElem_modify_self,hk];simp
def zA{P:Program}{m:bZ}{h:ah}{w:World}(hr:HR P m h w){b:Nat}{e:sK}{c:List AV}{tl:Bool}(he:m b=some e)(hb:h[b]? =some (.cells c true tl))
  {i:Nat}(hi:i<c.length) {x:AV}{v:Value}(hx:x.one=true) (hv:VR m x v):
  (store ⟨e.cb,i+e.d,none⟩ v).run P w=.ok () (w.setCell ⟨e.cb,i+e.d,none⟩ v)/\
  HR P m (h.set b (.cells (c.set i x) true tl)) (w.setCell ⟨e.cb,i+e.d,none⟩ v)/\Grow m h w m (h.set b (.cells (c.set i x) true tl)) (w.setCell ⟨e.cb,i+e.d,none⟩ v):=by
 obtain⟨cc,el,fz,h1,⟨h2,h2'⟩,h3,h4,h5⟩:=hr.dR b e _ he hb;have hown:e.own=true:=(h5 (.inl rfl)).1;obtain⟨eJ,hfz⟩:=h4 hown;have hbl:b<h.length:=hr.cL _ _ he;have SA:∃u,w.cell? ⟨e.cb,i+e.d,none⟩=some u:=⟨cc[i+e.d]'Om,by simp only[World.cell?,h1];exact ZT Om⟩;obtain⟨u,hu⟩:=SA;have hfr:w.frozen? ⟨e.cb,i+e.d,none⟩=false:=n8 h1 (hfz _ Om);have hother:∀k,k≠e.cb->(w.setCell ⟨e.cb,i+e.d,none⟩ v).heap[k]? =w.heap[k]? :=λk hk=>Go.RowKit.Below.heap_setCell w _ v k hk
 have Vu:=heap_setCell_same (i:=i+e.d) h1 v;refine⟨?_,⟨?_,?_,?_,hr.ga,λb' e' hb'=>by simpa using hr.lt b' e' hb'⟩,⟨λ_ _=>rfl,Si,?_,?_,Si,rfl,rfl,rfl,?_⟩⟩
 ·rw[run_store P w _ v .plain (hv.tX hx),hu];simp[hfr]
 ·intro b' e' hb';simpa using hr.cL b' e' hb'
 ·intro b' e' k SL hk;rw[bI h b b' _ hbl]at hk;by_cases hbb:b' =b
  ·subst hbb;rw[Zh rfl]at hk;cases hk;rw[he]at SL;cases SL;refine⟨_,el,fz,Vu,⟨by simpa using h2,by simpa using h2'⟩,?_,λho=>⟨by simpa using eJ,λj hj=>hfz j (by simpa using hj)⟩,λz=>⟨hown,λy=>by rw[ZI];exact(h5 (.inl rfl)).2 y⟩⟩;intro j y hy;rw[List.getElem?_set]at hy;by_cases hij:i=j
   ·subst hij;rw[Zh rfl,Zh hi]at hy;cases hy;refine⟨hx,v,?_,hv⟩;rw[show e.d+i=i+e.d from by omega];rw[aah Om]
   ·rw[Za hij]at hy;obtain⟨ho,u',Vs,hr'⟩:=h3 j y hy;refine⟨ho,u',?_,hr'⟩;rw[aaG Om];exact Vs
  ·rw[Za hbb]at hk;have h0:=hr.dR b' e' k SL hk;by_cases hl:k.live=true
   ·refine h0.heap (hother _ ?_);intro hcb;have:=hr.sep b b' e e' _ k (λx=>hbb x.symm) he SL hb hk hcb.symm;cases k<;>first|(cases hl;done)|exact absurd this.1 Si|exact this
   ·cases k<;>first|trivial|exact absurd rfl hl
 ·intro b1 b2 e1 e2 k1 k2 hne Td RO hk1 RF hcb;rw[bI h b _ _ hbl]at hk1 RF;by_cases Sb:b1=b
  ·subst Sb;rw[Zh rfl]at hk1;cases hk1;rw[Za (λx=>hne x.symm)]at RF;have:=hr.sep b1 b2 e1 e2 _ k2 hne Td RO hb RF hcb;cases k2<;>first|trivial|exact absurd this.1 Si|exact this.elim
  ·rw[Za Sb]at hk1;by_cases Sl:b2=b
   ·subst Sl;rw[Zh rfl]at RF;cases RF;have:=hr.sep b1 b2 e1 e2 k1 _ hne Td RO hk1 hb hcb;cases k1<;>first|trivial|exact absurd this.2.1 Si|exact this.elim
   ·exact z70
 ·intro b' e' hb' SL;exact absurd (hr.cL _ _ SL) Om
 ·intro b' hb' ht;unfold eM at ht ⊢;rw[bI h b b' _ hbl]at ht;by_cases hbb:b' =b
  ·subst hbb;rw[Zh rfl]at ht;rw[hb];exact ht
  ·exact Dl
 ·intro k hk hno;exact hother k (λhcb=>hno b e he hown hcb.symm)
theorem po{P m}:∀(xs:List AV) (vs:List Value) {h}{w}(_:HR P m h w) {b}{e}{c}{tl}(_:m b=some e) (_:h[b]? =some (.cells c true tl))
  (a j:Nat) (_:a+j+xs.length<=c.length) (_:xs.all AV.one=true) (_:cK m xs vs),
  ∃w',(storeCells ⟨e.cb,a+e.d,none⟩ vs j).run P w=.ok () w'/\HR P m (h.set b (.cells (fM c (a+j) xs) true tl)) w'/\Grow m h w m (h.set b (.cells (fM c (a+j) xs) true tl)) w'
 |[],vs,h,w,hr,b,e,c,tl,he,hb,a,j,hlen,h1,hv=>by
  rw[bE]at hv;subst hv;have hbl:b<h.length:=hr.cL _ _ he;have aQ:h.set b (.cells (fM c (a+j) []) true tl)=h:=by
   simp only[fM]
   apply abi
   intro i;rw[bI h b i _ hbl];by_cases hi:i=b
   ·subst hi;simp[hb]
   ·simp[hi]
  exact⟨w,rfl,by rw[aQ];exact hr,by rw[aQ];exact Grow.refl m h w hr.cL⟩
 |x::xs,vs,h,w,hr,b,e,c,tl,he,hb,a,j,hlen,h1,hv=>by
  obtain⟨v,vs',rfl,hxv,SE⟩:=aR.1 hv;simp only[aau,ZE]at h1;simp only[YX]at hlen;obtain⟨RH,hr1,hg1⟩:=zA hr he hb (i:=a+j) Om h1.1 hxv;have hbl:b<h.length:=hr.cL _ _ he;have Sb:(h.set b (.cells (c.set (a+j) x) true tl))[b]? =some (.cells (c.set (a+j) x) true tl):=by rw[bI h b b _ hbl,Zh rfl]
  obtain⟨w',hrun',hr',R2⟩:=po xs vs' hr1 he Sb a (j+1) (by simp;omega) h1.2 SE;have aQ:(h.set b (.cells (c.set (a+j) x) true tl)).set b (.cells (fM (c.set (a+j) x) (a+(j+1)) xs) true tl)=h.set b (.cells (fM c (a+j) (x::xs)) true tl):=by
   rw[List.set_set];rfl
  rw[aQ]at hr' R2;refine⟨w',?_,hr',Grow.trans hg1 R2 hr.cL⟩;simp only[storeCells,Zo];rw[gI,show a+e.d+j=a+j+e.d from by omega,RH];exact hrun'
def fP(op:BinOp)(k:IntKind)(a b:Int):Option AV:=
 match op with
 |.add=>some (.int k (k.wrap (a+b)))
 |.sub=>some (.int k (k.wrap (a-b)))
 |.mul=>some (.int k (k.wrap (a*b)))
 |.quo=>if b=0 then none else some (.int k (k.wrap (a.tdiv b)))
 |.rem=>if b=0 then none else some (.int k (a.tmod b))
 |.and=>some (.int k (k.wrap (BitVec.ofInt k.bits a &&& BitVec.ofInt k.bits b).toNat))
 |.or=>some (.int k (k.wrap (BitVec.ofInt k.bits a |||BitVec.ofInt k.bits b).toNat))
 |.xor=>some (.int k (k.wrap (BitVec.ofInt k.bits a^^^BitVec.ofInt k.bits b).toNat))
 |.andNot=>some (.int k (k.wrap (BitVec.ofInt k.bits a &&& ~~~ (BitVec.ofInt k.bits b)).toNat))
 |.eql=>some (.bool (a==b))
 |.neq=>some (.bool (a !=b))
 |.lss=>some (.bool (decide (a<b)))
 |.leq=>some (.bool (decide (a<=b)))
 |.gtr=>some (.bool (decide (a > b)))
 |.geq=>some (.bool (decide (a>=b)))
 |_=>none
def qP(op:BinOp)(x y:By):Option AV:=
 match op with
 |.add=>if x.length+y.length<2^62 then some (.str (x++y))else none
 |.eql=>some (.bool (x==y))
 |.neq=>some (.bool !(x==y))
 |.lss=>some (.bool (Op.bytesLess x y))
 |.leq=>some (.bool (Op.bytesLess x y||x==y))
 |.gtr=>some (.bool !(Op.bytesLess x y||x==y))
 |.geq=>some (.bool !(Op.bytesLess x y))
 |_=>none
def xz(op:BinOp)(k:IntKind)(a b:Int):Option AV:=
 if b<0 then none
 else match op with
  |.shl=>some (.int k (k.wrap (a*2^(min b.toNat k.bits))))
  |.shr=>some (.int k (a.fdiv (2^(min b.toNat k.bits))))
  |_=>none
def fc:BinOp->Bool
 |.shl=>true
 |.shr=>true
 |_=>false
def eI(op:BinOp):AV->AV->Option AV
 |.int k a,.int k' b=>if fc op then xz op k a b else if k=k' then fP op k a b else none
 |.str a,.str b=>qP op a b
 |_,_=>none
def wX(op:UnOp):AV->Option AV
 |.int k n=>
  match op with
  |.neg=>some (.int k (k.wrap (0-n)))
  |.xor=>fP .xor k (if k.signed then -1 else k.max) n
  |_=>none
 |.bool b=>
  match op with
  |.not=>some (.bool !b)
  |_=>none
 |_=>none
def cT:CK->AV->AV->Option Bool
 |.b,.bool a,.bool b=>some (a==b)
 |.i,.int k a,.int k' b=>if k=k' then some (a==b)else none
 |.s,.str a,.str b=>some (a==b)
 |_,_,_=>none
def c6:List CK->List AV->List AV->Option Bool
 |[],[],[]=>some true
 |k::ks,x::xs,y::ys=>
  match cT k x y with
  |some true=>c6 ks xs ys
  |some false=>some false
  |none=>none
 |_,_,_=>none
def y6(ks:List CK):AV->AV->Option Bool
 |.agg xs,.agg ys=>if xs.length=ks.length/\ys.length=ks.length then c6 ks xs ys else none
 |_,_=>none
def O8:AV->AV->Option Bool
 |.af,.af=>some true
 |.af,.slice _ _ _ _=>some false
 |.slice _ _ _ _,.af=>some false
 |_,_=>none
def O9:AV->AV->Option Bool
 |.nilPtr,.nilPtr=>some true
 |.nilPtr,.ptr _ _=>some false
 |.ptr _ _,.nilPtr=>some false
 |_,_=>none
def Pb:AV->AV->Option Bool
 |.nilFunc,.nilFunc=>some true
 |.nilFunc,.func _ _ _=>some false
 |.func _ _ _,.nilFunc=>some false
 |_,_=>none
def Pa:AV->AV->Option Bool
 |.db,.db=>some true
 |.db,.map _=>some false
 |.map _,.db=>some false
 |_,_=>none
def mz(t:P7)(x y:AV):Option Bool:=
 match t with
 |.one k=>cT k x y
 |.agg ks=>y6 ks x y
 |.D1=>O8 x y
 |.D2=>O9 x y
 |.qo=>Pb x y
 |.Lc=>Pa x y
def byteOf:AV->Option UInt8
 |.int .u8 n=>some (UInt8.ofNat n.toNat)
 |_=>none
def cellsIn(es:Nat)(h:ah):AV->Option (List AV×Nat)
 |.af=>some ([],0)
 |.slice b o n es'=>
  if es' =es then
   match h[b]? with
   |some (.cells c _ _)=>if o+n*es<=c.length then some ((c.drop o).take (n*es),n)else none
   |_=>none
  else none
 |.str s=>if es=1 then some (s.map λb=>.int .u8 b.toNat,s.length)else none
 |_=>none
def kg(k:zq)(x:AV)(h:ah):Option (AV×ah):=
 match k with
 |.LH k=>
  match x with
  |.int _ n=>some (.int k (k.wrap n),h)
  |_=>none
 |.same=>
  match x with
  |.str s=>some (.str s,h)
  |_=>none
 |.OQ k=>
  match x with
  |.int _ n=>some (.wS k (k.nearest n),h)
  |_=>none
 |.O5 k=>
  match x with
  |.wS s b=>
   match (s.decode b).toInt .zero with
   |some n=>if D4 s b=false/\k.min<=n/\n<=k.max then some (.int k n,h)else none
   |none=>none
  |_=>none
 |.O6 k=>
  match x with
  |.wS s b=>if s=k then some (.wS k b,h)else none
  |_=>none
 |.uM u=>some (.uM u x,h)
 |.MS=>
  match x with
  |.af=>some (.str [],h)
  |.slice b o n es=>
   match cellsIn 1 h (.slice b o n es)with
   |some (l,_)=>
    match l.mapM byteOf with
    |some r=>some (.str r,h)
    |none=>none
   |none=>none
  |_=>none
 |.NG=>
  match x with
  |.str s=>some (.slice h.length 0 s.length 1,h++[.cells (s.map λb=>.int .u8 b.toNat) true true])
  |_=>none
def dO(n:Nat)(z:List AV):List AV:=(List.replicate n z).flatten
def eV(c:List AV):List (Nat×Nat×AV)->Option (List AV)
 |[]=>some c
 |(off,n,v)::r=>if v.cells.length=n/\off+n<=c.length then eV (fM c off v.cells) r else none
def HH:Option AV->Option Int
 |none=>some 0
 |some (.int _ i)=>some i
 |_=>none
def Gc(n:Nat):Option AV->Option Int
 |none=>some n
 |some (.int _ i)=>some i
 |_=>none
def iZ(lo hi:Option AV)(n:Nat):Option (Nat×Nat):=
 match HH lo,Gc n hi with
 |some l,some h=>if 0<=l/\l<=h/\h<=n then some (l.toNat,h.toNat)else none
 |_,_=>none
def jo(kk:CK)(k:AV):List (AV×AV)->Option (Option AV)
 |[]=>some none
 |(a,v)::r=>
  match cT kk k a with
  |some true=>some (some v)
  |some false=>jo kk k r
  |none=>none
def pg(kk:CK)(k v:AV):List (AV×AV)->Option (List (AV×AV))
 |[]=>some [(k,v)]
 |(a,u)::r=>
  match cT kk k a with
  |some true=>some ((k,v)::r)
  |some false=>(pg kk k v r).map ((a,u)::·)
  |none=>none
def pZ:AV->AV->Option AV
 |.int k a,.int k' b=>if k=k' then some (.int k (if b > a then b else a))else none
 |_,_=>none
def pY:AV->AV->Option AV
 |.int k a,.int k' b=>if k=k' then some (.int k (if b<a then b else a))else none
 |_,_=>none
def iD(f:AV->AV->Option AV):AV->List AV->Option AV
 |x,[]=>some x
 |x,y::r=>
  match f x y with
  |some z=>iD f z r
  |none=>none
def zU(lk:LK)(h:ah):AV->Option Nat
 |.str s=>if lk=.st then some s.length else none
 |.slice _ _ n _=>if lk=.sl then some n else none
 |.af=>if lk=.sl then some 0 else none
 |.map r=>
  match h[r]? with
  |some (.bj es)=>if lk=.mp then some es.length else none
  |_=>none
 |.db=>if lk=.mp then some 0 else none
 |_=>none
def dw(k:o6)(ρ:cV->AV)(h:ah):Option (AV×ah):=
 match k with
 |.cg x=>some (ρ x,h)
 |.pick c a b=>
  match ρ c with
  |.bool t=>some (if t then ρ a else ρ b,h)
  |_=>none
 |.box x=>if(ρ x).cells.all AV.one then some (.ptr h.length 0,h++[.cells (ρ x).cells true false])else none
 |.lK n x=>if(ρ x).cells.all AV.one=true/\(ρ x).cells.length=n then some (.ptr h.length 0,h++[.cells (ρ x).cells true false])else none
 |.build z ps=>
  match eV z (ps.map λp=>(p.1,p.2.1,ρ p.2.2))with
  |some c=>some (.agg c,h)
  |none=>none
 |.load n a=>
  match ρ a with
  |.ptr b o=>
   match h[b]? with
   |some (.cells c _ _)=>
    match n with
    |none=>
     match c[o]? with
     |some x=>some (x,h)
     |none=>none
    |some n=>if o+n<=c.length then some (.agg ((c.drop o).take n),h)else none
   |_=>none
  |_=>none
 |.store n a x=>
  match ρ a with
  |.ptr b o=>
   match h[b]? with
   |some (.cells c true tl)=>
    if(ρ x).cells.length=n/\(ρ x).cells.all AV.one=true/\o+n<=c.length then some (ay,h.set b (.cells (fM c o (ρ x).cells) true tl))else none
   |_=>none
  |_=>none
 |.bQ x=>
  match ρ x with
  |.ptr b o=>some (.ptr b o,h)
  |.func (.func f) a c=>some (.func (.func f) a c,h)
  |.func (.yield f) a c=>some (.func (.yield f) a c,h)
  |.func (.methodOf t n) a c=>some (.func (.methodOf t n) a c,h)
  |.func (.via t p f q) a c=>some (.func (.via t p f q) a c,h)
  |_=>none
 |.bin op x y=>
  match eI op (ρ x) (ρ y)with
  |some v=>some (v,h)
  |none=>none
 |.eqv neg t x y=>
  match mz t (ρ x) (ρ y)with
  |some b=>some (.bool (if neg then !b else b),h)
  |none=>none
 |.un op x=>
  match wX op (ρ x)with
  |some v=>some (v,h)
  |none=>none
 |.conv k x=>kg k (ρ x) h
 |.ud f a c=>some (.func f (a.map ρ) (c.map ρ),h)
 |.nV=>some (.map h.length,h++[.bj []])
 |.vI es w z l c=>
  match ρ l,ρ c with
  |.int _ l,.int _ c=>
   if 0<=l/\l<=c/\(w:Int)*c<=2^48/\c<2^63 then some (.slice h.length 0 l.toNat es,h++[.cells (dO l.toNat z) true true])else none
  |_,_=>none
 |.sl es x lo hi=>
  match ρ x with
  |.slice b o n es'=>
   if es' =es then
    match iZ (lo.map ρ) (hi.map ρ) n with
    |some (l,h')=>some (.slice b (o+l*es) (h'-l) es,h)
    |none=>none
   else none
  |.af=>
   match iZ (lo.map ρ) (hi.map ρ) 0 with
   |some _=>some (.af,h)
   |none=>none
  |_=>none
 |.Jd x lo hi=>
  match ρ x with
  |.str s=>
   match iZ (lo.map ρ) (hi.map ρ) s.length with
   |some (l,h')=>some (.str ((s.drop l).take (h'-l)),h)
   |none=>none
  |_=>none
 |.MO k es x lo hi=>
  match ρ x with
  |.ptr b o=>
   match h[b]? with
   |some (.cells c _ _)=>
    if o+k*es<=c.length then
     match iZ (lo.map ρ) (hi.map ρ) k with
     |some (l,h')=>some (.slice b (o+l*es) (h'-l) es,h)
     |none=>none
    else none
   |_=>none
  |_=>none
 |.aX off x=>
  match ρ x with
  |.ptr b o=>some (.ptr b (o+off),h)
  |_=>none
 |.bw es x i=>
  match ρ x,ρ i with
  |.slice b o n es',.int _ i=>if es' =es/\0<=i/\i<n then some (.ptr b (o+i.toNat*es),h)else none
  |_,_=>none
 |.sj len es x i=>
  match ρ x,ρ i with
  |.ptr b o,.int _ i=>if 0<=i/\i<len then some (.ptr b (o+i.toNat*es),h)else none
  |_,_=>none
 |.part n off x=>
  match ρ x with
  |.agg cs=>
   match n with
   |none=>
    match cs[off]? with
    |some v=>some (v,h)
    |none=>none
   |some n=>some (.agg ((cs.drop off).take n),h)
  |_=>none
 |.Jf len es n x i=>
  match ρ x,ρ i with
  |.agg cs,.int _ i=>
   if 0<=i/\i<len then
    match n with
    |none=>
     match cs[i.toNat*es]? with
     |some v=>some (v,h)
     |none=>none
    |some n=>some (.agg ((cs.drop (i.toNat*es)).take n),h)
   else none
  |_,_=>none
 |.Dh x i=>
  match ρ x,ρ i with
  |.str s,.int _ i=>
   if 0<=i then
    match s[i.toNat]? with
    |some b=>some (.int .u8 b.toNat,h)
    |none=>none
   else none
  |_,_=>none
 |.look kk z ok m k=>
  match ρ m with
  |.db=>some (if ok then .dL [z,.bool false]else z,h)
  |.map r=>
   match h[r]? with
   |some (.bj es)=>
    match jo kk (ρ k) es with
    |some (some v)=>some (if ok then .dL [v,.bool true]else v,h)
    |some none=>some (if ok then .dL [z,.bool false]else z,h)
    |none=>none
   |_=>none
  |_=>none
 |.fO kk m k x=>
  match ρ m with
  |.map r=>
   match h[r]? with
   |some (.bj es)=>
    match pg kk (ρ k) (ρ x) es with
    |some es'=>some (ay,h.set r (.bj es'))
    |none=>none
   |_=>none
  |_=>none
 |.BI x=>
  match ρ x with
  |.str s=>some (.ptr h.length 0,h++[.iter s 0])
  |_=>none
 |.rk x=>
  match ρ x with
  |.ptr b 0=>
   match h[b]? with
   |some (.iter s pos)=>
    if pos<s.length then
     let d:=Utf8.decode ⟨⟨s⟩⟩ pos
     some (.dL [.bool true,.int .i64 pos,.int .i32 d.1],h.set b (.iter s (pos+d.2)))
    else some (.dL [.bool false],h)
   |_=>none
  |_=>none
 |.ext x i=>
  match ρ x with
  |.dL l=>
   match l[i]? with
   |some v=>some (v,h)
   |none=>none
  |_=>none
 |.len lk x=>
  match zU lk h (ρ x)with
  |some n=>some (.int .i64 n,h)
  |none=>none
 |.zT n=>some (.int .i64 n,h)
 |.za es x y=>
  match ρ x,cellsIn es h (ρ y)with
  |.slice b o n es',some (ys,k)=>
   if es' =es then
    if min k n=0 then some (.int .i64 0,h)
    else
     match h[b]? with
     |some (.cells c true tl)=>if o+min k n*es<=c.length then some (.int .i64 (min k n:Nat),h.set b (.cells (fM c o (ys.take (min k n*es))) true tl))else none
     |_=>none
   else none
  |.af,some _=>some (.int .i64 0,h)
  |_,_=>none
 |.mx x l=>
  match iD pZ (ρ x) (l.map ρ)with
  |some v=>some (v,h)
  |none=>none
 |.mn x l=>
  match iD pY (ρ x) (l.map ρ)with
  |some v=>some (v,h)
  |none=>none
 |_=>none
inductive wQ (es w:Nat) (s y:AV) (h:ah):AV->ah->Prop
 |none (hy:cellsIn es h y=some ([],0)) (hs:s=.af\/∃b o n,s=.slice b o n es):wQ es w s y h s h
 |new (ys:List AV) (k:Nat) (mu:Bool) (hy:cellsIn es h y=some (ys,k)) (hk:0<k) (hb:k*w<=2^46) (hs:s=.af):
   wQ es w s y h (.slice h.length 0 k es) (h++[.cells ys mu true])
 |on (ys:List AV) (k b o n:Nat) (c:List AV) (mu:Bool) (hy:cellsIn es h y=some (ys,k)) (hk:0<k) (hb:(n+k)*w<=2^46) (hs:s=.slice b o n es)
   (hc:h[b]? =some (.cells c mu true)) (hl:o+n*es=c.length):
   wQ es w s y h (.slice h.length 0 (n+k) es) (h.set b (.cells c false false)++[.cells (c.drop o++ys) false true])
 |over (ys:List AV) (k b o n:Nat) (c:List AV) (mu:Bool) (hy:cellsIn es h y=some (ys,k)) (hk:0<k) (hb:(n+k)*w<=2^46) (hs:s=.slice b o n es)
   (hc:h[b]? =some (.cells c true true)) (hl:o+n*es<=c.length):
   wQ es w s y h (.slice h.length 0 (n+k) es) (h.set b .dead++[.cells ((c.drop o).take (n*es)++ys) mu true])
 |full (ys:List AV) (k b o n:Nat) (c:List AV) (hy:cellsIn es h y=some (ys,k)) (hk:0<k) (hb:(n+k)*w<=2^46) (hs:s=.slice b o n es)
   (hc:h[b]? =some (.cells c true false)) (hl:o+n*es=c.length):
   wQ es w s y h (.slice h.length 0 (n+k) es) (h++[.cells (c.drop o++ys) true true])
def wrap64{n}(h0:-9223372036854775808<=n)(h1:n<9223372036854775808):IntKind.i64.wrap n=n:=by
 show(if(true&&decide (n%(18446744073709551616:Int)>=(9223372036854775808:Int)))=true then n%(18446744073709551616:Int)-18446744073709551616 else n%(18446744073709551616:Int))=n;simp only[aav,ZO];split<;>omega
def GY{n}(h0:0<=n)(h1:n<256):IntKind.u8.wrap n=n:=by
 show(if(false&&decide (n%(256:Int)>=(128:Int)))=true then n%(256:Int)-256 else n%(256:Int))=n;exact Ju
def yx{n}(h0:0<=n)(h1:n<18446744073709551616):IntKind.u64.wrap n=n:=by
 show(if(false&&decide (n%(18446744073709551616:Int)>=(9223372036854775808:Int)))=true then n%(18446744073709551616:Int)-18446744073709551616 else n%(18446744073709551616:Int))=n;exact Ju
def fg(P:Program)(m:bZ)(h:ah)(w:World)(v:AV)(h':ah)(r:Result Next):Prop:=
 ∃cv w' m',(r=.ok (.value cv) w'\/(r=.ok .skip w'/\cv=undef))/\VR m' v cv/\HR P m' h' w'/\Grow m h w m' h' w'
def fg.same{P m h w v cv r}(hr:HR P m h w)(hv:VR m v cv)(e:r=.ok (.value cv) w):fg P m h w v h r:=
 ⟨cv,w,m,.inl e,hv,hr,Grow.refl m h w hr.cL⟩
def jT(m:bZ):VR m ay undef:=⟨[],rfl,rfl⟩
theorem vK(m:bZ)(n:Nat)(ih:∀v a,mA n v=some a->VR m a v):∀(l:List Value) (r:List AV),l.mapM (mA n)=some r->cK m r l
 |[],r,h=>by simp at h;subst h;exact bE.2 rfl
 |v::l,r,h=>by
  simp only[abm,aa5,abw]at h;cases hv:mA n v with
  |none=>simp[hv]at h
  |some a=>
   cases hl:l.mapM (mA n)with
   |none=>simp[hv,hl]at h
   |some r'=>
    simp[hv,hl]at h;subst h;exact aR.2 ⟨v,l,rfl,ih v a hv,vK m n ih l r' hl⟩
def qD(m:bZ):∀(n:Nat) (v:Value) (a:AV),mA n v=some a->VR m a v
 | 0,v,a,h=>by simp[mA]at h
 |n+1,v,a,h=>by
  unfold mA at h;split at h
  ·cases h;rfl
  ·cases h;rfl
  ·cases h;exact⟨_,rfl,.inl rfl⟩
  ·cases h;exact⟨_,_,rfl,.inl rfl,.inl rfl⟩
  ·cases h;rfl
  ·cases h;rfl
  ·cases h;rfl
  ·cases h;rfl
  ·cases h;rfl
  ·exact Qh
  ·exact Qh
  ·cases h
def b9{P}{t:TypeId}{n}(h:dV P t=some n)(w:World):(sizeOf t).run P w=.ok n w:=by
 unfold dV at h;cases hi:P.info? t with
 |none=>simp[hi]at h
 |some i=>simp[hi]at h;subst h;simp[sizeOf,typeInfo,hi]
def lR{P}{t:TypeId}{d:TypeDesc}(h:P.underlying t=some d)(w:World):(isAgg t).run P w=.ok (jO d) w:=by
 cases d<;>simp[isAgg,Zm h,jO]
def vG{P}{t:TypeId}{n}(h:AR P t=some (some n))(w:World):(isAgg t).run P w=.ok true w/\dV P t=some n:=by
 unfold AR at h;split at h
 case h_2=>cases h
 rename_i d hu;split at h
 case isFalse=>simp at h
 rename_i hd;refine⟨by rw[lR hu,hd],?_⟩;cases hi:P.info? t with
 |none=>simp[hi]at h
 |some i=>simp[hi]at h;simp[dV,hi,h]
def vH{P}{t:TypeId}(h:AR P t=some none)(w:World):(isAgg t).run P w=.ok false w:=by
 unfold AR at h;split at h
 case h_2=>cases h
 rename_i d hu;split at h
 case isTrue=>cases hi:P.info? t<;>simp[hi]at h
 rename_i hd;rw[lR hu];simp at hd;rw[hd]
def jS{P}{t:TypeId}{z}(h:jy P t=some z)(w:World)(m:bZ):∃cz,(zeroValue t).run P w=.ok cz w/\VR m z cz:=by
 unfold jy at h;cases hi:P.info? t with
 |none=>simp[hi]at h
 |some i=>
  cases hz:i.zero with
  |none=>simp[hi,hz]at h
  |some cz=>
   simp[hi,hz]at h;exact⟨cz,by simp[zeroValue,typeInfo,hi,hz],qD m 4 cz z h⟩
section
variable {P:Program}{m:bZ}{h h':ah}{w:World}{v:AV}{ρ:cV->AV}{hr:HR P m h w}
def tg(hr:HR P m h w){x cx}(hx:VR m x cx)(h1:x.cells.all AV.one=true)(t:TypeId)(mu tl:Bool):
  ∃m',(newVar t cx).run P w=.ok ⟨w.heap.size,0,none⟩ (w.alloc (.cells cx.cells t))/\VR m' (.ptr h.length 0) (.pointer (some ⟨w.heap.size,0,none⟩))/\
   HR P m' (h++[.cells x.cells mu tl]) (w.alloc (.cells cx.cells t))/\Grow m h w m' (h++[.cells x.cells mu tl]) (w.alloc (.cells cx.cells t)):=by
 obtain⟨m',h0,h2,h3⟩:=lL hr hx.cells h1 t mu tl;refine⟨m',by simp[newVar,newRow],⟨_,h0,rfl⟩,h2,h3⟩
def BF{t:TypeId}{n a ca}(hn:AR P t=some n)(hr:HR P m h w)(ha:VR m (ρ a) ca)(hf:dw (.load n a) ρ h=some (v,h')):
  ∃cv,(Instr.loadAt t ca).run P w=.ok cv w/\VR m v cv/\h' =h:=by
 simp only[dw]at hf;split at hf
 case h_2=>cases hf
 rename_i b o hρ;rw[hρ]at ha;obtain⟨e,he,rfl⟩:=ha;split at hf
 case h_2=>cases hf
 rename_i c mu tl hb;cases n with
 |none=>
  simp only at hf;split at hf
  case h_2=>cases hf
  rename_i x hx;cases hf;obtain⟨_,cv,TN,RG⟩:=cell_of hr he hb hx;exact⟨cv,by simp[Instr.loadAt,Instr.sureAddr,loadVar,vH hn,TN],RG,rfl⟩
 |some n=>
  simp only at hf;split at hf
  case isFalse=>cases hf
  rename_i hle;cases hf;obtain⟨hagg,eJ⟩:=vG hn w;obtain⟨vs,RH,SE,_⟩:=nf hr he hb o n hle;exact⟨.agg ⟨vs⟩,by simp[Instr.loadAt,Instr.sureAddr,loadVar,hagg,b9 eJ,RH],⟨vs,rfl,SE⟩,rfl⟩
def DE{t:TypeId}{n a x ca cx}(hn:dV P t=some n)(hr:HR P m h w)(ha:VR m (ρ a) ca)(hx:VR m (ρ x) cx)(hf:dw (.store n a x) ρ h=some (v,h')):
  ∃w',(Instr.storeAt t ca cx).run P w=.ok () w'/\v=ay/\HR P m h' w'/\Grow m h w m h' w':=by
 simp only[dw]at hf;split at hf
 case h_2=>cases hf
 rename_i b o hρ;rw[hρ]at ha;obtain⟨e,he,rfl⟩:=ha;split at hf
 case h_2=>cases hf
 rename_i c tl hb;split at hf
 case isFalse=>cases hf
 rename_i hc;cases hf;obtain⟨h1,h2,h3⟩:=hc;have hcl:=hx.cells;obtain⟨w',RH,hr',R2⟩:=po (ρ x).cells cx.cells.toList hr he hb o 0 Om h2 hcl;have hlen:cx.cells.size=n:=by have:=hcl.length;simp at this;omega
 refine⟨w',?_,rfl,hr',R2⟩;simp only[Instr.storeAt,Instr.sureAddr,storeVar,Zo,ZF,Ze,b9 hn];simp[hlen,RH]
def vg(c:List Value)(o:Nat):List Value->List Value
 |[]=>c
 |x::xs=>vg (c.set o x) (o+1) xs
theorem sS{m}:∀{xs}{vs},cK m xs vs->∀{c}{cv}(o:Nat),cK m c cv->cK m (fM c o xs) (vg cv o vs)
 |[],vs,hx,c,cv,o,hc=>by rw[bE]at hx;subst hx;exact hc
 |x::xs,vs,hx,c,cv,o,hc=>by
  obtain⟨v,vs',rfl,hv,SE⟩:=aR.1 hx;exact sS SE (o+1) (hc.set o hv)
theorem tz(off:Nat):∀(xs:List Value) (k:Nat) (cs:Array Value),(List.foldl (λcs (p:Value×Nat)=>cs.setIfInBounds (off+p.2) p.1) cs (xs.zipIdx k)).toList=vg cs.toList (off+k) xs
 |[],k,cs=>rfl
 |x::xs,k,cs=>by
  simp only[List.zipIdx_cons,aaB,vg];rw[tz off xs (k+1)];simp[Nat.add_assoc]
theorem qA{m}(place:Nat->Option (Nat×Nat)):∀(ps:List (Nat×Value)) (qs:List (Nat×Nat×AV)) (c:List AV) (cc:Array Value) (c':List AV),
  ps.length=qs.length->(∀(i:Nat) p q,ps[i]? =some p->qs[i]? =some q->place p.1=some (q.1,q.2.1)/\VR m q.2.2 p.2)->cK m c cc.toList->eV c qs=some c'->
  ∃So,Instr.fill place cc ps=some So/\cK m c' So.toList
 |[],[],c,cc,c',_,_,hc,hf=>by simp[eV]at hf;subst hf;exact⟨cc,rfl,hc⟩
 |[],q::qs,c,cc,c',hl,_,_,_=>by simp at hl
 |p::ps,[],c,cc,c',hl,_,_,_=>by simp at hl
 |(i,x)::ps,(off,n,y)::qs,c,cc,c',hl,hp,hc,hf=>by
  obtain⟨UQ,hxy⟩:=hp 0 (i,x) (off,n,y) Si Si;simp only at UQ hxy;simp only[eV]at hf;split at hf
  case isFalse=>cases hf
  rename_i RZ;obtain⟨hlen,hle⟩:=RZ;have hcells:=hxy.cells;have eJ:x.cells.size=n:=by have:=hcells.length;simp at this;omega
  have Ue:cc.size=c.length:=by have:=hc.length;simpa using this
  have hfold:(x.cells.zipIdx.foldl (λcs (p:Value×Nat)=>cs.setIfInBounds (off+p.2) p.1) cc).toList=vg cc.toList off x.cells.toList:=by
   rw[<-Array.foldl_toList];have:=tz off x.cells.toList 0 cc
   simpa using this
  obtain⟨So,h1,h2⟩:=qA place ps qs (fM c off y.cells) (x.cells.zipIdx.foldl (λcs (p:Value×Nat)=>cs.setIfInBounds (off+p.2) p.1) cc) c' (by simpa using hl)
   (λj p q hj hq=>hp (j+1) p q (by simpa using hj) (by simpa using hq)) (by rw[hfold];exact sS hcells off hc) hf
  refine⟨So,?_,h2⟩;simp only[Instr.fill,UQ];rw[Za (by simp;omega)];exact h1
theorem ql{P}{t:TypeId}:∀{ps}{l},mh P t ps=some l->ps.length=l.length/\
  ∀(i:Nat) p q,ps[i]? =some p->l[i]? =some q->jC P t p.1=some (q.1,q.2.1)/\cS p.2=some q.2.2
 |[],l,h=>by simp[mh]at h;subst h;exact⟨rfl,λi p q hp=>by simp at hp⟩
 |(i,x)::ps,l,h=>by
  simp only[mh]at h;split at h
  case h_2=>cases h
  rename_i off n y r h1 h2 h3;cases h;obtain⟨hl,hp⟩:=ql h3;refine⟨by simp[hl],λj p q hj hq=>?_⟩;cases j with
  |zero=>simp at hj hq;subst hj;subst hq;exact⟨h1,h2⟩
  |succ j=>exact hp j p q (by simpa using hj) (by simpa using hq)
def CD{t:TypeId}{z:AV}{ps:List (Nat×Value)}{cz:Value}{So:Array Value}(hz:(P.info? t).bind (·.zero)=some cz)(hp:nR P t=true)(hf:Instr.fill (jC P t) cz.cells ps=some So):
  P.built t ps=some So:=by
 unfold Program.built;cases hi:P.info? t with
 |none=>simp[hi]at hz
 |some it=>
  simp[hi]at hz;unfold nR at hp;split at hp
  ·rename_i fs hu;obtain⟨places,hpls⟩:=Option.isSome_iff_exists.1 hp;have UQ:jC P t=λi=>places[i]? :=by
    funext i;simp only[jC,hu,hpls]
   rw[UQ]at hf;simp only[hu,hz,hpls]
   simpa using hf
  ·rename_i n e hu;obtain⟨ie,hie⟩:=Option.isSome_iff_exists.1 hp;have UQ:jC P t=λi=>some (i*ie.size,ie.size):=by
    funext i;simp only[jC,hu,hie];rfl
   rw[UQ]at hf;simp only[hu,hz,hie];exact hf
  ·cases hp
def DH{t:TypeId}{z:AV}{ps:Array (Nat×Operand)}{l:List (Nat×Nat×cV)}{σ:Operand->Value}(hz:jy P t=some z)(hl:mh P t ps.toList=some l)(hp:nR P t=true)
  (hρ:∀p∈ps.toList,∀y,cS p.2=some y->VR m (ρ y) (σ p.2)) (hf:dw (.build z.cells l) ρ h=some (v,h')):
  ∃cv,(Instr.build t (ps.map λ(i,x)=>(i,σ x))).run P w=.ok cv w/\VR m v cv/\h' =h:=by
 simp only[dw]at hf;split at hf
 case h_2=>cases hf
 rename_i c hc;cases hf;obtain⟨hlen,hpq⟩:=ql hl;have Yi:∃cz,(P.info? t).bind (·.zero)=some cz/\VR m z cz:=by
  unfold jy at hz;cases hi:P.info? t with
  |none=>simp[hi]at hz
  |some i=>
   cases hzz:i.zero with
   |none=>simp[hi,hzz]at hz
   |some cz=>simp[hi,hzz]at hz;exact⟨cz,by simp[hzz],qD m 4 cz z hz⟩
 obtain⟨cz,Uu,U5⟩:=Yi;obtain⟨So,S2,SE⟩:=qA (m:=m) (jC P t) (ps.toList.map λp=>(p.1,σ p.2)) (l.map λp=>(p.1,p.2.1,ρ p.2.2)) z.cells cz.cells c (by simp[hlen])
  (λi p q XC hq=>by
   simp only[aaf,Zq]at XC hq;obtain⟨p0,hp0,rfl⟩:=XC;obtain⟨q0,hq0,rfl⟩:=hq;obtain⟨h1,h2⟩:=hpq i p0 q0 hp0 hq0;exact⟨h1,hρ p0 (ZV hp0) _ h2⟩) U5.cells hc
 refine⟨.agg So,run_build w t _ So ?_,⟨So.toList,rfl,SE⟩,rfl⟩;have:=CD (z:=z) Uu hp S2
 simpa using this
def BE{t:TypeId}{n off l l'}(hn:AR P t=some n)(hl:cK m l l')
  (hf:(match n with|none=>(match l[off]? with|some v=>some (v,h)|none=>none)|some n=>some (.agg ((l.drop off).take n),h))=some (v,h')):
  ∃cv,(part t ⟨l'⟩ off).run P w=.ok cv w/\VR m v cv/\h' =h:=by
 cases n with
 |none=>
  simp only at hf;split at hf
  case h_2=>cases hf
  rename_i x hx;cases hf;obtain⟨cv,TN,RG⟩:=hl.get hx;exact⟨cv,by simp[part,vH hn,TN],RG,rfl⟩
 |some n=>
  cases hf;obtain⟨h1,h2⟩:=vG hn w;refine⟨.agg ⟨(l'.drop off).take n⟩,?_,⟨_,rfl,(hl.drop off).take n⟩,rfl⟩;simp only[part,Zo,h1,Ze,Zk,b9 h2,ZF];simp[List.extract_eq_take_drop]
end
section
variable {P:Program}{m:bZ}{h h':ah}{w:World}
def xD{op k a b v}(hs:fc op=false)(hf:fP op k a b=some v)(t:TypeId):
  ∃cv,(binOp op t (.int k a) (.int k b)).run P w=.ok cv w/\VR m v cv:=by
 cases op<;>simp only[fP,fc]at hf hs<;>first
  |(cases hs;done)
  |(cases hf;done)
  |skip
 all_goals first
  |(cases hf;exact⟨_,by simp[binOp,Op.intArith,Op.intBits,Op.intCmp],rfl⟩)
  |(split at hf
    ·cases hf
    ·rename_i hb;cases hf;exact⟨_,by simp[binOp,Op.intDiv,hb],rfl⟩)
def xB{op k k' a b v}(hs:fc op=true)(hf:xz op k a b=some v)(t:TypeId):
  ∃cv,(binOp op t (.int k a) (.int k' b)).run P w=.ok cv w/\VR m v cv:=by
 unfold xz at hf;split at hf
 ·cases hf
 ·rename_i hb;cases op<;>first
   |(cases hs;done)
   |(cases hf;exact⟨_,by simp[binOp,Op.shift,hb],rfl⟩)
def toList_mk(l:By):(⟨⟨l⟩⟩:ByteArray).toList=l:=by rw[ByteArray.toList_eq]
def AB(a b:By):(⟨⟨a⟩⟩:ByteArray)++⟨⟨b⟩⟩=⟨⟨a++b⟩⟩:=by
 apply ByteArray.ext
 rw[ByteArray.data_append];simp
def xA{op a b v}(hf:qP op a b=some v)(t:TypeId):
  ∃cv,(binOp op t (.string ⟨⟨a⟩⟩) (.string ⟨⟨b⟩⟩)).run P w=.ok cv w/\VR m v cv:=by
 cases op<;>simp only[qP]at hf<;>first
  |(cases hf;done)
  |skip
 all_goals first
  |(cases hf;exact⟨_,by simp[binOp,Op.stringOp,toList_mk],rfl⟩)
  |(split at hf
    ·rename_i hlen;cases hf;refine⟨.string ⟨⟨a++b⟩⟩,?_,rfl⟩;have hn:¬(IntKind.i64.max<(((⟨⟨a⟩⟩:ByteArray).size+(⟨⟨b⟩⟩:ByteArray).size:Nat):Int)):=by
      show ¬((9223372036854775807:Int)<((a.length+b.length:Nat):Int));omega
     simp only[binOp,Op.stringOp,GT.gt,Za hn,AB,ZF]
    ·cases hf)
def DI{op x v cx}(hx:VR m x cx)(hf:wX op x=some v):∃cv,(Op.unary op cx).run P w=.ok cv w/\VR m v cv:=by
 cases x with
 |int k n=>
  rw[VR]at hx;subst hx;cases op with
  |neg=>simp only[wX,Zy]at hf;subst hf;exact⟨_,rfl,rfl⟩
  |xor=>simp only[wX,fP,Zy]at hf;subst hf;exact⟨_,rfl,rfl⟩
  |not=>simp[wX]at hf
  |plus=>simp[wX]at hf
 |bool b=>
  rw[VR]at hx;subst hx;cases op<;>simp only[wX]at hf<;>first
   |(cases hf;done)
   |(cases hf;exact⟨_,by simp[Op.unary],rfl⟩)
 |_=>cases op<;>simp[wX]at hf
def qX{t:TypeId}{k}(ht:match k with|.b=>P.underlying t=some .bool|.i=>∃k,P.underlying t=some (.int k)|.s=>P.underlying t=some .string)
  {x y}{cx cy}{b}(hx:VR m x cx) (hy:VR m y cy) (hf:cT k x y=some b) (d:Nat):(Op.equalIn (d+1) t cx cy).run P w=.ok b w:=by
 unfold cT at hf;split at hf
 ·rw[VR]at hx hy;subst hx;subst hy;cases hf;exact run_equalIn_bool' w d t _ _ ht
 ·split at hf
  ·rename_i hk;rw[VR]at hx hy;subst hx;subst hy;subst hk;cases hf;obtain⟨k',hu⟩:=ht;exact run_equalIn_int w d t _ k' _ _ hu
  ·cases hf
 ·rw[VR]at hx hy;subst hx;subst hy;cases hf;rw[run_equalIn_string w d t _ _ ht,toList_mk,toList_mk]
 ·cases hf
theorem jq:∀(ks ks':List CK) (xs ys xs' ys':List AV) (b:Bool),xs.length=ks.length->ys.length=ks.length->c6 (ks++ks') (xs++xs') (ys++ys')=some b->
  (∃c,c6 ks xs ys=some c/\((c=true/\c6 ks' xs' ys' =some b)\/(c=false/\b=false)))
 |[],ks',[],[],xs',ys',b,_,_,h=>⟨true,rfl,.inl ⟨rfl,h⟩⟩
 |k::ks,ks',x::xs,y::ys,xs',ys',b,hx,hy,h=>by
  simp only[aaa,c6]at h ⊢;cases hc:cT k x y with
  |none=>simp[hc]at h
  |some c=>
   cases c with
   |false=>simp[hc]at h;subst h;exact⟨false,Si,.inr ⟨rfl,rfl⟩⟩
   |true=>
    simp only[hc]at h;obtain⟨c,h1,h2⟩:=jq ks ks' xs ys xs' ys' b (by simpa using hx) (by simpa using hy) h;exact⟨c,by simpa using h1,h2⟩
 |[],_,_::_,_,_,_,_,h,_,_=>by simp at h
 |[],_,_,_::_,_,_,_,_,h,_=>by simp at h
 |_::_,_,[],_,_,_,_,h,_,_=>by simp at h
 |_::_,_,_,[],_,_,_,_,h,_=>by simp at h
def iV(d:TypeDesc)(l:List Value):Value:=if jO d then .agg ⟨l⟩else l.headD default
def nM{t:TypeId}{d:TypeDesc}{n}(hd:P.underlying t=some d)(hn:dV P t=some n)(h1:jO d=false->n=1){l off}(hl:off+n<=l.length):
  (part t ⟨l⟩ off).run P w=.ok (iV d ((l.drop off).take n)) w:=by
 unfold iV;cases ha:jO d with
 |true=>
  simp only[part,Zo,lR hd,ha,Ze,Zk,b9 hn,ZF];simp[List.extract_eq_take_drop]
 |false=>
  have:=h1 ha;subst this;have hlt:off<l.length:=Om
  simp only[part,Zo,lR hd,ha,Ze];have e:(l.drop off).take 1=[l[off]]:=by
   rw[aaI hlt,aaR,List.take_zero]
  simp[e,hlt]
def tA{d}{t:TypeId}{ks}(hf:flat P d t=some ks):∃ds,P.underlying t=some ds/\(jO ds=false->ks.length=1):=by
 cases d with
 |zero=>simp[flat]at hf
 |succ d=>
  unfold flat at hf;split at hf
  ·exact GQ
  ·exact GQ
  ·exact GQ
  ·rename_i hu;exact⟨_,hu,λh=>by cases h⟩
  ·rename_i hu;exact⟨_,hu,λh=>by cases h⟩
  ·cases hf
def qe{t:TypeId}{fs}(hu:P.underlying t=some (.struct fs)):P.fieldsOf t=fs:=by simp[Program.fieldsOf,hu]
def BH:∀(d:Nat) (t:TypeId) (ks:List CK),flat P d t=some ks->∀(D:Nat),d<=D->∀(ds:TypeDesc),P.underlying t=some ds->
  ∀(xs ys:List AV) (vx vy:List Value) (b:Bool),xs.length=ks.length->ys.length=ks.length->cK m xs vx->cK m ys vy->c6 ks xs ys=some b->
  ∀w:World,(Op.equalIn D t (iV ds vx) (iV ds vy)).run P w=.ok b w:=by
 intro d
 induction d with
 |zero=>intro t ks hf;simp[flat]at hf
 |succ d ih=>
  intro t ks hf D hD ds Vb xs ys vx vy b UG UF hx hy he w;obtain⟨D,rfl⟩:∃D',D=D'+1:=⟨D-1,Om⟩;have hone:∀{k:CK},ks=[k]->jO ds=false->(match k with|.b=>P.underlying t=some .bool|.i=>∃k,P.underlying t=some (.int k)|.s=>P.underlying t=some .string)->(Op.equalIn (D+1) t (iV ds vx) (iV ds vy)).run P w=.ok b w:=by
   intro k hk hd ht;subst hk
   match xs,ys,UG,UF with
   |[x],[y],_,_=>
    obtain⟨cx,_,rfl,Xf,h2⟩:=aR.1 hx;obtain⟨cy,_,rfl,hcy,h3⟩:=aR.1 hy;rw[bE]at h2 h3;subst h2;subst h3;simp only[c6]at he;have SL:cT k x y=some b:=by
     cases hc:cT k x y with
     |none=>simp[hc]at he
     |some c=>cases c<;>simp[hc]at he<;>simp[he]
    simp only[iV,hd,List.headD_cons,ZS,Zi];exact qX ht Xf hcy SL D
  unfold flat at hf;split at hf
  ·exact JF
  ·rename_i hu;rw[hu]at Vb;cases Vb;cases hf;exact hone rfl rfl ⟨_,hu⟩
  ·exact JF
  ·rename_i fs hu;rw[hu]at Vb;cases Vb;split at hf
   case isFalse=>cases hf
   rename_i bV;simp only[iV,jO,Zk];rw[run_equalIn_struct w D t ⟨vx⟩ ⟨vy⟩ (by rw[qe hu];exact hu) bV,qe hu];have key:∀(fl:List Field) (off:Nat) (ks:List CK) (xs ys:List AV) (b:Bool),wm P (flat P d) fl off=some ks->xs.length=ks.length->ys.length=ks.length->
     cK m xs (vx.drop off)->cK m ys (vy.drop off)->c6 ks xs ys=some b->(Op.eqFields D ⟨vx⟩ ⟨vy⟩ fl).run P w=.ok b w:=by
    intro fl
    induction fl with
    |nil=>
     intro off ks xs ys b R7 UG UF hx hy he;simp only[wm,Zy]at R7;subst R7
     match xs,ys,UG,UF with
     |[],[],_,_=>cases he;rfl
    |cons f fl ihf=>
     intro off ks xs ys b R7 UG UF hx hy he;simp only[wm]at R7;split at R7
     case h_2=>cases R7
     rename_i k1 i hk1 hi;split at R7
     case isFalse=>cases R7
     rename_i RZ;obtain⟨hname,hoff,eJ,hpos⟩:=RZ;split at R7
     case h_2=>cases R7
     rename_i k2 RF;cases R7;subst hoff;obtain⟨ds',Us,h1'⟩:=tA hk1;have Sr:dV P f.type=some k1.length:=by simp[dV,hi,eJ]
     have Yz:xs=xs.take k1.length++xs.drop k1.length:=(aal _ _).symm;have Yy:ys=ys.take k1.length++ys.drop k1.length:=(aal _ _).symm;simp only[YT]at UG UF;rw[Yz,Yy]at he;obtain⟨c,hc1,YN⟩:=jq k1 k2 _ _ _ _ b (by simp;omega) (by simp;omega) he;have UN:f.offset+k1.length<=vx.length:=by have:=hx.length;simp at this;omega
     have hvy:f.offset+k1.length<=vy.length:=by have:=hy.length;simp at this;omega
     simp only[Op.eqFields,Zh hname,Zo,nM Us Sr (λh=>h1' h) UN,nM Us Sr (λh=>h1' h) hvy,Ze];rw[ih f.type k1 hk1 D Om ds' Us _ _ _ _ c (by simp;omega) (by simp;omega) (hx.take k1.length) (hy.take k1.length) hc1 w];rcases YN with⟨rfl,hr⟩|⟨rfl,rfl⟩
     ·simp only[Ze,Zw,ZS,Zi];exact ihf (f.offset+k1.length) k2 _ _ b RF (by simp;omega) (by simp;omega) (by have:=hx.drop k1.length;rwa [aat]at this) (by have:=hy.drop k1.length;rwa [aat]at this) hr
     ·simp
   exact key fs.toList 0 ks xs ys b hf UG UF (by simpa using hx) (by simpa using hy) he
  ·rename_i len e hu;rw[hu]at Vb;cases Vb;split at hf
   case h_2=>cases hf
   rename_i k1 i hk1 hi;split at hf
   case isFalse=>cases hf
   rename_i RZ;obtain⟨eJ,hpos⟩:=RZ;cases hf;obtain⟨ds',Us,h1'⟩:=tA hk1;have Sr:dV P e=some k1.length:=by simp[dV,hi,eJ]
   simp only[iV,jO,Zk];have key:∀(n j:Nat) (xs ys:List AV) (b:Bool),j+n=len->xs.length=(List.replicate n k1).flatten.length->ys.length=(List.replicate n k1).flatten.length->
     cK m xs (vx.drop (j*k1.length))->cK m ys (vy.drop (j*k1.length))->c6 (List.replicate n k1).flatten xs ys=some b->
     (forIn (m:=Sem) (List.range' j n) ((none,()):Option Bool×Unit) λ(i:Nat) (_:Option Bool×Unit)=>do
      let a <-part e ⟨vx⟩ (i*k1.length)
      let c <-part e ⟨vy⟩ (i*k1.length)
      let r <-Op.equalIn D e a c
      if(!r)=true then pure (ForInStep.done (some false,()))else pure (ForInStep.yield (none,()))).run P w=.ok (if b then(none,())else(some false,())) w:=by
    intro n
    induction n with
    |zero=>
     intro j xs ys b _ UG UF _ _ he;simp only[abp,aaV,Y6]at UG UF he
     match xs,ys,UG,UF with
     |[],[],_,_=>cases he;rfl
    |succ n ihn=>
     intro j xs ys b hj UG UF hx hy he;simp only[aaw,Z1,YT]at UG UF he;have Yz:xs=xs.take k1.length++xs.drop k1.length:=(aal _ _).symm;have Yy:ys=ys.take k1.length++ys.drop k1.length:=(aal _ _).symm;rw[Yz,Yy]at he;obtain⟨c,hc1,YN⟩:=jq k1 _ _ _ _ _ b (by simp;omega) (by simp;omega) he;have UN:j*k1.length+k1.length<=vx.length:=by have:=hx.length;simp at this;omega
     have hvy:j*k1.length+k1.length<=vy.length:=by have:=hy.length;simp at this;omega
     simp only[List.range'_succ,List.forIn_cons,Zo,nM Us Sr (λh=>h1' h) UN,nM Us Sr (λh=>h1' h) hvy,Ze];rw[ih e k1 hk1 D Om ds' Us _ _ _ _ c (by simp;omega) (by simp;omega) (hx.take k1.length) (hy.take k1.length) hc1 w];rcases YN with⟨rfl,hr⟩|⟨rfl,rfl⟩
     ·simp only[Ze,Zw,ZS,Zi,ZF];exact ihn (j+1) _ _ b Om (by rw[abb];omega) (by rw[abb];omega) (by have:=hx.drop k1.length;rw[aat]at this;rwa [aaj]) (by have:=hy.drop k1.length;rw[aat]at this;rwa [aaj]) hr
     ·simp
   have hk:=key len 0 xs ys b Om UG UF (by simpa using hx) (by simpa using hy) he;simp only[Op.equalIn,Zo,Zm hu,Ze,b9 Sr,Std.Legacy.Range.forIn_eq_forIn_range',Std.Legacy.Range.size];simp only[Nat.sub_zero,Nat.add_one_sub_one,Nat.div_one];rw[hk];cases b<;>rfl
  ·cases hf
end
def oX(m:bZ)(ρ:cV->AV):Option cV->Option Value->Prop
 |none,none=>True
 |some x,some cx=>VR m (ρ x) cx
 |_,_=>False
section
variable {P:Program}{m:bZ}{h h':ah}{w:World}{ρ:cV->AV}{v:AV}
def fB{t e:TypeId}{i:TypeInfo}(hs:dY P t=some (e,i)):P.underlying t=some (.slice e)/\P.info? e=some i:=by
 unfold dY at hs;split at hs
 ·rename_i e' hu;cases hi:P.info? e' with
  |none=>simp[hi]at hs
  |some i'=>simp[hi]at hs;obtain⟨rfl,rfl⟩:=hs;exact⟨hu,hi⟩
 ·cases hs
def jw(n:Nat)(z:List AV):(dO n z).length=n*z.length:=by simp[dO]
def sL{z:List AV}{cz:Array Value}(hz:cK m z cz.toList)(hpos:0<z.length)(n k:Nat)(hk:k<=n):
  cK m (dO k z) (((Array.range (n*cz.size)).map (cz[·% cz.size]!)).toList.take (k*z.length)):=by
 have eJ:cz.size=z.length:=by have:=hz.length;simpa using this
 refine cK.gU ?_ ?_
 ·rw[jw];simp[eJ,aaQ hk]
 ·intro i x hx;have hi:i<k*z.length:=by have:=(YU.1 hx).1;rw[jw]at this;exact this
  have hmod:i%z.length<z.length:=Nat.mod_lt _ hpos;have RM:(dO k z)[i]? =z[i%z.length]? :=by
   clear hx hk;unfold dO
   induction k generalizing i with
   |zero=>omega
   |succ k ih=>
    rw[aaw,Z1];by_cases hlt:i<z.length
    ·rw[YY hlt,Nat.mod_eq_of_lt hlt]
    ·rw[Zd Om,ih (i-z.length) (by rw[aaj]at hi;omega) (Nat.mod_lt _ hpos)];congr 1;rw[<-Nat.mod_eq_sub_mod Om]
  rw[RM]at hx;obtain⟨y,hy,hr⟩:=hz.get hx;refine⟨y,?_,hr⟩;have hin:i<n*z.length:=ZW hi (Z7 _ hk);rw[aa0 hi,aap,Array.getElem?_map,Array.getElem?_range,eJ,Zh hin];simp only[aaS,Zy];rw[getElem!_pos cz _ Om];have:=(YU.1 hy).2
  simpa using this
def A0{z}(hz:z.all AV.one=true)(n:Nat):(dO n z).all AV.one=true:=by
 rw[ZC]at hz ⊢;intro x hx;simp only[dO,List.mem_flatten,List.mem_replicate]at hx;obtain⟨l,⟨_,rfl⟩,hx⟩:=hx;exact hz x hx
def Hc{t e:TypeId}{i:TypeInfo}{z:AV}{l c:cV}{cl cc:Value}(hs:dY P t=some (e,i))(hz:jy P e=some z)(hpos:0<i.size)(hzl:z.cells.length=i.size)(h1:z.cells.all AV.one=true)
  (hr:HR P m h w) (hl:VR m (ρ l) cl) (hc:VR m (ρ c) cc) (hf:dw (.vI i.size i.bytes z.cells l c) ρ h=some (v,h')):
  ∃cv w' m',(Instr.makeSlice t cl cc).run P w=.ok cv w'/\VR m' v cv/\HR P m' h' w'/\Grow m h w m' h' w':=by
 obtain⟨hu,hi⟩:=fB hs;simp only[dw]at hf;split at hf
 case h_2=>cases hf
 rename_i kl l' kc c' hρl hρc;rw[hρl,VR]at hl;rw[hρc,VR]at hc;subst hl;subst hc;split at hf
 case isFalse=>cases hf
 rename_i RZ;obtain⟨h0,hlc,hb,hc63⟩:=RZ;cases hf;obtain⟨cz,Uu,U5⟩:=jS hz w m;have hzc:=U5.cells;obtain⟨n,rfl⟩:=Int.eq_ofNat_of_zero_le (Int.le_trans h0 hlc);obtain⟨k,rfl⟩:=Int.eq_ofNat_of_zero_le h0;have hkn:k<=n:=Om
 have hwl:IntKind.i64.wrap (k:Int)=k:=wrap64 Om Om;have hwc:IntKind.i64.wrap (n:Int)=n:=wrap64 Om Om;have eJ:cz.cells.size=z.cells.length:=by have:=hzc.length;simpa using this
 let row:Array Value:=(Array.range (n*cz.cells.size)).map (cz.cells[·% cz.cells.size]!)
 have hrow:cK m (dO k z.cells) (row.toList.take (k*z.cells.length)):=sL hzc Om n k hkn;have hrs:row.size=n*i.size:=by simp[row,eJ,hzl]
 let e':sK:=⟨w.heap.size,0,row.size,true⟩
 have XM:=ki hr (.cells row e) (.cells (dO k z.cells) true true) e' rfl rfl (λm' hm=>by
  refine⟨row,e,(0,0),World.alloc_heap_new w _,⟨?_,?_,rfl⟩,?_,λ_=>⟨rfl,λi _=>by simp⟩,λ_=>⟨rfl,λx=>by cases x⟩⟩
  ·exact J2
  ·exact J2
  ·intro j x hx;obtain⟨y,hy,RG⟩:=hrow.get hx;have hj:j<k*z.cells.length:=by have:=(YU.1 hx).1;rw[jw]at this;exact this
   rw[aa0 hj]at hy;refine⟨ZC.1 (A0 h1 k) x (ZV hx),y,?_,VR.mono hm _ _ RG⟩;show row[0+j]? =some y;rw[ZN,<-aap];exact hy)
 refine⟨.slice (some ⟨w.heap.size,0,none⟩) k n,w.alloc (.cells row e),m.add h.length e',?_,⟨e',⟨w.heap.size,0,none⟩,n,by simp[bZ.add],rfl,hkn,λ_=>rfl,?_⟩,XM.1,XM.2⟩
 ·have RW:(sizeOf e).run P w=.ok i.size w:=b9 (by simp[dV,hi]) w;have T0:¬((i.bytes:Int)*n > 2^48):=Om
  have VJ:(typeInfo e).run P w=.ok i w:=by simp[typeInfo,hi]
  have Wj:¬((n:Int)<0):=Om
  have hk0:¬((k:Int)<0):=Om
  have hkn':¬((k:Int)> (n:Int)):=Om
  simp only[Instr.makeSlice,Zo,Zm hu,Ze,asInt,asIntOf,ZF,VJ,hwl,hwc,Wj,hk0,hkn',T0];simp only[Zx,Bool.or_self,ZS,Zi,run_askRoom,Ze,RW,Int.toNat_natCast,Zo,Sem.run_ite,ZF,Uu];by_cases Yi:n*i.size=0
  ·simp only[Yi,Zk,Ze,newRow,run_newObj,Zo,ZF];have:row=#[]:=by apply Array.eq_empty_of_size_eq_zero;omega
   have e0:(Array.range 0).map (λx=>(#[] :Array Value)[x%(#[] :Array Value).size]!)=#[]:=Si
   rw[this,e0];rfl
  ·simp only[Yi,Zi,Ze,newRow,run_newObj,Zo,ZF];have:row=(Array.range (n*i.size)).map (cz.cells[·% cz.cells.size]!):=by show(Array.range (n*cz.cells.size)).map _=_;rw[eJ,hzl]
   rw[this];rfl
 ·show 0+0+n*i.size<=row.size;omega
def mi{lo hi}{n l u:Nat}(hb:iZ lo hi n=some (l,u)):l<=u/\u<=n/\HH lo=some (l:Int)/\Gc n hi=some (u:Int):=by
 unfold iZ at hb;split at hb
 case h_2=>cases hb
 rename_i a b ha hb';split at hb
 case isFalse=>cases hb
 rename_i hc;obtain⟨h0,h1,h2⟩:=hc;simp only[Zy,abh]at hb;obtain⟨rfl,rfl⟩:=hb;exact⟨Om,Om,by rw[ha];congr 1;omega,by rw[hb'];congr 1;omega⟩
def fT{lo hi U0 UB}(hlo:oX m ρ lo U0)
  (hhi:oX m ρ hi UB) {n l u}(hb:iZ (lo.map ρ) (hi.map ρ) n=some (l,u)) (isSlice:Bool) (cap:Nat) (hcap:n<=cap):
  (Instr.sliceBounds isSlice n cap U0 UB none).run P w=.ok (l,u,cap) w:=by
 obtain⟨SK,hun,h1,h2⟩:=mi hb;have hh:∀(x:cV) (cx:Value),VR m (ρ x) cx->Gc n (some (ρ x))=some (u:Int)->∃k,cx=.int k u:=by
  intro x cx hx hu;cases hρ:ρ x<;>simp[Gc,hρ]at hu;subst hu;rw[hρ,VR]at hx;exact⟨_,hx⟩
 have hl:∀(x:cV) (cx:Value),VR m (ρ x) cx->HH (some (ρ x))=some (l:Int)->∃k,cx=.int k l:=by
  intro x cx hx hu;cases hρ:ρ x<;>simp[HH,hρ]at hu;subst hu;rw[hρ,VR]at hx;exact⟨_,hx⟩
 have hcu:(u:Int)<=cap:=Om
 have hlu':(l:Int)<=u:=Om
 have hbu:∀(k:IntKind) (code:BoundsCode) (w:World),(Instr.sliceBound (.int k u) cap code).run P w=.ok u w:=by
  intro k code w;simp[Instr.sliceBound,asIntOf,hcu]<;>omega
 have hbl:∀(k:IntKind) (code:BoundsCode) (w:World),(Instr.sliceBound (.int k l) u code).run P w=.ok l w:=by
  intro k code w;simp[Instr.sliceBound,asIntOf]<;>omega
 cases lo with
 |none=>
  cases U0 with
  |some _=>exact hlo.elim
  |none=>
   simp only[abg,HH,Zy]at h1;cases hi with
   |none=>
    cases UB with
    |some _=>exact hhi.elim
    |none=>
     simp only[abg,Gc,Zy]at h2;have hn:u=n:=Om
     have Xa:l=0:=Om
     subst hn;subst Xa;simp[Instr.sliceBounds]
   |some y=>
    cases UB with
    |none=>exact hhi.elim
    |some cy=>
     obtain⟨k,rfl⟩:=hh y cy hhi h2;have Xa:l=0:=Om
     subst Xa;simp[Instr.sliceBounds,hbu]
 |some x=>
  cases U0 with
  |none=>exact hlo.elim
  |some cx=>
   obtain⟨kx,rfl⟩:=hl x cx hlo h1;cases hi with
   |none=>
    cases UB with
    |some _=>exact hhi.elim
    |none=>
     simp only[abg,Gc,Zy]at h2;have hn:u=n:=Om
     subst hn;simp[Instr.sliceBounds,hbl]
   |some y=>
    cases UB with
    |none=>exact hhi.elim
    |some cy=>
     obtain⟨k,rfl⟩:=hh y cy hhi h2;simp[Instr.sliceBounds,hbu,hbl]
def extract_mk(s:By)(l u:Nat):(⟨⟨s⟩⟩:ByteArray).extract l u=⟨⟨(s.drop l).take (u-l)⟩⟩:=by
 apply ByteArray.ext
 simp[ByteArray.data_extract,List.extract_eq_take_drop]
def NC{t:TypeId}{es x lo hi cx U0 UB}{e:TypeId}(hu:P.underlying t=some (.slice e))(hes:dV P e=some es)
  (hx:VR m (ρ x) cx) (hlo:oX m ρ lo U0)
  (hhi:oX m ρ hi UB) (hf:dw (.sl es x lo hi) ρ h=some (v,h')):
  ∃cv,(Instr.sliceAt t cx U0 UB none).run P w=.ok cv w/\VR m v cv/\h' =h:=by
 simp only[dw]at hf;split at hf
 ·rename_i b o n es' hρ;rw[hρ]at hx;obtain⟨en,ca,cap,Sk,rfl,R4,Sm,hroom⟩:=hx;split at hf
  case isFalse=>cases hf
  rename_i hees;subst hees;split at hf
  case h_2=>cases hf
  rename_i l u hb;cases hf;obtain⟨SK,hun,_,_⟩:=mi hb;refine⟨.slice (some (if cap=l then ca else ca.add (l*es'))) (u-l) (cap-l),?_,⟨en,_,cap-l,Sk,rfl,Om,?_,?_⟩,rfl⟩
  ·simp only[Instr.sliceAt,Zo,Zm hu,Ze,Instr.slice,fT hlo hhi hb true cap R4,b9 hes,ZF];by_cases hcl:cap=l<;>simp[hcl]
  ·intro hpos;rw[Za Om,Sm Om,gI];simp only[Addr.mk.injEq,abz,and_true];omega
  ·have:cap=l+(cap-l):=Om
   rw[this,abf]at hroom;omega
 ·rename_i hρ;rw[hρ,VR]at hx;subst hx;split at hf
  case h_2=>cases hf
  rename_i p hb;obtain⟨l,u⟩:=p;cases hf;obtain⟨SK,hun,_,_⟩:=mi hb;have Xa:l=0:=Om
  have UE:u=0:=Om
  subst Xa;subst UE;refine⟨.slice none 0 0,?_,rfl,rfl⟩;simp only[Instr.sliceAt,Zo,Zm hu,Ze,Instr.slice,fT hlo hhi hb true 0 (Zc _),b9 hes,ZF];simp
 ·cases hf
def KA{t:TypeId}{x lo hi cx U0 UB}(hu:P.underlying t=some .string)
  (hx:VR m (ρ x) cx) (hlo:oX m ρ lo U0)
  (hhi:oX m ρ hi UB) (hf:dw (.Jd x lo hi) ρ h=some (v,h')):
  ∃cv,(Instr.sliceAt t cx U0 UB none).run P w=.ok cv w/\VR m v cv/\h' =h:=by
 simp only[dw]at hf;split at hf
 case h_2=>cases hf
 rename_i s hρ;rw[hρ,VR]at hx;subst hx;split at hf
 case h_2=>cases hf
 rename_i l u hb;cases hf;refine⟨.string ((⟨⟨s⟩⟩:ByteArray).extract l u),?_,by rw[extract_mk];rfl,rfl⟩;have hs:(⟨⟨s⟩⟩:ByteArray).size=s.length:=rfl;simp only[Instr.sliceAt,Zo,Zm hu,Ze,Instr.slice];simp[hs,fT hlo hhi hb false s.length (Zc _)]
def KB{t:TypeId}{k es x lo hi cx U0 UB}{e:TypeId}(hu:P.underlying t=some (.array k e))(hes:dV P e=some es)(hr:HR P m h w)
  (hx:VR m (ρ x) cx) (hlo:oX m ρ lo U0)
  (hhi:oX m ρ hi UB) (hf:dw (.MO k es x lo hi) ρ h=some (v,h')):
  ∃cv,(Instr.sliceAt t cx U0 UB none).run P w=.ok cv w/\VR m v cv/\h' =h:=by
 simp only[dw]at hf;split at hf
 case h_2=>cases hf
 rename_i b o hρ;rw[hρ]at hx;obtain⟨en,Sk,rfl⟩:=hx;split at hf
 case h_2=>cases hf
 rename_i c mu tl hbk;split at hf
 case isFalse=>cases hf
 rename_i hle;split at hf
 case h_2=>cases hf
 rename_i l u hb;cases hf;obtain⟨SK,hun,_,_⟩:=mi hb;obtain⟨_,_,_,_,⟨_,eJ⟩,_⟩:=hr.dR b en _ Sk hbk;refine⟨.slice (some (if k=l then⟨en.cb,o+en.d,none⟩else(⟨en.cb,o+en.d,none⟩:Addr).add (l*es))) (u-l) (k-l),?_,⟨en,_,k-l,Sk,rfl,Om,?_,?_⟩,rfl⟩
 ·simp only[Instr.sliceAt,Zo,Zm hu,Ze,Instr.sureAddr,ZF,fT hlo hhi hb false k (Zc _),b9 hes]
 ·intro hpos;rw[Za Om,gI];simp only[Addr.mk.injEq,abz,and_true];omega
 ·have:k=l+(k-l):=Om
  rw[this,abf]at hle;omega
def qW{a f n}(hn:dV P f.type=some n)(hpos:0<n):(fieldPlace a f).run P w=.ok (a.add f.offset) w:=by
 have:n≠0:=Om
 simp[fieldPlace,b9 hn,this]
def Hg{t:TypeId}{i n f x cx}(hfa:fieldAt P t i=some f)(hn:dV P f.type=some n)(hpos:0<n)(hx:VR m (ρ x) cx)(hf:dw (.aX f.offset x) ρ h=some (v,h')):
  ∃cv,(Instr.fieldAt t cx i).run P w=.ok cv w/\VR m v cv/\h' =h:=by
 unfold Abs.fieldAt at hfa;split at hfa
 case h_2=>cases hfa
 rename_i fs hu;simp only[dw]at hf;split at hf
 case h_2=>cases hf
 rename_i b o hρ;cases hf;rw[hρ]at hx;obtain⟨e,he,rfl⟩:=hx;refine⟨_,?_,⟨e,he,rfl⟩,rfl⟩;simp only[Instr.fieldAt,Zo,Zm hu,Ze,hfa,Instr.sureAddr,ZF,qW hn hpos,gI];rw[Nat.add_right_comm]
def He{t e:TypeId}{es x i cx ci}(hu:P.underlying t=some (.slice e))(hes:dV P e=some es)(hx:VR m (ρ x) cx)(hi:VR m (ρ i) ci)(hf:dw (.bw es x i) ρ h=some (v,h')):
  ∃cv,(Instr.indexAt t cx ci).run P w=.ok cv w/\VR m v cv/\h' =h:=by
 simp only[dw]at hf;split at hf
 case h_2=>cases hf
 rename_i b o n es' k j SC Ui;rw[SC]at hx;rw[Ui,VR]at hi;subst hi;obtain⟨en,ca,cap,Sk,rfl,R4,Sm,hroom⟩:=hx;split at hf
 case isFalse=>cases hf
 rename_i hc;obtain⟨rfl,h0,h1⟩:=hc;cases hf;refine⟨_,?_,⟨en,Sk,rfl⟩,rfl⟩;simp only[Instr.indexAt,asIntOf,Zo,ZF,Ze,Zm hu];rw[Zh ⟨h0,h1⟩];simp only[Zo,b9 hes,Ze,ZF,Sm Om,gI];rw[Nat.add_right_comm]
def Hf{t e:TypeId}{len es x i cx ci}(hu:P.underlying t=some (.array len e))(hes:dV P e=some es)(hx:VR m (ρ x) cx)(hi:VR m (ρ i) ci)(hf:dw (.sj len es x i) ρ h=some (v,h')):
  ∃cv,(Instr.indexAt t cx ci).run P w=.ok cv w/\VR m v cv/\h' =h:=by
 simp only[dw]at hf;split at hf
 case h_2=>cases hf
 rename_i b o k j SC Ui;rw[SC]at hx;rw[Ui,VR]at hi;subst hi;obtain⟨en,Sk,rfl⟩:=hx;split at hf
 case isFalse=>cases hf
 rename_i hc;obtain⟨h0,h1⟩:=hc;cases hf;refine⟨_,?_,⟨en,Sk,rfl⟩,rfl⟩;simp only[Instr.indexAt,asIntOf,Zo,ZF,Ze,Zm hu,Instr.sureAddr];rw[Zh ⟨h0,h1⟩];simp only[Zo,b9 hes,Ze,ZF,gI];rw[Nat.add_right_comm]
def DF{t:TypeId}{i f n x cx}(hfa:fieldAt P t i=some f)(hn:AR P f.type=some n)(hx:VR m (ρ x) cx)(hf:dw (.part n f.offset x) ρ h=some (v,h')):
  ∃cv,(Instr.field t cx i).run P w=.ok cv w/\VR m v cv/\h' =h:=by
 unfold Abs.fieldAt at hfa;split at hfa
 case h_2=>cases hfa
 rename_i fs hu;simp only[dw]at hf;split at hf
 case h_2=>cases hf
 rename_i cs hρ;rw[hρ]at hx;obtain⟨l',rfl,hl⟩:=hx;obtain⟨cv,h1,h2,h3⟩:=BE (w:=w) hn hl (by cases n<;>exact hf);exact⟨cv,by simp only[Instr.field,Zo,Zm hu,Ze,hfa,asAgg,ZF,h1],h2,h3⟩
def KD{t e:TypeId}{len es n x i cx ci}(hu:P.underlying t=some (.array len e))(hes:dV P e=some es)(hn:AR P e=some n)(hx:VR m (ρ x) cx)(hi:VR m (ρ i) ci)
  (hf:dw (.Jf len es n x i) ρ h=some (v,h')):∃cv,(Instr.index t cx ci).run P w=.ok cv w/\VR m v cv/\h' =h:=by
 simp only[dw]at hf;split at hf
 case h_2=>cases hf
 rename_i cs k j SC Ui;rw[SC]at hx;rw[Ui,VR]at hi;subst hi;obtain⟨l',rfl,hl⟩:=hx;split at hf
 case isFalse=>cases hf
 rename_i hc;obtain⟨cv,h1,h2,h3⟩:=BE (w:=w) (off:=j.toNat*es) hn hl (by cases n<;>exact hf);refine⟨cv,?_,h2,h3⟩;simp only[Instr.index,asIntOf,Zo,ZF,Ze,Zm hu];rw[Zh hc];simp only[Zo,b9 hes,Ze,h1]
def KC{t:TypeId}{x i cx ci}(hu:P.underlying t=some .string)(hx:VR m (ρ x) cx)(hi:VR m (ρ i) ci)
  (hf:dw (.Dh x i) ρ h=some (v,h')):∃cv,(Instr.index t cx ci).run P w=.ok cv w/\VR m v cv/\h' =h:=by
 simp only[dw]at hf;split at hf
 case h_2=>cases hf
 rename_i s k j SC Ui;rw[SC,VR]at hx;rw[Ui,VR]at hi;subst hi;subst hx;split at hf
 case isFalse=>cases hf
 rename_i h0;split at hf
 case h_2=>cases hf
 rename_i b hb;cases hf;refine⟨.int .u8 b.toNat,?_,rfl,rfl⟩;have hb':(⟨⟨s⟩⟩:ByteArray)[j.toNat]? =some b:=by
  show(if h:j.toNat<s.length then some (s[j.toNat])else none)=some b;obtain⟨hlt,he⟩:=YU.1 hb;rw[dif_pos hlt,he]
 simp only[Instr.index,asIntOf,Zo,ZF,Ze,Zm hu,Zh h0,hb']
end
def ak.isObj:ak->Bool
 |.bj _=>true
 |.iter _ _=>true
 |.loop _ _ _ _ _ _=>true
 |_=>false
section
variable {P:Program}{m:bZ}{h h':ah}{w:World}{ρ:cV->AV}{v:AV}
def jW(hr:HR P m h w){b e k k' o}(he:m b=some e)(hb:h[b]? =some k)(hk:k.isObj=true)(hk':k'.isObj=true\/k' =.dead)
  (hnew:BR P m (w.putObj e.cb o) e k'):HR P m (h.set b k') (w.putObj e.cb o)/\Grow m h w m (h.set b k') (w.putObj e.cb o):=by
 have hbl:b<h.length:=hr.cL _ _ he;have VF:k.live=true:=by cases k<;>first|rfl|cases hk
 have hown:e.own=true:=by
  have:=hr.dR b e k he hb;cases k<;>first|exact this.1|(cases hk;done)
 have hother:∀i,i≠e.cb->(w.putObj e.cb o).heap[i]? =w.heap[i]? :=λi hi=>World.putObj_heap_other hi
 have hsep:∀b' e' k2,b'≠b->m b' =some e'->h[b']? =some k2->k2.live=true->e'.cb≠e.cb:=by
  intro b' e' k2 hne SL RF hl hcb;have:=hr.sep b' b e' e k2 k hne SL he RF hb hcb;cases k<;>cases k2<;>first|exact this|(cases hk;done)|(cases hl;done)
 refine⟨⟨?_,?_,?_,hr.ga,λb' e' hb'=>by simpa using hr.lt b' e' hb'⟩,⟨λ_ _=>rfl,Si,?_,?_,Si,rfl,rfl,rfl,?_⟩⟩
 ·intro b' e' hb';simpa using hr.cL b' e' hb'
 ·intro b' e' k2 SL RF;rw[bI h b b' _ hbl]at RF;by_cases hbb:b' =b
  ·subst hbb;rw[Zh rfl]at RF;cases RF;rw[he]at SL;cases SL;exact hnew
  ·rw[Za hbb]at RF;have h0:=hr.dR b' e' k2 SL RF;by_cases hl:k2.live=true
   ·exact h0.heap (hother _ (hsep b' e' k2 hbb SL RF hl))
   ·exact GO
 ·intro b1 b2 e1 e2 k1 k2 hne Td RO hk1 RF hcb;rw[bI h b _ _ hbl]at hk1 RF;by_cases Sb:b1=b
  ·subst Sb;rw[Zh rfl]at hk1;cases hk1;rw[Za (λx=>hne x.symm)]at RF;rw[he]at Td;cases Td;by_cases hl:k2.live=true
   ·exact absurd hcb.symm (hsep b2 e2 k2 (λx=>hne x.symm) RO RF hl)
   ·cases k2<;>first|(cases k'<;>trivial)|exact absurd rfl hl
  ·rw[Za Sb]at hk1;by_cases Sl:b2=b
   ·subst Sl;rw[Zh rfl]at RF;cases RF;rw[he]at RO;cases RO;by_cases hl:k1.live=true
    ·exact absurd hcb (hsep b1 e1 k1 hne Td hk1 hl)
    ·cases k1<;>first|trivial|exact absurd rfl hl
   ·exact z70
 ·intro b' e' hb' SL;exact absurd (hr.cL _ _ SL) Om
 ·intro b' hb' ht;unfold eM at ht ⊢;rw[bI h b b' _ hbl]at ht;by_cases hbb:b' =b
  ·subst hbb;rw[Zh rfl]at ht;rcases hk' with hk'|hk'
   ·cases k'<;>first|(cases hk';done)|(cases ht;done)
   ·subst hk';cases ht
  ·exact Dl
 ·intro i hi hno;exact hother i (λhcb=>hno b e he hown hcb.symm)
def kv{r o}(ho:w.heap[r]? =some o)(hc:o.isCells=false):(getObj r).run P w=.ok o w:=by
 cases o<;>first|(cases hc;done)|simp[getObj,Sem.run,ho]
def mX{r o o'}(ho:w.heap[r]? =some o)(hc:o.isCells=false):(setObj r o').run P w=.ok () (w.putObj r o'):=by
 cases o<;>first|(cases hc;done)|simp[setObj,Sem.run,ho,World.putObj]
def G9{t:TypeId}{x cx}(hu:P.underlying t=some .string)(hr:HR P m h w)(hx:VR m (ρ x) cx)(hf:dw (.BI x) ρ h=some (v,h')):
  ∃cv w' m',(Instr.range t cx).run P w=.ok cv w'/\VR m' v cv/\HR P m' h' w'/\Grow m h w m' h' w':=by
 simp only[dw]at hf;split at hf
 case h_2=>cases hf
 rename_i s hρ;rw[hρ,VR]at hx;subst hx;cases hf;have XM:=ki hr (.stringIter ⟨⟨s⟩⟩ 0) (.iter s 0) ⟨w.heap.size,0,0,true⟩ rfl rfl (λm' _=>⟨rfl,rfl,World.alloc_heap_new w _⟩);exact⟨.pointer (some ⟨w.heap.size,0,none⟩),_,_,by simp[Instr.range,Zm hu],⟨⟨w.heap.size,0,0,true⟩,by simp[bZ.add],rfl⟩,XM.1,XM.2⟩
def DG{t:TypeId}{x cx}(hr:HR P m h w)(hx:VR m (ρ x) cx)(hf:dw (.rk x) ρ h=some (v,h')):
  ∃cv w' m',(Instr.next cx true t).run P w=.ok cv w'/\VR m' v cv/\HR P m' h' w'/\Grow m h w m' h' w':=by
 simp only[dw]at hf;split at hf
 case h_2=>cases hf
 rename_i b hρ;rw[hρ]at hx;obtain⟨e,he,rfl⟩:=hx;split at hf
 case h_2=>cases hf
 rename_i s pos hb;obtain⟨hown,hd0,hheap⟩:=hr.dR b e _ he hb;have hg:=kv (P:=P) hheap rfl;have eJ:(⟨⟨s⟩⟩:ByteArray).size=s.length:=rfl;split at hf
 ·rename_i hlt;cases hf;have hbl:e.cb<w.heap.size:=(Zl.1 hheap).1;obtain⟨h1,h2⟩:=jW hr he hb rfl (k':=.iter s (pos+(Utf8.decode ⟨⟨s⟩⟩ pos).2)) (o:=.stringIter ⟨⟨s⟩⟩ (pos+(Utf8.decode ⟨⟨s⟩⟩ pos).2)) (.inl rfl) ⟨hown,hd0,World.putObj_heap_same hbl⟩;refine⟨.tuple #[.bool true,goInt pos,.int .i32 (Utf8.decode ⟨⟨s⟩⟩ pos).1],_,m,?_,⟨_,rfl,?_⟩,h1,h2⟩
  ·simp[Instr.next,hd0,hg,eJ,hlt,mX hheap rfl]
  ·exact⟨_,_,rfl,rfl,_,_,rfl,rfl,_,_,rfl,rfl,rfl⟩
 ·rename_i hlt;cases hf;refine⟨.tuple #[.bool false],w,m,?_,⟨_,rfl,_,_,rfl,rfl,rfl⟩,hr,Grow.refl m h w hr.cL⟩;simp[Instr.next,hd0,hg,eJ,hlt]
def zV(kk:CK)(d:TypeDesc):Prop:=
 match kk with
 |.b=>d=.bool
 |.i=>∃i,d=.int i
 |.s=>d=.string
def tt{t:TypeId}{kk}(hk:xY P t=some kk):∃d,P.underlying t=some d/\zV kk d:=by
 unfold xY at hk;split at hk
 ·rename_i k hu;cases hk;exact⟨_,hu,k,rfl⟩
 ·rename_i hu;cases hk;exact⟨_,hu,rfl⟩
 ·rename_i hu;cases hk;exact⟨_,hu,rfl⟩
 ·cases hk
def yY{kk}{d:TypeDesc}(hd:zV kk d){k k' ck ck' b}(hk:VR m k ck)(hk':VR m k' ck')(he:cT kk k k' =some b):
  Instr.sameNow d ck ck' =some b:=by
 unfold cT at he;split at he
 ·rw[VR]at hk hk';subst hk;subst hk';cases hd;cases he;rfl
 ·split at he
  ·rename_i hkk;rw[VR]at hk hk';subst hk;subst hk';subst hkk;obtain⟨i,rfl⟩:=hd;cases he;simp[Instr.sameNow]
  ·cases he
 ·rw[VR]at hk hk';subst hk;subst hk';cases hd;cases he;simp[Instr.sameNow,toList_mk,beq_toListBytes]
 ·cases he
def mD(m:bZ):List (AV×AV)->List MapEntry->Prop
 |[],l=>l=[]
 |p::r,l=>∃q s,l=q::s/\VR m p.1 q.key/\VR m p.2 q.val/\mD m r s
theorem mD.gU:∀{es}{l},l.length=es.length->(∀(i:Nat) (p:AV×AV),es[i]? =some p->∃q,l[i]? =some q/\VR m p.1 q.key/\VR m p.2 q.val)->mD m es l
 |[],l,hl,_=>Z4.1 (by simpa using hl)
 |p::r,[],hl,_=>by simp at hl
 |p::r,q::s,hl,h=>by
  obtain⟨q',hq,h1,h2⟩:=h 0 p Si;simp at hq;subst hq;exact⟨q,s,rfl,h1,h2,mD.gU (by simpa using hl) λi p hp=>by simpa using h (i+1) p (by simpa using hp)⟩
theorem mD.get:∀{es}{l},mD m es l->l.length=es.length/\∀(i:Nat) (p:AV×AV),es[i]? =some p->∃q,l[i]? =some q/\VR m p.1 q.key/\VR m p.2 q.val
 |[],l,h=>by cases h;exact⟨rfl,λi p hp=>by simp at hp⟩
 |p::r,l,h=>by
  obtain⟨q,s,rfl,h1,h2,h3⟩:=h;obtain⟨hl,hg⟩:=mD.get h3;refine⟨by simp[hl],λi p' hp=>?_⟩;cases i with
  |zero=>simp at hp;subst hp;exact⟨q,Si,h1,h2⟩
  |succ i=>simpa using hg i p' (by simpa using hp)
theorem rE{kk}{d:TypeDesc}(hd:zV kk d){k ck}(hk:VR m k ck):∀{es}{l}{r}(i:Nat),mD m es l->jo kk k es=some r->
  ∃cr,Instr.findNow d ck l i=some cr/\(match r,cr with|none,none=>True|some v,some (_,cv)=>VR m v cv|_,_=>False)
 |[],l,r,i,h,hf=>by cases h;cases hf;exact⟨none,rfl,trivial⟩
 |(a,v)::es,l,r,i,h,hf=>by
  obtain⟨q,s,rfl,h1,h2,h3⟩:=h;simp only[jo]at hf;cases he:cT kk k a with
  |none=>simp[he]at hf
  |some b=>
   have hs:=yY hd hk h1 he;cases b with
   |true=>
    simp[he]at hf;subst hf;exact⟨some (i,q.val),by simp[Instr.findNow,hs],h2⟩
   |false=>
    simp only[he]at hf;obtain⟨cr,hcr,hm⟩:=rE hd hk (i+1) h3 hf;exact⟨cr,by simp[Instr.findNow,hs,hcr],hm⟩
def sd{t:TypeId}{d:TypeDesc}{kk}(hu:P.underlying t=some d)(hd:zV kk d)(b:Bool)(v:Value)(n:Nat):(Instr.checkKey b (n+1) t v).run P w=.ok () w:=by
 cases kk with
 |b=>cases hd;cases v<;>simp[Instr.checkKey,Zm hu]
 |i=>obtain⟨i,rfl⟩:=hd;cases v<;>simp[Instr.checkKey,Zm hu]
 |s=>cases hd;cases v<;>simp[Instr.checkKey,Zm hu]
def run_checkKey{t:TypeId}{d:TypeDesc}{kk}(hu:P.underlying t=some d)(hd:zV kk d)(b:Bool)(v:Value):(Instr.checkKey b 10000 t v).run P w=.ok () w:=sd hu hd b v 9999
def Hd{t kt e:TypeId}{kk z ok x k cx ck}(hu:P.underlying t=some (.map kt e))(hkk:xY P kt=some kk)(hz:jy P e=some z)(hr:HR P m h w)(hx:VR m (ρ x) cx)(hk:VR m (ρ k) ck)
  (hf:dw (.look kk z ok x k) ρ h=some (v,h')):∃cv,(Instr.lookup t cx ck ok).run P w=.ok cv w/\VR m v cv/\h' =h:=by
 obtain⟨d,hud,hd⟩:=tt hkk;obtain⟨cz,Uu,U5⟩:=jS hz w m;simp only[dw]at hf;split at hf
 ·rename_i hρ;rw[hρ,VR]at hx;subst hx;cases hf;refine⟨if ok then .tuple #[cz,.bool false]else cz,?_,?_,rfl⟩
  ·simp only[Instr.lookup,Zo,Zm hu,Ze,ZF,run_checkKey hud hd,Instr.findKey,Zm hud];simp[Instr.findNow,Uu]
  ·exact z167
 ·rename_i r hρ;rw[hρ]at hx;obtain⟨en,Sk,rfl⟩:=hx;split at hf
  case h_2=>cases hf
  rename_i es hb;obtain⟨_,TU,clock,hheap,hlen,RM⟩:=hr.dR r en _ Sk hb;have SY:mD m es TU.toList:=mD.gU (by simpa using hlen) (λi p hp=>by obtain⟨q,hq,h1,h2⟩:=RM i p hp;exact⟨q,by simpa using hq,h1,h2⟩);have hg:=kv (P:=P) hheap rfl;split at hf
  ·rename_i u T7;cases hf;obtain⟨cr,hcr,hm⟩:=rE hd hk 0 SY T7;cases cr with
   |none=>exact hm.elim
   |some p=>
    obtain⟨i,cu⟩:=p;refine⟨if ok then .tuple #[cu,.bool true]else cu,?_,?_,rfl⟩
    ·simp only[Instr.lookup,Zo,Zm hu,Ze,hg,ZF,run_checkKey hud hd,Instr.findKey,Zm hud,hcr]
    ·cases ok
     ·exact hm
     ·exact⟨_,rfl,_,_,rfl,hm,_,_,rfl,rfl,rfl⟩
  ·rename_i T7;cases hf;obtain⟨cr,hcr,hm⟩:=rE hd hk 0 SY T7;cases cr with
   |some p=>exact hm.elim
   |none=>
    refine⟨if ok then .tuple #[cz,.bool false]else cz,?_,?_,rfl⟩
    ·simp only[Instr.lookup,Zo,Zm hu,Ze,hg,ZF,run_checkKey hud hd,Instr.findKey,Zm hud,hcr,Uu]
    ·exact z167
  ·cases hf
 ·cases hf
theorem VR.sameBits{kk k k' ck ck'}(hk:VR m k ck)(hk':VR m k' ck')(he:cT kk k k' =some true)(n:Nat):Instr.sameBits n ck' ck=true:=by
 unfold cT at he;split at he
 ·rw[VR]at hk hk';subst hk;subst hk';simp at he;simp[Instr.sameBits,he]
 ·split at he
  ·rename_i hkk;rw[VR]at hk hk';subst hk;subst hk';subst hkk;simp at he;simp[Instr.sameBits,he]
  ·cases he
 ·rw[VR]at hk hk';subst hk;subst hk';simp at he;subst he;simp[Instr.sameBits,beq_toListBytes]
 ·cases he
theorem yB{kk}{d:TypeDesc}(hd:zV kk d){k x ck cx}(hk:VR m k ck)(hx:VR m x cx)(clock:Nat):∀{es es'}{l}(i:Nat),mD m es l->pg kk k x es=some es'->
  (∃j q,Instr.findNow d ck l i=some (some (i+j,q.val))/\l[j]? =some q/\Instr.sameBits 10000 q.key ck=true/\mD m es' (l.set j {q with key:=ck,val:=cx}))\/
  (Instr.findNow d ck l i=some none/\mD m es' (l++[{key:=ck,val:=cx,born:=clock}]))
 |[],es',l,i,h,hf=>by cases h;cases hf;exact .inr ⟨rfl,_,_,rfl,hk,hx,rfl⟩
 |(a,u)::es,es',l,i,h,hf=>by
  obtain⟨q,s,rfl,h1,h2,h3⟩:=h;simp only[pg]at hf;cases he:cT kk k a with
  |none=>simp[he]at hf
  |some b=>
   have hs:=yY hd hk h1 he;cases b with
   |true=>
    simp[he]at hf;subst hf;exact .inl ⟨0,q,by simp[Instr.findNow,hs],Si,VR.sameBits hk h1 he 10000,_,_,rfl,hk,hx,h3⟩
   |false=>
    simp only[he,Zq]at hf;obtain⟨es2,hes2,rfl⟩:=hf;rcases yB hd hk hx clock (i+1) h3 hes2 with⟨j,q',hj,XB,hb,hr⟩|⟨hj,hr⟩
    ·exact .inl ⟨j+1,q',by simp[Instr.findNow,hs,hj];omega,by simpa using XB,hb,_,_,rfl,h1,h2,hr⟩
    ·exact .inr ⟨by simp[Instr.findNow,hs,hj],_,_,rfl,h1,h2,hr⟩
def Ha{t kt e:TypeId}{kk x k u cx ck cu}(hu:P.underlying t=some (.map kt e))(hkk:xY P kt=some kk)(hr:HR P m h w)(hx:VR m (ρ x) cx)(hk:VR m (ρ k) ck)(hv:VR m (ρ u) cu)
  (hf:dw (.fO kk x k u) ρ h=some (v,h')):∃w',(Instr.mapUpdate t cx ck cu).run P w=.ok () w'/\v=ay/\HR P m h' w'/\Grow m h w m h' w':=by
 obtain⟨d,hud,hd⟩:=tt hkk;simp only[dw]at hf;split at hf
 case h_2=>cases hf
 rename_i r hρ;rw[hρ]at hx;obtain⟨en,Sk,rfl⟩:=hx;split at hf
 case h_2=>cases hf
 rename_i es hb;split at hf
 case h_2=>cases hf
 rename_i es' hupd;cases hf;obtain⟨hown,TU,clock,hheap,hlen,RM⟩:=hr.dR r en _ Sk hb;have SY:mD m es TU.toList:=mD.gU (by simpa using hlen) (λi p hp=>by obtain⟨q,hq,h1,h2⟩:=RM i p hp;exact⟨q,by simpa using hq,h1,h2⟩);have hg:=kv (P:=P) hheap rfl;have hbl:en.cb<w.heap.size:=(Zl.1 hheap).1;have done:∀(ces':Array MapEntry) (c:Nat),mD m es' ces'.toList->HR P m (h.set r (.bj es')) (w.putObj en.cb (.map ces' c))/\Grow m h w m (h.set r (.bj es')) (w.putObj en.cb (.map ces' c)):=by
  intro ces' c T8;obtain⟨RJ,R2⟩:=T8.get;exact jW hr Sk hb rfl (.inl rfl) ⟨hown,ces',c,World.putObj_heap_same hbl,by simpa using RJ,λi p hp=>by obtain⟨q,hq,h1,h2⟩:=R2 i p hp;exact⟨q,by simpa using hq,h1,h2⟩⟩
 rcases yB hd hk hv clock 0 SY hupd with⟨j,q,hj,hq,hbits,T8⟩|⟨hj,T8⟩
 ·have XB:TU[j]? =some q:=by simpa using hq
  obtain⟨h1,h2⟩:=done (TU.modify j λe=>{e with key:=ck,val:=cu}) clock (by
   have:(TU.modify j λe=>{e with key:=ck,val:=cu}).toList=TU.toList.set j {q with key:=ck,val:=cu}:=by
    apply abi
    intro i;rw[aap,Array.getElem?_modify,List.getElem?_set];by_cases hij:j=i
    ·subst hij;obtain⟨hlt,heq⟩:=Zl.1 XB;simp[XB,hlt,heq]
    ·simp[hij]
   rw[this];exact T8)
  refine⟨_,?_,rfl,h1,h2⟩;simp only[Instr.mapUpdate,Zo,Zm hu,Ze,hg,run_checkKey hud hd,Instr.findKey,Zm hud,hj,ZF,ZN,XB,aaS,aba,Instr.keyThatStays,hbits,Zk,mX hheap rfl]
 ·obtain⟨h1,h2⟩:=done (TU.push {key:=ck,val:=cu,born:=clock}) (clock+1) (by simpa using T8);refine⟨_,?_,rfl,h1,h2⟩;simp only[Instr.mapUpdate,Zo,Zm hu,Ze,hg,run_checkKey hud hd,Instr.findKey,Zm hud,hj,ZF,mX hheap rfl]
end
section
variable {P:Program}{m:bZ}{h h':ah}{w:World}{ρ:cV->AV}{v:AV}
theorem na(m:bZ):∀(s:By),cK m (s.map λb=>AV.int .u8 b.toNat) (s.map λb=>Value.int .u8 b.toNat)
 |[]=>bE.2 rfl
 |b::s=>aR.2 ⟨_,_,rfl,rfl,na m s⟩
def rp(s:By):(s.map λb=>AV.int .u8 b.toNat).all AV.one=true:=by
 rw[ZC];intro x hx;simp only[ZB]at hx;obtain⟨b,_,rfl⟩:=hx;rfl
def cM{es y cy ys k}(hr:HR P m h w)(hy:VR m y cy)(hc:cellsIn es h y=some (ys,k)):
  (Builtin.lenOf cy).run P w=.ok k w/\ys.length=k*es/\ys.all AV.one=true/\
   ∀n,n<=k->∃vs,(Builtin.firstCells es n cy).run P w=.ok ⟨vs⟩ w/\cK m (ys.take (n*es)) vs:=by
 unfold cellsIn at hc;split at hc
 ·rw[VR]at hy;subst hy;cases hc;exact⟨rfl,Si,rfl,λn hn=>⟨[],by simp[Builtin.firstCells],by simp[bE]⟩⟩
 ·rename_i b o n es';obtain⟨e,ca,cap,he,rfl,R4,Sm,hroom⟩:=hy;split at hc
  case isFalse=>cases hc
  rename_i hes;subst hes;split at hc
  case h_2=>cases hc
  rename_i c mu tl hb;split at hc
  case isFalse=>cases hc
  rename_i hle;cases hc;obtain⟨_,_,_,hone⟩:=nf hr he hb o (k*es') hle;refine⟨rfl,by simp;omega,hone,λn hn=>?_⟩;have hmul:n*es'<=k*es':=Z7 _ hn;by_cases h0:cap=0
  ·have hk0:k=0:=Om
   have Wj:n=0:=Om
   subst Wj;exact⟨[],by simp[Builtin.firstCells,loadCells,loadCellsFrom],by simp[bE]⟩
  ·rw[Sm Om];obtain⟨vs,RH,SE,_⟩:=nf hr he hb o (n*es') Om;refine⟨vs,by simp[Builtin.firstCells,RH],?_⟩;rw[List.take_take,aaQ hmul];exact SE
 ·rename_i s;rw[VR]at hy;subst hy;split at hc
  case isFalse=>cases hc
  rename_i hes;subst hes;cases hc;refine⟨rfl,Si,rp s,λn hn=>⟨(s.take n).map λb=>Value.int .u8 b.toNat,?_,?_⟩⟩
  ·simp only[Builtin.firstCells,ZF,extract_mk];simp
  ·rw[aa6,<-List.map_take];exact na m _
 ·cases hc
theorem sO{cb}{el:TypeId}{fz}:∀(vs:List Value) (p j:Nat) (cc:Array Value) (w:World),w.heap[cb]? =some (.cells cc el fz)->p+j+vs.length<=cc.size->
  (∀i,i<cc.size->¬(fz.1<=i/\i<fz.2))->(∀v∈vs,v.oneCell' =true)->
  ∃w' So,(storeCells ⟨cb,p,none⟩ vs j).run P w=.ok () w'/\w'.heap[cb]? =some (.cells So el fz)/\So.size=cc.size/\
   (∀i,So[i]? =if p+j<=i/\i<p+j+vs.length then vs[i-(p+j)]? else cc[i]?)/\(∀k,k≠cb->w'.heap[k]? =w.heap[k]?)/\w'.heap.size=w.heap.size/\w'.os=w.os/\w'.output=w.output/\w'.tape=w.tape
 |[],p,j,cc,w,hw,_,_,_=>⟨w,cc,rfl,hw,rfl,λi=>by simp;omega,λ_ _=>rfl,rfl,rfl,rfl,rfl⟩
 |v::vs,p,j,cc,w,hw,hlen,hfz,hone=>by
  simp only[YX]at hlen;have SA:w.cell? ⟨cb,p+j,none⟩=some (cc[p+j]'Om):=by simp only[World.cell?,hw];exact ZT Om
  have hfr:w.frozen? ⟨cb,p+j,none⟩=false:=n8 hw (hfz _ Om);have Vu:=heap_setCell_same (i:=p+j) hw v;have Tr:(cc.setIfInBounds (p+j) v).size=cc.size:=Si
  obtain⟨w',So,h1,h2,h3,h4,h5,h6,h7,h8,h9⟩:=sO vs p (j+1) (cc.setIfInBounds (p+j) v) (w.setCell ⟨cb,p+j,none⟩ v) Vu (by rw[Tr];omega) (by rw[Tr];exact hfz) (λu hu=>hone u (ZH _ hu));refine⟨w',So,?_,h2,Om,?_,?_,by simpa using h6,h7,h8,h9⟩
  ·simp only[storeCells,Zo];rw[gI,run_store P w _ v .plain (hone v (ZU ..)),SA];simp only[hfr,ZS,Zi,Ze];exact h1
  ·intro i;rw[h4 i];by_cases hi:i=p+j
   ·subst hi;rw[Za Om,Zh (by simp only[YX];omega)];rw[aah Om];simp
   ·rw[aaG (λx=>hi x.symm)];by_cases hin:p+(j+1)<=i/\i<p+(j+1)+vs.length
    ·rw[Zh hin,Zh (by simp only[YX];omega)];rw[show i-(p+j)=(i-(p+(j+1)))+1 from by omega];simp
    ·rw[Za hin,Za (by simp only[YX];omega)]
  ·intro k hk;rw[h5 k hk];exact Go.RowKit.Below.heap_setCell w _ v k hk
def D3(need cap:Nat)(hc:cap<need):Builtin.nextslicecap need cap<=2*need+192:=by
 unfold Builtin.nextslicecap;split
 ·omega
 ·split
  ·omega
  ·have grow:∀(r c:Nat),c<need+(need+768) / 4->Builtin.growBy need r c<=need+(need+768) / 4:=by
    intro r
    induction r with
    |zero=>intro c Vc;simp only[Builtin.growBy];omega
    |succ r ih=>
     intro c Vc;simp only[Builtin.growBy];split
     ·omega
     ·rename_i hlt;have h1:c<need:=Om
      by_cases hh:c+(c+768) / 4<need+(need+768) / 4
      ·exact ih _ hh
      ·have:c+(c+768) / 4<=need+(need+768) / 4:=Om
       have e:c+(c+768) / 4=need+(need+768) / 4:=Om
       rw[e];cases r with
       |zero=>simp[Builtin.growBy]
       |succ r=>simp only[Builtin.growBy];rw[Zh Om];exact Zc _
   have:=grow 4 cap Om;omega
theorem cK.vC:∀{l}{vs},cK m l vs->l.all AV.one=true->∀v∈vs,v.oneCell' =true
 |[],vs,h,_,v,hv=>by rw[bE]at h;subst h;cases hv
 |x::xs,vs,h,h1,v,hv=>by
  obtain⟨y,ys,rfl,hy,hys⟩:=aR.1 h;simp only[aau,ZE]at h1;rcases ZG.1 hv with rfl|hv
  ·exact hy.tX h1.1
  ·exact cK.vC hys h1.2 v hv
def rC(hr:HR P m h w){b o q e c ys mu mu' k0}(he:m b=some e)(hb:h[b]? =some (.cells c mu true))(hoq:o+q<=c.length)
  (hk0:(k0=.cells c false false/\o+q=c.length/\mu' =false)\/(k0=.dead/\mu=true)) {vs}(hys:cK m ys vs) (h1:ys.all AV.one=true) (hroom:o+q+e.d+ys.length<=e.sz) (j:Nat):
  ∃w' m',(storeCells ⟨e.cb,o+e.d+q,none⟩ vs 0).run P w=.ok () w'/\m' h.length=some ⟨e.cb,e.d+o,e.sz,true⟩/\
   HR P m' (h.set b k0++[.cells ((c.drop o).take q++ys) mu' true]) w'/\Grow m h w m' (h.set b k0++[.cells ((c.drop o).take q++ys) mu' true]) w':=by
 have _:=j;obtain⟨cc,el,fz,hw,⟨hle,hle'⟩,RM,hown,hmt⟩:=hr.dR b e _ he hb;have ho:e.own=true:=(hmt (.inr rfl)).1;obtain⟨eJ,hfz⟩:=hown ho;have hlv:=hys.length;obtain⟨w',So,RH,hw',RU,hcc',hoth,hhs,hos,hout,htape⟩:=sO (P:=P) vs (o+e.d+q) 0 cc w hw Om hfz (hys.vC h1);have hbl:b<h.length:=hr.cL _ _ he
 let e':sK:=⟨e.cb,e.d+o,e.sz,true⟩
 have SO:m h.length=none:=by
  exact MI
 have Uo:m.le (m.add h.length e'):=bZ.rQ e' SO;have hlen:(h.set b k0).length=h.length:=Si
 have Vt:∀b2 e2 k2,b2≠b->m b2=some e2->h[b2]? =some k2->k2.live=true->e2.cb=e.cb->mu=false/\∃c2,k2=.cells c2 false false/\e2.d+c2.length<=e.d+c.length:=by
  intro b2 e2 k2 hne RO RF hl hcb;have:=hr.sep b b2 e e2 _ k2 (λx=>hne x.symm) he RO hb RF hcb.symm;cases k2 with
  |cells c2 mu2 tl2=>
   obtain⟨Tx,Wl,ht⟩:=this;obtain⟨ht2,TM⟩:=ht rfl;subst Wl;subst ht2;exact⟨Tx,c2,rfl,TM⟩
  |dead=>cases hl
  |bj _=>exact this.elim
  |iter _ _=>exact this.elim
  |loop _ _ _ _ _ _=>exact this.elim
 have XF:∀i,i<e.d+o+q->So[i]? =cc[i]? :=by
  intro i hi;rw[hcc' i,Za Om]
 have hnew:BR P (m.add h.length e') w' e' (.cells ((c.drop o).take q++ys) mu' true):=by
  refine⟨So,el,fz,hw',⟨?_,?_,(by rw[RU,eJ])⟩,?_,λ_=>⟨by rw[RU,eJ],λi hi=>hfz i Om⟩,λ_=>⟨rfl,λx=>by cases x⟩⟩
  ·show e.d+o+((c.drop o).take q++ys).length<=So.size;simp;omega
  ·show e.d+o+((c.drop o).take q++ys).length<=e.sz;simp;omega
  ·intro i x hx;by_cases hi:i<q
   ·rw[YY (by simp;omega),aa0 hi,abe]at hx;obtain⟨hone,v,hv,RG⟩:=RM (o+i) x hx;refine⟨hone,v,?_,VR.mono Uo _ _ RG⟩;show So[e.d+o+i]? =some v;rw[XF _ Om,show e.d+o+i=e.d+(o+i)from by omega];exact hv
   ·have U8:((c.drop o).take q).length=q:=by simp;omega
    rw[Zd Om,U8]at hx;obtain⟨v,hv,RG⟩:=hys.get hx;have hlt:i-q<ys.length:=(YU.1 hx).1;refine⟨ZC.1 h1 x (ZV hx),v,?_,VR.mono Uo _ _ RG⟩;show So[e.d+o+i]? =some v;rw[hcc',Zh Om,show e.d+o+i-(o+e.d+q+0)=i-q from by omega];exact hv
 have hbr0:∀b2 e2 k2,m b2=some e2->(h.set b k0)[b2]? =some k2->BR P (m.add h.length e') w' e2 k2:=by
  intro b2 e2 k2 RO RF;rw[bI h b b2 _ hbl]at RF;by_cases hbb:b2=b
  ·subst hbb;rw[Zh rfl]at RF;cases RF;rw[he]at RO;cases RO;rcases hk0 with⟨rfl,hcl,_⟩|⟨rfl,_⟩
   ·refine⟨So,el,fz,hw',⟨Om,Om⟩,?_,λ_=>⟨by rw[RU,eJ],λi hi=>hfz i Om⟩,λx=>by rcases x with x|x<;>cases x⟩;intro i x hx;obtain⟨hone,v,hv,RG⟩:=RM i x hx;have hi:i<c.length:=(YU.1 hx).1;exact z168
   ·trivial
  ·rw[Za hbb]at RF;have h0:=hr.dR b2 e2 k2 RO RF;by_cases hl:k2.live=true
   ·by_cases hcb:e2.cb=e.cb
    ·obtain⟨hmf,c2,rfl,TM⟩:=Vt b2 e2 k2 hbb RO RF hl hcb;rcases hk0 with⟨_,hcl,_⟩|⟨_,VB⟩
     ·obtain⟨cc2,el2,fz2,hw2,⟨hle2a,hle2b⟩,hget2,hown2,hmt2⟩:=h0;rw[hcb,hw]at hw2;cases hw2;refine⟨So,el,fz,by rw[hcb];exact hw',⟨Om,Om⟩,?_,λho2=>by have:=hown2 ho2;exact⟨Om,λi hi=>this.2 i Om⟩,hmt2⟩;intro i x hx;obtain⟨hone,v,hv,RG⟩:=hget2 i x hx;have hi:i<c2.length:=(YU.1 hx).1;exact z168
     ·rw[hmf]at VB;cases VB
    ·exact(h0.mono Uo).heap (hoth _ hcb)
   ·exact GO
 have hget0:∀b2 k2,b2<h.length->(h.set b k0++[.cells ((c.drop o).take q++ys) mu' true])[b2]? =some k2->(h.set b k0)[b2]? =some k2:=by
  intro b2 k2 hlt RF
  rwa [YY Om]at RF
 have hsep1:∀b2 e2 k2,m b2=some e2->(h.set b k0)[b2]? =some k2->e2.cb=e.cb->pR e' e2 (.cells ((c.drop o).take q++ys) mu' true) k2/\pR e2 e' k2 (.cells ((c.drop o).take q++ys) mu' true):=by
  intro b2 e2 k2 RO RF hcb;rw[bI h b b2 _ hbl]at RF;by_cases hbb:b2=b
  ·subst hbb;rw[Zh rfl]at RF;cases RF;rw[he]at RO;cases RO;rcases hk0 with⟨rfl,hcl,rfl⟩|⟨rfl,_⟩
   ·refine⟨⟨rfl,rfl,λ_=>⟨rfl,?_⟩⟩,⟨rfl,rfl,λx=>by cases x⟩⟩;show e.d+c.length<=e.d+o+((c.drop o).take q++ys).length;simp;omega
   ·exact⟨trivial,trivial⟩
  ·rw[Za hbb]at RF;by_cases hl:k2.live=true
   ·obtain⟨hmf,c2,rfl,TM⟩:=Vt b2 e2 k2 hbb RO RF hl hcb;rcases hk0 with⟨_,hcl,rfl⟩|⟨_,VB⟩
    ·refine⟨⟨rfl,rfl,λ_=>⟨rfl,?_⟩⟩,⟨rfl,rfl,λx=>by cases x⟩⟩;show e2.d+c2.length<=e.d+o+((c.drop o).take q++ys).length;simp;omega
    ·rw[hmf]at VB;cases VB
   ·cases k2<;>first|exact⟨trivial,trivial⟩|exact absurd rfl hl
 have hsep2:∀b1 b2 e1 e2 k1 k2,b1≠b2->m b1=some e1->m b2=some e2->(h.set b k0)[b1]? =some k1->(h.set b k0)[b2]? =some k2->e1.cb=e2.cb->pR e1 e2 k1 k2:=by
  intro b1 b2 e1 e2 k1 k2 hne Td RO hk1 RF hcb;rw[bI h b _ _ hbl]at hk1 RF;by_cases Sb:b1=b
  ·subst Sb;rw[Zh rfl]at hk1;cases hk1;rw[Za (λx=>hne x.symm)]at RF;have:=hr.sep b1 b2 e1 e2 _ k2 hne Td RO hb RF hcb;rcases hk0 with⟨rfl,_⟩|⟨rfl,_⟩
   ·cases k2<;>first|exact⟨rfl,this.2.1,λx=>by cases x⟩|trivial|exact this
   ·trivial
  ·rw[Za Sb]at hk1;by_cases Sl:b2=b
   ·subst Sl;rw[Zh rfl]at RF;cases RF;have:=hr.sep b1 b2 e1 e2 k1 _ hne Td RO hk1 hb hcb;rcases hk0 with⟨rfl,_⟩|⟨rfl,_⟩
    ·cases k1<;>first|exact⟨this.1,rfl,λx=>absurd (this.2.2 x).1 Si⟩|trivial|exact this
    ·cases k1<;>trivial
   ·exact z70
 refine⟨w',m.add h.length e',by simpa using RH,by simp[bZ.add,e'],⟨?_,?_,?_,?_,?_⟩,⟨?_,Si,?_,?_,Om,hos,hout,htape,?_⟩⟩
 ·intro b2 e2 Sl;unfold bZ.add at Sl;by_cases hx:b2=h.length
  ·subst hx;simp
  ·rw[Za hx]at Sl;have:=hr.cL _ _ Sl;simp;omega
 ·intro b2 e2 k2 RO RF;unfold bZ.add at RO;by_cases hx:b2=h.length
  ·subst hx;rw[Zh rfl]at RO;cases RO;rw[Zd Om]at RF;simp at RF;subst RF;exact hnew
  ·rw[Za hx]at RO;exact hbr0 b2 e2 k2 RO (hget0 b2 k2 (hr.cL _ _ RO) RF)
 ·intro b1 b2 e1 e2 k1 k2 hne Td RO hk1 RF hcb;unfold bZ.add at Td RO;by_cases hx1:b1=h.length
  ·subst hx1;rw[Zh rfl]at Td;cases Td;rw[Za (λx=>hne x.symm)]at RO;rw[Zd Om]at hk1;simp at hk1;subst hk1;exact(hsep1 b2 e2 k2 RO (hget0 b2 k2 (hr.cL _ _ RO) RF) hcb.symm).1
  ·rw[Za hx1]at Td;have hk1':=hget0 b1 k1 (hr.cL _ _ Td) hk1;by_cases UM:b2=h.length
   ·subst UM;rw[Zh rfl]at RO;cases RO;rw[Zd Om]at RF;simp at RF;subst RF;exact(hsep1 b1 e1 k1 Td hk1' hcb).2
   ·rw[Za UM]at RO;exact hsep2 b1 b2 e1 e2 k1 k2 hne Td RO hk1' (hget0 b2 k2 (hr.cL _ _ RO) RF) hcb
 ·intro g hg;obtain⟨x,hx,h2⟩:=hr.ga g hg;exact⟨x,Uo _ _ hx,h2⟩
 ·intro b2 e2 RO;unfold bZ.add at RO;by_cases hx:b2=h.length
  ·rw[Zh hx]at RO;cases RO;have:=hr.lt _ _ he;show e.cb<_;omega
  ·rw[Za hx]at RO;have:=hr.lt _ _ RO;omega
 ·intro b2 Sl;unfold bZ.add;rw[Za Om]
 ·intro b2 e2 Sl RO;unfold bZ.add at RO;by_cases hx:b2=h.length
  ·rw[Zh hx]at RO;cases RO;refine⟨rfl,.inr ⟨b,e,he,rfl,ho,by simp[eM,hb],?_⟩⟩;unfold eM;rw[YY Om,bI h b b _ hbl,Zh rfl];rcases hk0 with⟨rfl,_⟩|⟨rfl,_⟩<;>rfl
  ·rw[Za hx]at RO;exact absurd (hr.cL _ _ RO) Om
 ·intro b2 Sl ht;unfold eM at ht ⊢;rw[YY Om,bI h b b2 _ hbl]at ht;by_cases hbb:b2=b
  ·subst hbb;rw[Zh rfl]at ht;rcases hk0 with⟨rfl,_⟩|⟨rfl,_⟩<;>cases ht
  ·exact Dl
 ·intro i hi hno;exact hoth i (λx=>hno b e he ho x.symm)
end
section
variable {P:Program}{m:bZ}{h h':ah}{w:World}{ρ:cV->AV}{v:AV}
def yr:ak->ak->Prop
 |.cells c mu tl,k=>k=.dead\/∃mu' tl',k=.cells c mu' tl'/\(mu' =true->mu=true/\(tl' =false->tl=false))/\(tl' =true->tl=true)
 |k,k'=>k' =.dead\/k' =k
def yr.NB{e1 e2 k k' k2}(hw:yr k k')(hs:pR e1 e2 k k2):pR e1 e2 k' k2:=by
 cases k with
 |cells c mu tl=>
  rcases hw with rfl|⟨mu',tl',rfl,hm,ht⟩
  ·trivial
  ·cases k2 with
   |cells c2 mu2 tl2=>
    refine⟨?_,hs.2.1,λx=>hs.2.2 (ht x)⟩;cases mu' with
    |false=>rfl
    |true=>have:=hs.1;rw[(hm rfl).1]at this;cases this
   |_=>first|trivial|exact hs
 |dead=>rcases hw with rfl|rfl<;>trivial
 |bj es=>rcases hw with rfl|rfl<;>first|trivial|exact hs
 |iter s p=>rcases hw with rfl|rfl<;>first|trivial|exact hs
 |loop a b c d e f=>rcases hw with rfl|rfl<;>first|trivial|exact hs
def yr.NA{e1 e2 k k' k1}(hw:yr k k')(hs:pR e1 e2 k1 k):pR e1 e2 k1 k':=by
 cases k with
 |cells c mu tl=>
  rcases hw with rfl|⟨mu',tl',rfl,hm,ht⟩
  ·cases k1<;>trivial
  ·cases k1 with
   |cells c1 mu1 tl1=>
    refine⟨hs.1,?_,λx=>⟨?_,(hs.2.2 x).2⟩⟩
    ·cases mu' with
     |false=>rfl
     |true=>have:=hs.2.1;rw[(hm rfl).1]at this;cases this
    ·cases tl' with
     |false=>rfl
     |true=>have:=(hs.2.2 x).1;rw[ht rfl]at this;cases this
   |_=>first|trivial|exact hs
 |dead=>rcases hw with rfl|rfl<;>cases k1<;>trivial
 |bj es=>rcases hw with rfl|rfl<;>first|exact hs|(cases k1<;>trivial)
 |iter s p=>rcases hw with rfl|rfl<;>first|exact hs|(cases k1<;>trivial)
 |loop a b c d e f=>rcases hw with rfl|rfl<;>first|exact hs|(cases k1<;>trivial)
def yr.br{e k k'}(hw:yr k k')(hb:BR P m w e k):BR P m w e k':=by
 cases k with
 |cells c mu tl=>
  rcases hw with rfl|⟨mu',tl',rfl,hm,ht⟩
  ·trivial
  ·obtain⟨cc,el,fz,h1,h2,h3,h4,h5⟩:=hb;refine⟨cc,el,fz,h1,h2,h3,h4,λx=>⟨(h5 (x.elim (λy=>.inl (hm y).1) (λy=>.inr (ht y)))).1,λy=>?_⟩⟩;rcases x with x|x
   ·exact(h5 (.inl (hm x).1)).2 ((hm x).2 y)
   ·rw[x]at y;cases y
 |dead=>rcases hw with rfl|rfl<;>trivial
 |bj es=>rcases hw with rfl|rfl<;>first|trivial|exact hb
 |iter s p=>rcases hw with rfl|rfl<;>first|trivial|exact hb
 |loop a b c d e f=>rcases hw with rfl|rfl<;>first|trivial|exact hb
def wb(hr:HR P m h w){b k k'}(hb:h[b]? =some k)(hk:yr k k'):HR P m (h.set b k') w/\Grow m h w m (h.set b k') w:=by
 have hbl:b<h.length:=(YU.1 hb).1;refine⟨⟨?_,?_,?_,hr.ga,hr.lt⟩,⟨λ_ _=>rfl,Si,?_,?_,Zc _,rfl,rfl,rfl,λ_ _ _=>rfl⟩⟩
 ·intro b' e' hb';simpa using hr.cL b' e' hb'
 ·intro b' e' k2 SL RF;rw[bI h b b' _ hbl]at RF;by_cases hbb:b' =b
  ·subst hbb;rw[Zh rfl]at RF;cases RF;exact hk.br (hr.dR b' e' k SL hb)
  ·rw[Za hbb]at RF;exact hr.dR b' e' k2 SL RF
 ·intro b1 b2 e1 e2 k1 k2 hne Td RO hk1 RF hcb;rw[bI h b _ _ hbl]at hk1 RF;by_cases Sb:b1=b
  ·subst Sb;rw[Zh rfl]at hk1;cases hk1;rw[Za (λx=>hne x.symm)]at RF;exact hk.NB (hr.sep b1 b2 e1 e2 k k2 hne Td RO hb RF hcb)
  ·rw[Za Sb]at hk1;by_cases Sl:b2=b
   ·subst Sl;rw[Zh rfl]at RF;cases RF;exact hk.NA (hr.sep b1 b2 e1 e2 k1 k hne Td RO hk1 hb hcb)
   ·exact z70
 ·intro b' e' hb' SL;exact absurd (hr.cL _ _ SL) Om
 ·intro b' hb' ht;unfold eM at ht ⊢;rw[bI h b b' _ hbl]at ht;by_cases hbb:b' =b
  ·subst hbb;rw[Zh rfl]at ht;rw[hb];cases k with
   |cells c mu tl=>
    rcases hk with rfl|⟨mu',tl',rfl,_,h2⟩
    ·cases ht
    ·exact h2 ht
   |dead=>rcases hk with rfl|rfl<;>cases ht
   |bj es=>rcases hk with rfl|rfl<;>cases ht
   |iter s p=>rcases hk with rfl|rfl<;>cases ht
   |loop a b c d e f=>rcases hk with rfl|rfl<;>cases ht
  ·exact Dl
def kh(hr:HR P m h w){c vs}(hc:cK m c vs)(h1:c.all AV.one=true)(rest:List Value)(el:TypeId)(mu tl:Bool)(hml:mu=true->tl=true):
  ∃m',m' h.length=some ⟨w.heap.size,0,vs.length+rest.length,true⟩/\HR P m' (h++[.cells c mu tl]) (w.alloc (.cells ⟨vs++rest⟩ el))/\Grow m h w m' (h++[.cells c mu tl]) (w.alloc (.cells ⟨vs++rest⟩ el)):=by
 have hl:=hc.length;refine⟨_,by simp[bZ.add],ki hr (.cells ⟨vs++rest⟩ el) (.cells c mu tl) ⟨w.heap.size,0,vs.length+rest.length,true⟩ rfl rfl (λm' hm=>?_)⟩;refine⟨⟨vs++rest⟩,el,(0,0),World.alloc_heap_new w _,⟨by simp;omega,by refine⟨?_,Si⟩;show 0+c.length<=vs.length+rest.length;omega⟩,?_,λ_=>⟨Si,λi _=>by simp⟩,λx=>⟨rfl,λy=>by
  rcases x with x|x
  ·rw[hml x]at y;cases y
  ·rw[x]at y;cases y⟩⟩
 intro i x hx;obtain⟨v,hv,RG⟩:=hc.get hx;have hi:i<c.length:=(YU.1 hx).1;refine⟨ZC.1 h1 x (ZV hx),v,?_,VR.mono hm _ _ RG⟩;show(⟨vs++rest⟩:Array Value)[0+i]? =some v;rw[ZN,aaq,YY Om];exact hv
def nO{sT xT e:TypeId}{i:TypeInfo}{y ts}(hts0:ts[0]? =some sT)(hts1:ts[1]? =some xT)(hs:dY P sT=some (e,i))(hbytes:0<i.bytes)(hbytes':i.bytes<=2^20)
  {d:TypeDesc}(hud:P.underlying xT=some d) (hdk:∀k,d≠.int k) {cz}(hz:(zeroValue e).run P w.drew=.ok cz w.drew) {base}{n cap k}(hcap:cap<n+k) (hb:(n+k)*i.bytes<=2^46)
  (hlen:(Builtin.lenOf y).run P w=.ok k w) {vo vn}(ho:(Builtin.firstCells i.size n (.slice base n cap)).run P w.drew=.ok ⟨vo⟩ w.drew) (hn:(Builtin.firstCells i.size k y).run P w.drew=.ok ⟨vn⟩ w.drew) (T:TypeId) (eJ:i.size=cz.cells.size):
  ∃newCap rest,n+k<=newCap/\rest.length=(newCap-(n+k))*i.size/\
   (Builtin.append_ ts T #[.slice base n cap,y]).run P w=.ok (.slice (some ⟨w.heap.size,0,none⟩) (n+k) newCap) (w.drew.alloc (.cells ⟨vo++vn++rest⟩ e)):=by
 obtain⟨hu,hi⟩:=fB hs;have Vz:=D3 (n+k) cap hcap;have hno:¬(Builtin.nextslicecap (n+k) cap*i.bytes > 2^48):=by
  have h1:Builtin.nextslicecap (n+k) cap*i.bytes<=(2*(n+k)+192)*i.bytes:=Z7 _ Vz;have h2:(2*(n+k)+192)*i.bytes=2*((n+k)*i.bytes)+192*i.bytes:=by rw[abf,Nat.mul_assoc]
  omega
 obtain⟨q,hq⟩:∃q:Question,q=.appendCap (n+k) cap e:=⟨_,rfl⟩;obtain⟨nc,VA⟩:∃nc:Nat,nc=q.cut (w.tape w.drawn q):=⟨_,rfl⟩;have Wi:n+k<=nc:=by rw[VA,hq];show n+k<=(n+k)+_;omega
 have TE:(match d with|.int _=>true|_=>false)=false:=by
  cases d<;>first|rfl|exact absurd rfl (hdk _)
 have RW:∀w,(sizeOf e).run P w=.ok i.size w:=λw=>b9 (by simp[dV,hi]) w
 have VJ:∀w,(typeInfo e).run P w=.ok i w:=λw=>by simp[typeInfo,hi]
 have SZ:¬(i.bytes=0):=Om
 have TP:(choose (.appendCap (n+k) cap e)).run P w=.ok nc w.drew:=by
  rw[run_choose,VA,hq];rfl
 refine⟨nc,(Builtin.zeroCells cz.cells (nc-(n+k))).toList,Wi,by simp[Builtin.zeroCells,eJ],?_⟩;simp only[Builtin.append_,hts0,hts1,aaq,aac,aam,Zo,Zm hu,Ze,RW,Zm hud,ZF,TE,
  ZS,Zi,hlen,Nat.not_le.2 hcap]
 simp only[Sem.run_ite,Zo,VJ,Ze,hno,Zi,SZ,aay,and_false,ZS,TP,run_askRoom,ho,hn,hz,Zz,Zk,newRow,run_newObj,ZF];have earr:((⟨vo⟩:Array Value)++⟨vn⟩++Builtin.zeroCells cz.cells (nc-(n+k)))=⟨vo++vn++(Builtin.zeroCells cz.cells (nc-(n+k))).toList⟩:=by
  apply abq
  simp
 rw[earr];rfl
def mI{c:List AV}{o q:Nat}(h:o+q=c.length):(c.drop o).take q=c.drop o:=ZL (by simp;omega)
def KG{sT xT e:TypeId}{i:TypeInfo}{ts:Array TypeId}(hts0:ts[0]? =some sT)(hts1:ts[1]? =some xT)(hs:dY P sT=some (e,i))(hspos:0<i.size)(hbytes:0<i.bytes)(hbytes':i.bytes<=2^20)
  {d:TypeDesc}(hud:P.underlying xT=some d) (hdk:∀k,d≠.int k) {z:AV}(hz:i.zero.bind (mA 4)=some z) (hzs:z.cells.length=i.size)
  (hr:HR P m h w) {x y:AV}{cx cy:Value}(hx:VR m x cx) (hy:VR m y cy) (hf:wQ i.size i.bytes x y h v h') (T:TypeId):
  ∃cv w' m',(Builtin.append_ ts T #[cx,cy]).run P w=.ok cv w'/\VR m' v cv/\HR P m' h' w'/\Grow m h w m' h' w':=by
 obtain⟨hu,hi⟩:=fB hs;have hzA:jy P e=some z:=by simp[jy,hi,hz]
 obtain⟨cz,Uu,U5⟩:=jS hzA w.drew m;have WH:i.size=cz.cells.size:=by have:=U5.cells.length;simp at this;omega
 have RW:∀w,(sizeOf e).run P w=.ok i.size w:=λw=>b9 (by simp[dV,hi]) w
 have TE:(match d with|.int _=>true|_=>false)=false:=by
  cases d<;>first|rfl|exact absurd rfl (hdk _)
 have room:∀{base:Option Addr}{n cap k:Nat}{vn:List Value}{w1:World},n+k<=cap->(Builtin.lenOf cy).run P w=.ok k w->(Builtin.firstCells i.size k cy).run P w=.ok ⟨vn⟩ w->
   (match base with|some a=>(storeCells (a.add (n*i.size)) vn).run P w=.ok () w1|none=>w1=w)->
   (Builtin.append_ ts T #[.slice base n cap,cy]).run P w=.ok (.slice base (n+k) cap) w1:=by
  intro base n cap k vn w1 hle hlen RN bV;cases base with
  |none=>
   subst bV;simp only[Builtin.append_,hts0,hts1,aaq,aac,aam,Zo,Zm hu,Ze,RW,Zm hud,ZF,TE,
    ZS,Zi,hlen,hle,Zk,Zz,RN]
  |some a=>
   simp only at bV;simp only[Builtin.append_,hts0,hts1,aaq,aac,aam,Zo,Zm hu,Ze,RW,Zm hud,ZF,TE,
    ZS,Zi,hlen,hle,Zk,Zz,RN,bV]
 cases hf with
 |none Tq Sr=>
  obtain⟨hlen,_,_,RN⟩:=cM hr hy Tq;obtain⟨vn,TX,RG⟩:=RN 0 (Zc _);have Ym:vn=[]:=by simp[bE]at RG;exact RG
  subst Ym;rcases Sr with rfl|⟨b,o,n,rfl⟩
  ·rw[VR]at hx;subst hx;exact⟨.slice none 0 0,w,m,room Om hlen TX rfl,rfl,hr,Grow.refl m h w hr.cL⟩
  ·have hx0:=hx;obtain⟨en,ca,cap,Sk,rfl,R4,Sm,hroom⟩:=hx;exact⟨.slice (some ca) n cap,w,m,room Om hlen TX (by simp[storeCells]),hx0,hr,Grow.refl m h w hr.cL⟩
 |new ys k mu Tq hk hb Sr=>
  subst Sr;rw[VR]at hx;subst hx;obtain⟨hlen,TG,hone,_⟩:=cM hr hy Tq;obtain⟨_,_,_,RN⟩:=cM hr.drew hy Tq;obtain⟨vn,TX,RG⟩:=RN k (Zc _);rw[ZL Om]at RG;obtain⟨nc,rest,Wi,SM,RH⟩:=nO (n:=0) (cap:=0) (base:=none) (vo:=[]) hts0 hts1 hs hbytes hbytes' hud hdk Uu Om (by rw[ZN];exact hb) hlen (by simp[Builtin.firstCells]) TX T WH;obtain⟨m',h0,h1,h2⟩:=kh hr.drew RG hone rest e mu true (λ_=>rfl);have Sy:=RG.length;refine⟨_,_,m',RH,⟨_,_,nc,h0,by rw[ZN];rfl,Om,λ_=>rfl,?_⟩,by simpa using h1,by simpa using h2.Cv⟩;show 0+0+nc*i.size<=vn.length+rest.length;rw[SM,Sy,TG];have:nc*i.size=k*i.size+(nc-(0+k))*i.size:=by rw[<-abf];congr 1;omega
  omega
 |on ys k b o n c mu Tq hk hb Sr hc hl=>
  subst Sr;obtain⟨en,ca,cap,Sk,rfl,R4,Sm,hroom⟩:=hx;obtain⟨hlen,TG,hone,RN⟩:=cM hr hy Tq;have Wf:cellsIn i.size h (.slice b o n i.size)=some ((c.drop o).take (n*i.size),n):=by simp[cellsIn,hc];omega
  have hdt:=mI hl;by_cases VP:n+k<=cap
  ·obtain⟨vn,TX,RG⟩:=RN k (Zc _);rw[ZL Om]at RG;have VS:=Sm Om;have hr1:(n+k)*i.size<=cap*i.size:=Z7 _ VP;rw[abf]at hr1;obtain⟨w',m',h0,h1,h2,h3⟩:=rC (mu':=false) (k0:=.cells c false false) (q:=n*i.size) hr Sk hc Om (.inl ⟨rfl,hl,rfl⟩) RG hone Om 0;rw[hdt]at h2 h3;exact Qt
  ·obtain⟨_,_,_,hfo⟩:=cM hr.drew (y:=.slice b o n i.size) ⟨en,ca,cap,Sk,rfl,R4,Sm,hroom⟩ Wf;obtain⟨vo,hvo,Th⟩:=hfo n (Zc _);obtain⟨_,_,Tl,_⟩:=cM hr (y:=.slice b o n i.size) ⟨en,ca,cap,Sk,rfl,R4,Sm,hroom⟩ Wf;obtain⟨_,_,_,SU⟩:=cM hr.drew hy Tq;obtain⟨vn,TX,RG⟩:=SU k (Zc _);rw[ZL Om]at RG;rw[ZL (by simp;omega),hdt]at Th;rw[hdt]at Tl;obtain⟨nc,rest,Wi,SM,RH⟩:=nO hts0 hts1 hs hbytes hbytes' hud hdk Uu Om hb hlen hvo TX T WH;obtain⟨g1,g2⟩:=wb (k':=.cells c false false) hr hc (.inr ⟨false,false,rfl,λx=>(by cases x),λx=>(by cases x)⟩);obtain⟨m',h0,h1,h2⟩:=kh g1.drew (Th.append RG) (by simp[Tl,hone]) rest e false true (λ_=>rfl)
   have RY:(h.set b (.cells c false false)).length=h.length:=Si
   rw[RY]at h0;have Sy:=RG.length;have Yl:=Th.length;refine⟨_,_,m',RH,⟨_,_,nc,h0,rfl,Wi,λ_=>rfl,?_⟩,h1,(g2.drew.trans h2 hr.cL)⟩;exact Na
 |over ys k b o n c mu Tq hk hb Sr hc hl=>
  subst Sr;obtain⟨en,ca,cap,Sk,rfl,R4,Sm,hroom⟩:=hx;obtain⟨hlen,TG,hone,RN⟩:=cM hr hy Tq;have Wf:cellsIn i.size h (.slice b o n i.size)=some ((c.drop o).take (n*i.size),n):=by simp[cellsIn,hc];omega
  by_cases VP:n+k<=cap
  ·obtain⟨vn,TX,RG⟩:=RN k (Zc _);rw[ZL Om]at RG;have VS:=Sm Om;have hr1:(n+k)*i.size<=cap*i.size:=Z7 _ VP;rw[abf]at hr1;obtain⟨w',m',h0,h1,h2,h3⟩:=rC (mu':=mu) (k0:=.dead) (q:=n*i.size) hr Sk hc Om (.inr ⟨rfl,rfl⟩) RG hone Om 0;exact Qt
  ·obtain⟨_,_,_,hfo⟩:=cM hr.drew (y:=.slice b o n i.size) ⟨en,ca,cap,Sk,rfl,R4,Sm,hroom⟩ Wf;obtain⟨vo,hvo,Th⟩:=hfo n (Zc _);obtain⟨_,_,Tl,_⟩:=cM hr (y:=.slice b o n i.size) ⟨en,ca,cap,Sk,rfl,R4,Sm,hroom⟩ Wf;obtain⟨_,_,_,SU⟩:=cM hr.drew hy Tq;obtain⟨vn,TX,RG⟩:=SU k (Zc _);rw[ZL Om]at RG;rw[ZL (by simp;omega)]at Th;obtain⟨nc,rest,Wi,SM,RH⟩:=nO hts0 hts1 hs hbytes hbytes' hud hdk Uu Om hb hlen hvo TX T WH;obtain⟨g1,g2⟩:=wb (k':=.dead) hr hc (.inl rfl);obtain⟨m',h0,h1,h2⟩:=kh g1.drew (Th.append RG) (by rw[List.all_append,Tl,hone];rfl) rest e mu true (λ_=>rfl);have RY:(h.set b .dead).length=h.length:=Si
   rw[RY]at h0;have Sy:=RG.length;have Yl:=Th.length;refine⟨_,_,m',RH,⟨_,_,nc,h0,rfl,Wi,λ_=>rfl,?_⟩,h1,(g2.drew.trans h2 hr.cL)⟩;exact Na
 |full ys k b o n c Tq hk hb Sr hc hl=>
  subst Sr;obtain⟨en,ca,cap,Sk,rfl,R4,Sm,hroom⟩:=hx;obtain⟨hlen,TG,hone,RN⟩:=cM hr hy Tq;have Wf:cellsIn i.size h (.slice b o n i.size)=some ((c.drop o).take (n*i.size),n):=by simp[cellsIn,hc];omega
  have hdt:=mI hl;have hfull:cap<=n:=by
   obtain⟨_,_,_,_,_,_,_,hex⟩:=hr.dR b en _ Sk hc;have he:=(hex (.inl rfl)).2 rfl;by_cases hle:cap<=n
   ·exact hle
   ·have h2:(n+1)*i.size<=cap*i.size:=Z7 _ Om;rw[aaj]at h2;omega
  obtain⟨_,_,_,hfo⟩:=cM hr.drew (y:=.slice b o n i.size) ⟨en,ca,cap,Sk,rfl,R4,Sm,hroom⟩ Wf;obtain⟨vo,hvo,Th⟩:=hfo n (Zc _);obtain⟨_,_,Tl,_⟩:=cM hr (y:=.slice b o n i.size) ⟨en,ca,cap,Sk,rfl,R4,Sm,hroom⟩ Wf;obtain⟨_,_,_,SU⟩:=cM hr.drew hy Tq;obtain⟨vn,TX,RG⟩:=SU k (Zc _);rw[ZL Om]at RG;rw[ZL (by simp;omega),hdt]at Th;rw[hdt]at Tl;obtain⟨nc,rest,Wi,SM,RH⟩:=nO hts0 hts1 hs hbytes hbytes' hud hdk Uu Om hb hlen hvo TX T WH;obtain⟨m',h0,h1,h2⟩:=kh hr.drew (Th.append RG) (by simp[Tl,hone]) rest e true true (λ_=>rfl);have Sy:=RG.length;have Yl:=Th.length;refine⟨_,_,m',RH,⟨_,_,nc,h0,rfl,Wi,λ_=>rfl,?_⟩,h1,h2.Cv⟩
  exact Na
def Dy(n es cap:Nat)(h:n<=cap):n*es<=cap*es:=Z7 _ h
def KE{dT e:TypeId}{i:TypeInfo}{ts}(hts0:ts[0]? =some dT)(hs:dY P dT=some (e,i))(hspos:0<i.size)
  (hr:HR P m h w) {x y}{cx cy}(hx:VR m (ρ x) cx) (hy:VR m (ρ y) cy) (hf:dw (.za i.size x y) ρ h=some (v,h')) (T:TypeId):
  ∃cv w' m',(Builtin.copy_ ts T #[cx,cy]).run P w=.ok cv w'/\VR m' v cv/\HR P m' h' w'/\Grow m h w m' h' w':=by
 obtain⟨hu,hi⟩:=fB hs;have RW:∀w,(sizeOf e).run P w=.ok i.size w:=λw=>b9 (by simp[dV,hi]) w
 simp only[dw]at hf;split at hf
 ·rename_i b o n es' ys k SC Tq;rw[SC]at hx;obtain⟨en,ca,cap,Sk,rfl,R4,Sm,hroom⟩:=hx;obtain⟨hlen,TG,hone,RN⟩:=cM hr hy Tq;obtain⟨vn,TX,RG⟩:=RN (min k n) (Nat.min_le_left _ _);split at hf
  case isFalse=>cases hf
  rename_i hes;subst hes;have UR:Nat.min k n=min k n:=rfl;split at hf
  ·rename_i h0;cases hf;have Ym:vn=[]:=by rw[h0]at RG;simp[bE]at RG;exact RG
   subst Ym;refine⟨.int .i64 0,w,m,?_,rfl,hr,Grow.refl m h w hr.cL⟩;simp only[Builtin.copy_,hts0,aaq,aac,aam,Zo,Zm hu,Ze,hlen,RW,UR,TX,ZF,storeCells];simp[goInt,h0]
  ·rename_i h0;split at hf
   case h_2=>cases hf
   rename_i c tl hb;split at hf
   case isFalse=>cases hf
   rename_i hle;cases hf;have UL:(ys.take (min k n*i.size)).all AV.one=true:=by
    rw[ZC]at hone ⊢
    exactλa ha=>hone a (Z8 ha)
   have W9:(ys.take (min k n*i.size)).length=min k n*i.size:=by
    have:=Dy (min k n) i.size k (Nat.min_le_left _ _);simp;omega
   obtain⟨w',bV,h1,h2⟩:=po (ys.take (min k n*i.size)) vn hr Sk hb o 0 Om UL RG;refine⟨.int .i64 (min k n:Nat),w',m,?_,rfl,h1,h2⟩;have VS:=Sm Om;subst VS;simp only[Builtin.copy_,hts0,aaq,aac,aam,Zo,Zm hu,Ze,hlen,RW,UR,TX,ZF,bV,goInt]
 ·rename_i SC Tq;rename_i p;obtain⟨ys,k⟩:=p;rw[SC,VR]at hx;subst hx;cases hf;obtain⟨hlen,TG,hone,RN⟩:=cM hr hy Tq;obtain⟨vn,TX,RG⟩:=RN 0 (ZA _);have UR:Nat.min k 0=0:=Nat.min_zero k;refine⟨.int .i64 0,w,m,?_,rfl,hr,Grow.refl m h w hr.cL⟩;simp only[Builtin.copy_,hts0,aaq,aac,aam,Zo,Zm hu,Ze,hlen,RW,UR,TX,ZF,goInt];rfl
 ·cases hf
end
section
variable {P:Program}{m:bZ}{h h':ah}{w:World}{ρ:cV->AV}{v:AV}
theorem wE:∀{l}{vs}{bs},cK m l vs->l.mapM byteOf=some bs->
  ∀(acc:ByteArray),(forIn (m:=Sem) vs acc λc s=>
    match c with
    |.int .u8 n=>pure (ForInStep.yield (s.push (UInt8.ofNat n.toNat)))
    |_=>do
     (stuck "bytesToString: byte expected" :Sem PUnit)
     pure (ForInStep.yield s)).run P w=.ok ⟨⟨acc.data.toList++bs⟩⟩ w
 |[],vs,bs,hv,hb,acc=>by
  rw[bE]at hv;subst hv;simp at hb;subst hb;simp
 |x::xs,vs,bs,hv,hb,acc=>by
  obtain⟨y,ys,rfl,hy,hys⟩:=aR.1 hv;simp only[abm,aa5,abw]at hb;cases hx:byteOf x with
  |none=>simp[hx]at hb
  |some b=>
   cases hl:xs.mapM byteOf with
   |none=>simp[hx,hl]at hb
   |some bs'=>
    simp[hx,hl]at hb;subst hb;unfold byteOf at hx;split at hx
    case h_2=>cases hx
    rename_i n;cases hx;rw[VR]at hy;subst hy;have:=wE hys hl (acc.push (UInt8.ofNat n.toNat));simp only[List.forIn_cons,Zo,ZF,Ze];rw[this];simp[ByteArray.push]
def yZ{e:TypeId}(h:Ej P e=true):P.underlying e=some (.int .u8):=by
 unfold Ej at h;split at h
 ·assumption
 ·cases h
def Hh{s d:TypeId}{k x cx}(hk:CA P s d=some k)(hr:HR P m h w)(hx:VR m (ρ x) cx)(hf:dw (.conv k x) ρ h=some (v,h')):
  ∃cv w' m',(convert s d cx).run P w=.ok cv w'/\VR m' v cv/\HR P m' h' w'/\Grow m h w m' h' w':=by
 simp only[dw]at hf;have same:∀{cv:Value},(convert s d cx).run P w=.ok cv w->VR m v cv->h' =h->∃cv w' m',(convert s d cx).run P w=.ok cv w'/\VR m' v cv/\HR P m' h' w'/\Grow m h w m' h' w':=by
  intro cv h1 h2 h3;exact Jw
 unfold CA at hk;split at hk
 ·rename_i k1 k2 hs hd;cases hk;simp only[kg]at hf;split at hf
  case h_2=>cases hf
  rename_i hρ;rw[hρ,VR]at hx;subst hx;cases hf;exact same (by simp[convert,Zm hs,Zm hd,Conv.intToInt]) rfl rfl
 ·rename_i k1 k2 hs hd;cases hk;simp only[kg]at hf;split at hf
  case h_2=>cases hf
  rename_i hρ;rw[hρ,VR]at hx;subst hx;cases hf;exact same (by simp[convert,Zm hs,Zm hd,Conv.intToFloat]) ⟨_,rfl,.inl rfl⟩ rfl
 ·rename_i k1 k2 hs hd;cases hk;simp only[kg]at hf;split at hf
  case h_2=>cases hf
  rename_i sk b hρ;rw[hρ]at hx;obtain⟨b',rfl,hfr⟩:=hx;split at hf
  case h_2=>cases hf
  rename_i n hn;split at hf
  case isFalse=>cases hf
  rename_i hc;cases hf;have hbb:b' =b:=by
   rcases hfr with h1|⟨h1,_⟩
   ·exact h1
   ·rw[hc.1]at h1;cases h1
  subst hbb;exact same (by simp[convert,Zm hs,Zm hd,Conv.floatToInt,hn,hc.2]) rfl rfl
 ·rename_i k1 k2 hs hd;cases hk;simp only[kg]at hf;split at hf
  case h_2=>cases hf
  rename_i sk b hρ;rw[hρ]at hx;obtain⟨b',rfl,hfr⟩:=hx;split at hf
  case isFalse=>cases hf
  rename_i hc;cases hf;subst hc;exact same (by simp[convert,Zm hs,Zm hd,Conv.floatToFloat]) ⟨_,rfl,hfr⟩ rfl
 ·rename_i hs hd;cases hk;simp only[kg]at hf;split at hf
  case h_2=>cases hf
  rename_i hρ;rw[hρ,VR]at hx;subst hx;cases hf;exact same (by simp[convert,Zm hs,Zm hd]) rfl rfl
 ·rename_i e hs hd;split at hk
  case isFalse=>cases hk
  rename_i he;have hue:P.underlying e=some (.int .u8):=yZ he;cases hk;simp only[kg]at hf;split at hf
  case h_2=>cases hf
  rename_i s hρ;rw[hρ,VR]at hx;subst hx;cases hf;obtain⟨q,hq⟩:∃q:Question,q=.appendCap s.length 0 e:=⟨_,rfl⟩;obtain⟨nc,VA⟩:∃nc:Nat,nc=q.cut (w.tape w.drawn q):=⟨_,rfl⟩;have Wi:s.length<=nc:=by rw[VA,hq];show s.length<=s.length+_;omega
  have TP:(choose (.appendCap s.length 0 e)).run P w=.ok nc w.drew:=by
   rw[run_choose,VA,hq];rfl
  let vs:List Value:=s.map λb=>.int .u8 b.toNat
  let rest:List Value:=List.replicate (nc-s.length) (.int .u8 0)
  have Sy:vs.length=s.length:=by simp[vs]
  have Tj:rest.length=nc-s.length:=by simp[rest]
  let W:World:=(w.drew.alloc (.cells ⟨vs++rest⟩ e))
  let W':World:=W.freeze ⟨w.heap.size,nc,none⟩ 1
  have hWh:W.heap[w.heap.size]? =some (.cells ⟨vs++rest⟩ e):=World.alloc_heap_new w.drew _;have hlt:w.heap.size<W.heap.size:=(Zl.1 hWh).1;have hW':W'.heap[w.heap.size]? =some (.cells ⟨vs++rest⟩ e (nc,nc+1)):=by
   have hk:W.heap[w.heap.size]=.cells ⟨vs++rest⟩ e:=(Zl.1 hWh).2;show((if(1:Nat)=0 then W else {W with heap:=W.heap.modify w.heap.size _}).heap)[w.heap.size]? =_;rw[Za Om];show(W.heap.modify w.heap.size _)[w.heap.size]? =_;rw[ZT (by rw[Array.size_modify];exact hlt),Array.getElem_modify_self,hk];rfl
  have hother:∀i,i≠w.heap.size->W'.heap[i]? =W.heap[i]? :=by
   intro i hi;show((if(1:Nat)=0 then W else {W with heap:=W.heap.modify w.heap.size _}).heap)[i]? =_;rw[Za Om];show(W.heap.modify w.heap.size _)[i]? =_;rw[Array.getElem?_modify,Za (λx=>hi x.symm)]
  have RW:W'.heap.size=W.heap.size:=by
   show((if(1:Nat)=0 then W else {W with heap:=W.heap.modify w.heap.size _}).heap).size=_;rw[Za Om];simp
  obtain⟨m',h0,h1,h2⟩:=kh hr.drew (na m s) (rp s) rest e true true (λ_=>rfl);have h0':m' h.length=some ⟨w.heap.size,0,vs.length+rest.length,true⟩:=h0;have hne:∀b e2 k2,m' b=some e2->b≠h.length->(h++[.cells (s.map λb=>.int .u8 b.toNat) true true])[b]? =some k2->k2.live=true->e2.cb≠w.heap.size:=by
   intro b e2 k2 hb hbl RF hl hcb;have:=h1.sep h.length b _ e2 (.cells (s.map λb=>.int .u8 b.toNat) true true) k2 (λx=>hbl x.symm) h0' hb Si RF hcb.symm;cases k2<;>first|exact absurd this.1 Si|exact this|(cases hl;done)
  have hgrow:Grow m h w m' (h++[.cells (s.map λb=>.int .u8 b.toNat) true true]) W':=by
   have g:=h2.Cv;refine⟨g.ext,g.len,g.new,g.tl,by rw[RW];exact g.size,?_,?_,?_,?_⟩
   ·exact g.os
   ·exact g.out
   ·exact g.tape
   ·intro i hi hno;rw[hother i Om];exact g.frame i hi hno
  refine⟨.slice (some ⟨w.heap.size,0,none⟩) s.length nc,W',m',?_,⟨_,_,nc,h0',rfl,Wi,λ_=>rfl,by show 0+0+nc*1<=vs.length+rest.length;omega⟩,⟨h1.cL,?_,h1.sep,h1.ga,λb' e' hb'=>by have:=h1.lt b' e' hb';rw[RW];exact this⟩,hgrow⟩
  ·have eJ:(⟨⟨s⟩⟩:ByteArray).size=s.length:=rfl;have VE:(⟨s⟩:Array UInt8).map (λb=>Value.int .u8 b.toNat)=⟨vs⟩:=by apply abq;simp[vs]
   have Sv:(⟨vs⟩:Array Value)++Array.replicate (nc-s.length) (.int .u8 0)=⟨vs++rest⟩:=by apply abq;simp[rest]
   have Yq:W.shape? w.heap.size=some (e,nc):=by
    simp only[World.shape?,hWh];simp[Sy,Tj];omega
   simp only[convert,Zo,Zm hs,Zm hd,Ze,Zm hue,Conv.stringToBytes,eJ,TP,VE,Sv,newRow,run_newObj,ZF];simp only[markStringish,Zo,run_shape];have Sf:World.shape? {heap:=w.drew.heap.push (Obj.cells ⟨vs++rest⟩ e),tape:=w.drew.tape,drawn:=w.drew.drawn,os:=w.drew.os,output:=w.drew.output} w.drew.heap.size=some (e,nc):=Yq;simp only[Sf,Ze,run_freeze];rfl
  ·intro b e2 k2 hb RF;have SZ:=h1.dR b e2 k2 hb RF;by_cases hbl:b=h.length
   ·subst hbl;rw[h0']at hb;cases hb;simp at RF;subst RF;obtain⟨cc,el,fz,hh,h3,h4,h5,h6⟩:=SZ;have hWh':W.heap[w.heap.size]? =some (.cells cc el fz):=hh;rw[hWh]at hWh';cases hWh';refine⟨⟨vs++rest⟩,e,(nc,nc+1),hW',h3,h4,λ_=>⟨(h5 rfl).1,λi hi=>?_⟩,h6⟩;have:(⟨vs++rest⟩:Array Value).size=nc:=by simp[Sy,Tj];omega
    simp only;omega
   ·by_cases hl:k2.live=true
    ·exact SZ.heap (hother _ (hne b e2 k2 hb hbl RF hl))
    ·exact GO
 ·rename_i e hs hd;split at hk
  case isFalse=>cases hk
  rename_i he;have hue:P.underlying e=some (.int .u8):=yZ he;cases hk;simp only[kg]at hf;split at hf
  ·rename_i hρ;rw[hρ,VR]at hx;subst hx;cases hf;exact same (by simp[convert,Zm hs,Zm hd,Zm hue,Conv.bytesToString];rfl) rfl rfl
  ·rename_i b o n es hρ;rw[hρ]at hx;split at hf
   case h_2=>cases hf
   rename_i l k hc;split at hf
   case h_2=>cases hf
   rename_i r hl;cases hf;obtain⟨hlen,TG,hone,RN⟩:=cM hr hx hc;obtain⟨vs,SE,RG⟩:=RN k (Zc _);rw[ZL Om]at RG;have hkn:k=n:=by
    unfold cellsIn at hc;simp only at hc;split at hc
    ·split at hc
     ·split at hc
      ·cases hc;rfl
      ·cases hc
     ·cases hc
    ·cases hc
   subst hkn;obtain⟨en,ca,cap,Sk,rfl,R4,Sm,hroom⟩:=hx;simp only[Builtin.firstCells,aa6]at SE;refine same (cv:=.string ⟨⟨r⟩⟩) ?_ rfl rfl;have hb:=wE (P:=P) (w:=w) RG hl ByteArray.empty;simp only[convert,Zo,Zm hs,Zm hd,Ze,Zm hue,Conv.bytesToString,SE];rw[<-Array.forIn_toList]
   erw [hb]
   simp
  ·cases hf
 ·cases hk
theorem wj:∀{l}{vs}{x v}{cx},VR m x cx->cK m l vs->iD pZ x l=some v->∃cv,(vs.foldlM (m:=Sem) Builtin.max2 cx).run P w=.ok cv w/\VR m v cv
 |[],vs,x,v,cx,hx,hl,hf=>by
  exact Jr
 |y::l,vs,x,v,cx,hx,hl,hf=>by
  obtain⟨cy,vs',rfl,hy,RJ⟩:=aR.1 hl;simp only[iD]at hf;split at hf
  case h_2=>cases hf
  rename_i z hz;unfold pZ at hz;split at hz
  case h_2=>cases hz
  rename_i k a k' b;split at hz
  case isFalse=>cases hz
  cases hz;rw[VR]at hx hy;subst hx;subst hy;obtain⟨cv,h1,h2⟩:=wj (x:=.int k (if b > a then b else a)) (cx:=.int k (if b > a then b else a)) rfl RJ hf;exact⟨cv,by simp only[List.foldlM_cons,Zo,Builtin.max2,ZF,Ze];exact h1,h2⟩
theorem wi:∀{l}{vs}{x v}{cx},VR m x cx->cK m l vs->iD pY x l=some v->∃cv,(vs.foldlM (m:=Sem) Builtin.min2 cx).run P w=.ok cv w/\VR m v cv
 |[],vs,x,v,cx,hx,hl,hf=>by
  exact Jr
 |y::l,vs,x,v,cx,hx,hl,hf=>by
  obtain⟨cy,vs',rfl,hy,RJ⟩:=aR.1 hl;simp only[iD]at hf;split at hf
  case h_2=>cases hf
  rename_i z hz;unfold pY at hz;split at hz
  case h_2=>cases hz
  rename_i k a k' b;split at hz
  case isFalse=>cases hz
  cases hz;rw[VR]at hx hy;subst hx;subst hy;obtain⟨cv,h1,h2⟩:=wi (x:=.int k (if b<a then b else a)) (cx:=.int k (if b<a then b else a)) rfl RJ hf;exact⟨cv,by simp only[List.foldlM_cons,Zo,Builtin.min2,ZF,Ze];exact h1,h2⟩
def BG{t e:TypeId}{i:TypeInfo}{n:Nat}{z:AV}{ps:Array (Nat×Operand)}{l:List (Nat×cV)}{σ:Operand->Value}(hs:dY P t=some (e,i))(hz:jy P e=some z)
  (hl:ps.toList.mapM (λp=>(cS p.2).map λy=>(p.1*i.size,y))=some l) (hspos:0<i.size) (hzs:z.cells.length=i.size) (h1:z.cells.all AV.one=true) (hn:n*i.size<=2^24)
  (hr:HR P m h w) (hρ:∀p∈ps.toList,∀y,cS p.2=some y->VR m (ρ y) (σ p.2)) {c:List AV}(hf:eV (dO n z.cells) (l.map λp=>(p.1,i.size,ρ p.2))=some c) (hc1:c.all AV.one=true) (hcl:c.length=n*i.size) (mu tl:Bool):
  ∃cv w' m',(Instr.buildSlice t n (ps.map λ(i,x)=>(i,σ x))).run P w=.ok cv w'/\VR m' (.slice h.length 0 n i.size) cv/\HR P m' (h++[.cells c mu tl]) w'/\Grow m h w m' (h++[.cells c mu tl]) w':=by
 have _:=h1;obtain⟨hu,hi⟩:=fB hs;obtain⟨cz,Uu,U5⟩:=jS hz w m;have hzc:=U5.cells;have eJ:cz.cells.size=z.cells.length:=by have:=hzc.length;simpa using this
 have hzero:∀(row:Array Value),row=(Array.range (n*cz.cells.size)).map (cz.cells[·% cz.cells.size]!)->cK m (dO n z.cells) row.toList:=by
  intro row hrow;have:=sL hzc Om n n (Zc _);rw[<-hrow,ZL]at this
  ·exact this
  ·rw[hrow];simp[eJ]
 have Yv:∀(qs:List (Nat×Operand)) (l:List (Nat×cV)),qs.mapM (λp=>(cS p.2).map λy=>(p.1*i.size,y))=some l->qs.length=l.length/\∀(j:Nat) p q,qs[j]? =some p->l[j]? =some q->q.1=p.1*i.size/\cS p.2=some q.2:=by
  intro qs
  induction qs with
  |nil=>intro l hl;simp at hl;subst hl;exact⟨rfl,λj p q hp=>by simp at hp⟩
  |cons p qs ih=>
   intro l hl;simp only[abm,aa5,abw]at hl;cases ho:cS p.2 with
   |none=>simp[ho]at hl
   |some y=>
    cases hr':qs.mapM (λp=>(cS p.2).map λy=>(p.1*i.size,y))with
    |none=>simp[ho,hr']at hl
    |some l'=>
     simp[ho,hr']at hl;subst hl;obtain⟨h2,h3⟩:=ih l' hr';refine⟨by simp[h2],λj a b ha hb=>?_⟩;cases j with
     |zero=>simp at ha hb;subst ha;subst hb;exact⟨rfl,ho⟩
     |succ j=>exact h3 j a b (by simpa using ha) (by simpa using hb)
 obtain⟨UQ,hpq⟩:=Yv _ _ hl;by_cases Wj:n*i.size=0
 ·have hnz:n=0:=by
   rcases Nat.mul_eq_zero.1 Wj with h|h
   ·exact h
   ·omega
  obtain⟨So,S2,SE⟩:=qA (m:=m) (λj=>some (j*i.size,i.size)) (ps.toList.map λp=>(p.1,σ p.2)) (l.map λp=>(p.1,i.size,ρ p.2)) (dO n z.cells) #[] c (by simp[UQ])
   (λj p q hp hq=>by
    simp only[aaf,Zq]at hp hq;obtain⟨p0,hp0,rfl⟩:=hp;obtain⟨q0,hq0,rfl⟩:=hq;obtain⟨h2,h3⟩:=hpq j p0 q0 hp0 hq0;exact⟨by simp[h2],hρ p0 (ZV hp0) _ h3⟩) (by subst hnz;simp[dO,bE]) hf
  obtain⟨m',h2,h3,h4⟩:=lL hr SE hc1 e mu tl;have Sy:=SE.length;refine⟨.slice (some ⟨w.heap.size,0,none⟩) n n,_,m',?_,⟨_,_,n,h2,rfl,Zc _,λ_=>rfl,by show 0+0+n*i.size<=So.toList.length;omega⟩,h3,h4⟩;have RT:¬(n*i.size > 2^24):=Om
  have RW:(sizeOf e).run P w=.ok i.size w:=b9 (by simp[dV,hi]) w;have e0:(Array.range 0).map (λx=>(#[] :Array Value)[x%(#[] :Array Value).size]!)=#[]:=Si
  simp only[Instr.buildSlice,Zo,Zm hu,Ze,RW,RT,Zi];simp only[Wj,Zk,Zo,Ze,ZF,e0];exact J5
 ·obtain⟨So,S2,SE⟩:=qA (m:=m) (λj=>some (j*i.size,i.size)) (ps.toList.map λp=>(p.1,σ p.2)) (l.map λp=>(p.1,i.size,ρ p.2)) (dO n z.cells) ((Array.range (n*i.size)).map (cz.cells[·% cz.cells.size]!)) c (by simp[UQ])
   (λj p q hp hq=>by
    simp only[aaf,Zq]at hp hq;obtain⟨p0,hp0,rfl⟩:=hp;obtain⟨q0,hq0,rfl⟩:=hq;obtain⟨h2,h3⟩:=hpq j p0 q0 hp0 hq0;exact⟨by simp[h2],hρ p0 (ZV hp0) _ h3⟩) (hzero _ (by rw[eJ,hzs])) hf
  obtain⟨m',h2,h3,h4⟩:=lL hr SE hc1 e mu tl;have Sy:=SE.length;refine⟨.slice (some ⟨w.heap.size,0,none⟩) n n,_,m',?_,⟨_,_,n,h2,rfl,Zc _,λ_=>rfl,by show 0+0+n*i.size<=So.toList.length;omega⟩,h3,h4⟩;have RT:¬(n*i.size > 2^24):=Om
  have RW:(sizeOf e).run P w=.ok i.size w:=b9 (by simp[dV,hi]) w;simp only[Instr.buildSlice,Zo,Zm hu,Ze,RW,RT,Zi,Wj,ZF,Uu];exact J5
def wA{op}{t:TypeId}{x y xs ys}(hm:P.eqGuardType P.depth t=false):(eqGuard op t x y (.agg xs) (.agg ys)).run P w=.ok () w:=by
 cases op<;>simp[eqGuard,run_program,hm]
def kF{op}{t:TypeId}{x y a b}(h1:∀l,a≠.agg l)(h2:a≠.nilIface):(eqGuard op t x y a b).run P w=.ok () w:=by
 cases op<;>cases a<;>first
  |rfl
  |exact absurd rfl h2
  |exact absurd rfl (h1 _)
def VR.KZ{x cx}(hx:VR m x cx)(h1:x.one=true):(∀l,cx≠.agg l)/\cx≠.nilIface:=by
 have hc:=hx.tX h1;refine⟨λl e=>?_,λe=>?_⟩
 ·subst e;cases hc
 ·subst e;cases x<;>simp[VR,AV.one]at hx h1
def DJ{t:TypeId}{e:TypeId}(hu:P.underlying t=some (.slice e)){x y cx cy b}(hx:VR m x cx)(hy:VR m y cy)(hb:O8 x y=some b)(d:Nat):
  (Op.equalIn (d+1) t cx cy).run P w=.ok b w/\(∀l,cx≠.agg l)/\cx≠.nilIface/\(binOp .eql t cx cy=do pure (.bool (<-Op.equal t cx cy)))/\(binOp .neq t cx cy=do pure (.bool (!(<-Op.equal t cx cy)))):=by
 unfold O8 at hb;split at hb
 ·rw[VR]at hx hy;subst hx;subst hy;cases hb;exact AO
 ·rw[VR]at hx;obtain⟨_,ca,cap,_,rfl,_⟩:=hy;subst hx;cases hb;exact AO
 ·rw[VR]at hy;obtain⟨_,ca,cap,_,rfl,_⟩:=hx;subst hy;cases hb;exact AO
 ·cases hb
def DK{t:TypeId}{e:TypeId}(hu:P.underlying t=some (.pointer e)){x y cx cy b}(hx:VR m x cx)(hy:VR m y cy)(hb:O9 x y=some b)(d:Nat):
  (Op.equalIn (d+1) t cx cy).run P w=.ok b w/\(∀l,cx≠.agg l)/\cx≠.nilIface/\(binOp .eql t cx cy=do pure (.bool (<-Op.equal t cx cy)))/\(binOp .neq t cx cy=do pure (.bool (!(<-Op.equal t cx cy)))):=by
 unfold O9 at hb;split at hb
 ·rw[VR]at hx hy;subst hx;subst hy;cases hb;exact AO
 ·rw[VR]at hx;obtain⟨_,_,rfl⟩:=hy;subst hx;cases hb;exact AO
 ·rw[VR]at hy;obtain⟨_,_,rfl⟩:=hx;subst hy;cases hb;exact AO
 ·cases hb
def DM{t:TypeId}{e f g}(hu:P.underlying t=some (.func e f g)){x y cx cy b}(hx:VR m x cx)(hy:VR m y cy)(hb:Pb x y=some b)(d:Nat):
  (Op.equalIn (d+1) t cx cy).run P w=.ok b w/\(∀l,cx≠.agg l)/\cx≠.nilIface/\(binOp .eql t cx cy=do pure (.bool (<-Op.equal t cx cy)))/\(binOp .neq t cx cy=do pure (.bool (!(<-Op.equal t cx cy)))):=by
 unfold Pb at hb;split at hb
 ·rw[VR]at hx hy;subst hx;subst hy;cases hb;exact AO
 ·rw[VR]at hx;obtain⟨_,_,_,rfl,_⟩:=hy;subst hx;cases hb;exact AO
 ·rw[VR]at hy;obtain⟨_,_,_,rfl,_⟩:=hx;subst hy;cases hb;exact AO
 ·cases hb
def DL{t:TypeId}{e f:TypeId}(hu:P.underlying t=some (.map e f)){x y cx cy b}(hx:VR m x cx)(hy:VR m y cy)(hb:Pa x y=some b)(d:Nat):
  (Op.equalIn (d+1) t cx cy).run P w=.ok b w/\(∀l,cx≠.agg l)/\cx≠.nilIface/\(binOp .eql t cx cy=do pure (.bool (<-Op.equal t cx cy)))/\(binOp .neq t cx cy=do pure (.bool (!(<-Op.equal t cx cy)))):=by
 unfold Pa at hb;split at hb
 ·rw[VR]at hx hy;subst hx;subst hy;cases hb;exact AO
 ·rw[VR]at hx;obtain⟨_,_,rfl⟩:=hy;subst hx;cases hb;exact AO
 ·rw[VR]at hy;obtain⟨_,_,rfl⟩:=hx;subst hy;cases hb;exact AO
 ·cases hb
def F1{t:TypeId}{neg k x y ox oy cx cy}(hk:Ib P neg t x y=some (.eqv neg k x y))(hx:VR m (ρ x) cx)(hy:VR m (ρ y) cy)(hf:dw (.eqv neg k x y) ρ h=some (v,h')):
  ∃cv,(do eqGuard (if neg then .neq else .eql) t ox oy cx cy;binOp (if neg then .neq else .eql) t cx cy:Sem Value).run P w=.ok cv w/\VR m v cv/\h' =h:=by
 simp only[dw]at hf;split at hf
 case h_2=>cases hf
 rename_i b hb;cases hf;have fin:(eqGuard (if neg then .neq else .eql) t ox oy cx cy).run P w=.ok () w->(Op.equalIn 10000 t cx cy).run P w=.ok b w->(binOp .eql t cx cy=do pure (.bool (<-Op.equal t cx cy)))->(binOp .neq t cx cy=do pure (.bool (!(<-Op.equal t cx cy))))->
   ∃cv,(do eqGuard (if neg then .neq else .eql) t ox oy cx cy;binOp (if neg then .neq else .eql) t cx cy:Sem Value).run P w=.ok cv w/\VR m (.bool (if neg then !b else b)) cv/\h=h:=by
  intro h1 h2 h3 h4;refine⟨.bool (if neg then !b else b),?_,rfl,rfl⟩;simp only[Zo,h1,Ze];cases neg
  ·simp only[ZS,Zi,h3,Zo,Op.equal,Op.maxDepth,h2,Ze,ZF]
  ·simp only[Zk,h4,Zo,Op.equal,Op.maxDepth,h2,Ze,ZF]
 unfold Ib at hk;split at hk<;>first
  |(cases hk;done)
  |skip
 ·rename_i hu;cases hk;have hb':cT .b (ρ x) (ρ y)=some b:=hb;have hone:(ρ x).one=true:=by unfold cT at hb';split at hb'<;>first|(cases hb';done)|simp_all [AV.one]
  obtain⟨n1,n2⟩:=hx.KZ hone;obtain⟨a,c,hxa,Tq⟩:∃a c,ρ x=.bool a/\ρ y=.bool c:=by unfold cT at hb';split at hb'<;>first|(cases hb';done)|simp_all
  rw[hxa,VR]at hx;rw[Tq,VR]at hy;subst hx;subst hy;refine fin (kF n1 n2) ?_ rfl rfl;exact qX (m:=m) (t:=t) (k:=.b) hu (x:=.bool a) (y:=.bool c) rfl rfl (by rw[<-hxa,<-Tq];exact hb') 9999
 ·rename_i fs hu;exact QB
 ·rename_i n e hu;exact QB
 ·rename_i e hu;cases hk;obtain⟨h1,h2,h3,h4,h5⟩:=DJ (w:=w) hu hx hy hb 9999;exact Dm
 ·rename_i e hu;cases hk;obtain⟨h1,h2,h3,h4,h5⟩:=DK (w:=w) hu hx hy hb 9999;exact Dm
 ·rename_i hu;cases hk;obtain⟨h1,h2,h3,h4,h5⟩:=DM (w:=w) hu hx hy hb 9999;exact Dm
 ·rename_i hu;cases hk;obtain⟨h1,h2,h3,h4,h5⟩:=DL (w:=w) hu hx hy hb 9999;exact Dm
end
def mM(k:o6)(ρ:cV->AV)(h:ah)(v:AV)(h':ah):Prop:=
 match k with
 |.call _ _=>False
 |.app es w x y=>wQ es w (ρ x) (ρ y) h v h'
 |.bg es n z ps=>∃c mu tl,eV (dO n z) (ps.map λp=>(p.1,es,ρ p.2))=some c/\c.all AV.one=true/\c.length=n*es/\v=.slice h.length 0 n es/\h' =h++[.cells c mu tl]
 |k=>dw k ρ h=some (v,h')
section
variable {P:Program}{m:bZ}{h h':ah}{w:World}{ρ:cV->AV}{v:AV}{σ:Operand->Value}
def fg.nD{r:Result Value}(hr:HR P m h w)(hx:∃cv,r=.ok cv w/\VR m v cv/\h' =h){R:Result Next}(hR:∀cv,r=.ok cv w->R=.ok (.value cv) w):fg P m h w v h' R:=by
 obtain⟨cv,h1,h2,rfl⟩:=hx;exact fg.same hr h2 (hR cv h1)
def fg.zw{r:Result Value}(hx:∃cv w' m',r=.ok cv w'/\VR m' v cv/\HR P m' h' w'/\Grow m h w m' h' w'){R:Result Next}(hR:∀cv w',r=.ok cv w'->R=.ok (.value cv) w'):fg P m h w v h' R:=by
 obtain⟨cv,w',m',h1,h2,h3,h4⟩:=hx;exact⟨cv,w',m',.inl (hR cv w' h1),h2,h3,h4⟩
def nS{l l'}(hl:yQ l=some l')(hρ:∀x∈l,∀x',cS x=some x'->VR m (ρ x') (σ x)):cK m (l'.map ρ) (l.map σ).toList:=by
 have key:∀(l:List Operand) (l':List cV),l.mapM cS=some l'->(∀x∈l,∀x',cS x=some x'->VR m (ρ x') (σ x))->cK m (l'.map ρ) (l.map σ):=by
  intro l
  induction l with
  |nil=>intro l' h _;simp at h;subst h;exact bE.2 rfl
  |cons x l ih=>
   intro l' h hρ;simp only[abm,aa5,abw]at h;cases hx:cS x with
   |none=>simp[hx]at h
   |some y=>
    cases hl:l.mapM cS with
    |none=>simp[hx,hl]at h
    |some l2=>
     simp[hx,hl]at h;subst h;exact aR.2 ⟨_,_,rfl,hρ x Si y hx,ih l2 hl (λx' RI=>hρ x' (by simp[RI]))⟩
 have:=key l.toList l' hl (λx hx=>hρ x (by simpa using hx))
 simpa using this
def rh{lo lo'}(hl:vz lo=some lo')(hρ:∀x∈lo,∀x',cS x=some x'->VR m (ρ x') (σ x)):
  oX m ρ lo' (lo.map σ):=by
 cases lo with
 |none=>simp[vz]at hl;subst hl;trivial
 |some x=>
  simp only[vz,Zq]at hl;obtain⟨y,hy,rfl⟩:=hl;exact hρ x rfl y hy
def KF{op}{t:TypeId}{x y ox oy cx cy}(hr:HR P m h w)(hx:VR m (ρ x) cx)(hy:VR m (ρ y) cy)(hf:dw (.bin op x y) ρ h=some (v,h')):
  ∃cv w' m',(do eqGuard op t ox oy cx cy;binOp op t cx cy:Sem Value).run P w=.ok cv w'/\VR m' v cv/\HR P m' h' w'/\Grow m h w m' h' w':=by
 simp only[dw]at hf;split at hf
 case h_2=>cases hf
 rename_i u hu;cases hf;have fin:∀{cv:Value},(eqGuard op t ox oy cx cy).run P w=.ok () w->(binOp op t cx cy).run P w=.ok cv w->VR m v cv->
   ∃cv w' m',(do eqGuard op t ox oy cx cy;binOp op t cx cy:Sem Value).run P w=.ok cv w'/\VR m' v cv/\HR P m' h w'/\Grow m h w m' h w':=by
  intro cv h1 h2 h3;exact⟨cv,w,m,by simp only[Zo,h1,Ze,h2],h3,hr,Grow.refl m h w hr.cL⟩
 unfold eI at hu;split at hu
 ·rename_i k a k' b SC Yf;rw[SC,VR]at hx;rw[Yf,VR]at hy;subst hx;subst hy;have hg:(eqGuard op t ox oy (.int k a) (.int k' b)).run P w=.ok () w:=kF (λl=>by simp) Si;split at hu
  ·rename_i hs;obtain⟨cv,h1,h2⟩:=xB (P:=P) (m:=m) (w:=w) (k':=k') hs hu t;exact fin hg h1 h2
  ·rename_i hs;split at hu
   case isFalse=>cases hu
   rename_i hk;subst hk;obtain⟨cv,h1,h2⟩:=xD (P:=P) (m:=m) (w:=w) (by simpa using hs) hu t;exact fin hg h1 h2
 ·rename_i a b SC Yf;rw[SC,VR]at hx;rw[Yf,VR]at hy;subst hx;subst hy;obtain⟨cv,h1,h2⟩:=xA (P:=P) (m:=m) (w:=w) hu t;exact fin (kF (λl=>by simp) Si) h1 h2
 ·cases hu
def sF{b ts l k S3}(hk:oa P b ts l=some k)(hargs:cK m (l.map ρ) S3.toList)(hr:HR P m h w)(hs:mM k ρ h v h')(T:TypeId)(cs:Array Bool):
  ∃cv w' m',(builtin b ts T cs S3).run P w=.ok (.value cv) w'/\VR m' v cv/\HR P m' h' w'/\Grow m h w m' h' w':=by
 have same:∀{cv:Value},(builtin b ts T cs S3).run P w=.ok (.value cv) w->VR m v cv->h' =h->∃cv w' m',(builtin b ts T cs S3).run P w=.ok (.value cv) w'/\VR m' v cv/\HR P m' h' w'/\Grow m h w m' h' w':=by
  intro cv h1 h2 h3;exact Jw
 have args1:∀{x:cV},cK m [ρ x] S3.toList->∃cx,S3=#[cx]/\VR m (ρ x) cx:=by
  intro x h1;obtain⟨cx,r,Xf,UN,U7⟩:=aR.1 h1;rw[bE]at U7;subst U7;exact⟨cx,by apply abq;rw[Xf],UN⟩
 have XY:∀{x y:cV},cK m [ρ x,ρ y] S3.toList->∃cx cy,S3=#[cx,cy]/\VR m (ρ x) cx/\VR m (ρ y) cy:=by
  intro x y h1;obtain⟨cx,r,Xf,UN,U7⟩:=aR.1 h1;obtain⟨cy,r',hcy,hvy,hr1⟩:=aR.1 U7;rw[bE]at hr1;subst hr1;subst hcy;exact⟨cx,cy,by apply abq;rw[Xf],UN,hvy⟩
 unfold oa at hk;split at hk
 ·
  rename_i x;obtain⟨cx,rfl,hx⟩:=args1 hargs;have ue:∀(lk:LK) (t0:TypeId) (d:TypeDesc),ts[0]? =some t0->P.underlying t0=some d->(match lk with|.sl=>∃e,d=.slice e|.st=>d=.string|.mp=>∃a b,d=.map a b)->dw (.len lk x) ρ h=some (v,h')->
    ∃cv w' m',(builtin .len ts T cs #[cx]).run P w=.ok (.value cv) w'/\VR m' v cv/\HR P m' h' w'/\Grow m h w m' h' w':=by
   intro lk t0 d TZ hu hd RC;simp only[dw]at RC;split at RC
   case h_2=>cases RC
   rename_i n hn;cases RC;have go:(Builtin.len_ ts T #[cx]).run P w=.ok (.int .i64 n) w:=by
    unfold zU at hn;split at hn
    ·rename_i s hρ;rw[hρ,VR]at hx;subst hx;split at hn
     case isFalse=>cases hn
     rename_i T4;subst T4;cases hn;cases hd;have:(⟨⟨s⟩⟩:ByteArray).size=s.length:=rfl;simp[Builtin.len_,TZ,Zm hu,goInt,this]
    ·rename_i b o n' es hρ;rw[hρ]at hx;obtain⟨_,ca,cap,_,rfl,_⟩:=hx;exact z105
    ·rename_i hρ;rw[hρ,VR]at hx;subst hx;exact z105
    ·rename_i r hρ;rw[hρ]at hx;obtain⟨e,he,rfl⟩:=hx;split at hn
     case h_2=>cases hn
     rename_i es hb;split at hn
     case isFalse=>cases hn
     rename_i T4;subst T4;cases hn;obtain⟨a,b,rfl⟩:=hd;obtain⟨_,TU,clock,hheap,hlen,_⟩:=hr.dR r e _ he hb;simp[Builtin.len_,TZ,Zm hu,goInt,kv hheap rfl,hlen]
    ·rename_i hρ;rw[hρ,VR]at hx;subst hx;split at hn
     case isFalse=>cases hn
     rename_i T4;subst T4;cases hn;obtain⟨a,b,rfl⟩:=hd;simp[Builtin.len_,TZ,Zm hu,goInt]
    ·cases hn
   exact⟨.int .i64 n,w,m,by simp only[builtin,Zo,go,Ze,ZF],rfl,hr,Grow.refl m h w hr.cL⟩
  split at hk
  ·rename_i e hd;cases hk;obtain⟨t0,TZ,UE⟩:=Z5.1 hd;exact ue .sl t0 _ TZ UE ⟨e,rfl⟩ hs
  ·rename_i hd;cases hk;obtain⟨t0,TZ,UE⟩:=Z5.1 hd;exact ue .st t0 _ TZ UE rfl hs
  ·rename_i a b hd;cases hk;obtain⟨t0,TZ,UE⟩:=Z5.1 hd;exact ue .mp t0 _ TZ UE ⟨a,b,rfl⟩ hs
  ·rename_i n e hd;cases hk;obtain⟨t0,TZ,UE⟩:=Z5.1 hd;have RC:dw (.zT n) ρ h=some (v,h'):=hs;simp only[dw,Zy,abh]at RC;obtain⟨rfl,rfl⟩:=RC;exact same (cv:=.int .i64 n) (by simp[builtin,Builtin.len_,TZ,Zm UE,goInt]) rfl rfl
  ·cases hk
 ·
  rename_i x y;obtain⟨cx,cy,rfl,hx,hy⟩:=XY hargs;have appF:∀(e:TypeId) (i:TypeInfo) (d:TypeDesc),(ts[0]?).bind (dY P)=some (e,i)->(ts[1]?).bind P.underlying=some d->(∀k,d≠.int k)->
    (if 0<i.size/\0<i.bytes/\i.bytes<=2^20 then(i.zero.bind (mA 4)).bind λz=>if z.cells.length=i.size then some (o6.app i.size i.bytes x y)else none else none)=some k->
    ∃cv w' m',(builtin .append ts T cs #[cx,cy]).run P w=.ok (.value cv) w'/\VR m' v cv/\HR P m' h' w'/\Grow m h w m' h' w':=by
   intro e i d h0 h1 hd hk;obtain⟨sT,hts0,hsl⟩:=Z5.1 h0;obtain⟨xT,hts1,hud⟩:=Z5.1 h1;split at hk
   case isFalse=>cases hk
   rename_i hc;obtain⟨c1,c2,c3⟩:=hc;obtain⟨z,hz,hk⟩:=Z5.1 hk;split at hk
   case isFalse=>cases hk
   rename_i hzl;cases hk;obtain⟨cv,w',m',h2,h3,h4,h5⟩:=KG (w:=w) hts0 hts1 hsl c1 c2 c3 hud hd hz hzl hr hx hy hs T;exact⟨cv,w',m',by simp only[builtin,Zo,h2,Ze,ZF],h3,h4,h5⟩
  split at hk
  ·rename_i e i e2 h0 h1;exact appF e i _ h0 h1 (λk=>by simp) hk
  ·rename_i e i h0 h1;exact appF e i _ h0 h1 (λk=>by simp) hk
  ·cases hk
 ·
  rename_i x y;obtain⟨cx,cy,rfl,hx,hy⟩:=XY hargs;split at hk
  case h_2=>cases hk
  rename_i e i h0;split at hk
  case isFalse=>cases hk
  rename_i hpos;cases hk;obtain⟨dT,hts0,hsl⟩:=Z5.1 h0;obtain⟨cv,w',m',h2,h3,h4,h5⟩:=KE (w:=w) hts0 hsl hpos hr hx hy hs T;exact⟨cv,w',m',by simp only[builtin,Zo,h2,Ze,ZF],h3,h4,h5⟩
 ·
  rename_i x l;cases hk;have RC:dw (.mx x l) ρ h=some (v,h'):=hs;simp only[dw]at RC;split at RC
  case h_2=>cases RC
  rename_i u hu;cases RC;obtain⟨cx,r,Xf,UN,RG⟩:=aR.1 hargs;obtain⟨cv,h1,h2⟩:=wj (P:=P) (w:=w) UN RG hu;exact same (by simp only[builtin,Builtin.max_,Xf,Zo,h1,Ze,ZF]) h2 rfl
 ·
  rename_i x l;cases hk;have RC:dw (.mn x l) ρ h=some (v,h'):=hs;simp only[dw]at RC;split at RC
  case h_2=>cases RC
  rename_i u hu;cases RC;obtain⟨cx,r,Xf,UN,RG⟩:=aR.1 hargs;obtain⟨cv,h1,h2⟩:=wi (P:=P) (w:=w) UN RG hu;exact same (by simp only[builtin,Builtin.min_,Xf,Zo,h1,Ze,ZF]) h2 rfl
 ·cases hk
def w8{o:Oper}{k:o6}(hc:eA P o=some k)(hρ:∀x∈o.op.operands,∀x',cS x=some x'->VR m (ρ x') (σ x))(hcst:∀z,ρ (.c z)=z)(hr:HR P m h w)(hs:mM k ρ h v h'):
  fg P m h w v h' ((execOp σ o).run P w):=by
 unfold eA at hc;cases RE:o.op with
 |move x=>
  exact z49
 |assign x=>
  exact z49
 |pick c a b=>
  simp only[RE]at hc;split at hc
  case h_2=>cases hc
  rename_i c' a' b' Te Xh hb';cases hc;have RC:dw (.pick c' a' b') ρ h=some (v,h'):=hs;simp only[dw]at RC;split at RC
  case h_2=>cases RC
  rename_i t ht;cases RC;have h1:=hρ c (by simp[RE,Op.operands]) c' Te;rw[ht,VR]at h1;refine fg.same (cv:=if t then σ a else σ b) hr ?_ (by simp[execOp,RE,h1,asBool]);cases t
  ·exact hρ b (by simp[RE,Op.operands]) b' hb'
  ·exact hρ a (by simp[RE,Op.operands]) a' Xh
 |alloc e=>
  simp only[RE]at hc;split at hc
  case h_2=>cases hc
  rename_i z hz;split at hc
  case isFalse=>cases hc
  rename_i h1;cases hc;have RC:dw (.box (.c z)) ρ h=some (v,h'):=hs;simp only[dw,hcst,h1,Zk,Zy,abh]at RC;obtain⟨rfl,rfl⟩:=RC;obtain⟨cz,Uu,U5⟩:=jS hz w m;obtain⟨m',h2,h3,h4,h5⟩:=tg hr U5 h1 e true false;exact⟨_,_,m',.inl (by simp only[execOp,RE,Instr.alloc,Zo,Uu,Ze,h2,ZF]),h3,h4,h5⟩
 |box e x=>
  simp only[RE,Zq]at hc;obtain⟨x',RI,rfl⟩:=hc;have RC:dw (.box x') ρ h=some (v,h'):=hs;simp only[dw]at RC;split at RC
  case isFalse=>cases RC
  rename_i h1;cases RC;obtain⟨m',h2,h3,h4,h5⟩:=tg hr (hρ x (by simp[RE,Op.operands]) x' RI) h1 e true false;exact⟨_,_,m',.inl (by simp only[execOp,RE,Instr.box,Zo,Ze,h2,ZF]),h3,h4,h5⟩
 |build t ps=>
  simp only[RE]at hc;split at hc
  case h_2=>cases hc
  rename_i z l hz hl;split at hc
  case isFalse=>cases hc
  rename_i hp;cases hc;have RC:dw (.build z.cells l) ρ h=some (v,h'):=hs;exact fg.nD hr (DH (w:=w) (σ:=σ) hz hl hp (λp hp y hy=>hρ p.2 (by simp only[RE,Op.operands];simp only[List.mem_toArray,ZB];exact⟨p,hp,rfl⟩) y hy) RC) (λcv h=>by simp[execOp,RE,h])
 |buildSlice t n ps=>
  simp only[RE]at hc;split at hc
  case h_2=>cases hc
  rename_i e i hsl;split at hc
  case h_2=>cases hc
  rename_i z l hz hl;split at hc
  case isFalse=>cases hc
  rename_i RZ;obtain⟨h1,h2,h3,h4⟩:=RZ;cases hc;obtain⟨c,mu,tl,S2,hc1,hcl,rfl,rfl⟩:=hs;exact fg.zw (BG (w:=w) (σ:=σ) hsl hz hl h1 h2 h3 h4 hr (λp hp y hy=>hρ p.2 (by simp only[RE,Op.operands];simp only[List.mem_toArray,ZB];exact⟨p,hp,rfl⟩) y hy) S2 hc1 hcl mu tl) (λcv w' h=>by simp[execOp,RE,h])
 |load t a=>
  simp only[RE]at hc;split at hc
  case h_2=>cases hc
  rename_i n a' hn Xh;cases hc;exact fg.nD hr (BF hn hr (hρ a (by simp[RE,Op.operands]) a' Xh) hs) (λcv h=>by simp[execOp,RE,h])
 |store t a x=>
  simp only[RE]at hc;split at hc
  case h_2=>cases hc
  rename_i n a' x' hn Xh RI;cases hc;obtain⟨w',h1,rfl,h2,h3⟩:=DE (w:=w) hn hr (hρ a (by simp[RE,Op.operands]) a' Xh) (hρ x (by simp[RE,Op.operands]) x' RI) hs;exact⟨undef,w',m,.inr ⟨by simp[execOp,RE,h1],rfl⟩,jT m,h2,h3⟩
 |nilCheck x=>
  simp only[RE,Zq]at hc;obtain⟨x',RI,rfl⟩:=hc;have RC:dw (.bQ x') ρ h=some (v,h'):=hs;have h1:=hρ x (by simp[RE,Op.operands]) x' RI;simp only[dw]at RC;split at RC
  ·rename_i b o hv;cases RC;rw[hv]at h1;have h1':=h1;obtain⟨e,he,h2⟩:=h1;exact fg.same hr h1' (by simp[execOp,RE,h2])
  ·rename_i f a c hv;exact M5
  ·rename_i f a c hv;cases RC;rw[hv]at h1;have h1':=h1;obtain⟨f',a',c',h2,h3,_⟩:=h1;obtain⟨e,he,rfl⟩:=h3;exact fg.same hr h1' (by simp[execOp,RE,h2])
  ·rename_i t' n a c hv;exact M5
  ·rename_i t' p f q a c hv;exact M5
  ·cases RC
 |binOp op t x y ty=>
  simp only[RE]at hc;split at hc
  case h_2=>cases hc
  rename_i x' y' RI hy';have hx:=hρ x (by simp[RE,Op.operands]) x' RI;have hy:=hρ y (by simp[RE,Op.operands]) y' hy';have bin:∀{op':BinOp},o.op=.binOp op' t x y ty->k=.bin op' x' y'->fg P m h w v h' ((execOp σ o).run P w):=by
   intro op' ho hk;subst hk;exact fg.zw (KF (op:=op') (t:=t) (ox:=x) (oy:=y) hr hx hy hs) (λcv w' h=>by simp only[execOp,ho];rw[Zo,h];rfl)
  have eqv:∀(neg:Bool),o.op=.binOp (if neg then .neq else .eql) t x y ty->Ib P neg t x' y' =some k->fg P m h w v h' ((execOp σ o).run P w):=by
   intro neg ho hk;have hk0:=hk;unfold Ib at hk;split at hk
   ·cases hk;exact bin ho rfl
   ·cases hk;exact bin ho rfl
   ·cases hk;exact bin ho rfl
   ·exact Jq
   ·exact Qp
   ·exact Qp
   ·exact Jq
   ·exact Jq
   ·exact Jq
   ·exact Jq
   ·cases hk
  split at hc
  ·exact eqv false RE hc
  ·exact eqv true RE hc
  ·cases hc;exact bin RE rfl
 |unOp op t x=>
  simp only[RE,Zq]at hc;obtain⟨x',RI,rfl⟩:=hc;have RC:dw (.un op x') ρ h=some (v,h'):=hs;simp only[dw]at RC;split at RC
  case h_2=>cases RC
  rename_i u hu;cases RC;obtain⟨cv,h1,h2⟩:=DI (P:=P) (w:=w) (hρ x (by simp[RE,Op.operands]) x' RI) hu;exact fg.same hr h2 (by simp[execOp,RE,h1])
 |convert s d x=>
  simp only[RE]at hc;split at hc
  case h_2=>cases hc
  rename_i ck x' Ta RI;cases hc;exact fg.zw (Hh Ta hr (hρ x (by simp[RE,Op.operands]) x' RI) hs) (λcv w' h=>by simp[execOp,RE,h])
 |makeInterface u x=>
  simp only[RE]at hc;split at hc
  ·cases hc
  ·rename_i d x' hni hd RI;cases hc;have RC:dw (.conv (.uM u) x') ρ h=some (v,h'):=hs;simp only[dw,kg,Zy,abh]at RC;obtain⟨rfl,rfl⟩:=RC;have UM:=hρ x (by simp[RE,Op.operands]) x' RI;refine fg.same (cv:=.iface u (σ x)) hr ⟨_,rfl,UM⟩ ?_;simp only[execOp,RE,Instr.makeInterface,Zo,Zm hd,Ze];cases d<;>first|rfl|exact absurd rfl (hni _)
  ·cases hc
 |makeFunc fn a c=>
  simp only[RE]at hc;split at hc
  case isFalse=>cases hc
  rename_i hfn;split at hc
  case h_2=>cases hc
  rename_i a' c' Xh Te;cases hc;have RC:dw (.ud fn a' c') ρ h=some (v,h'):=hs;simp only[dw,Zy,abh]at RC;obtain⟨rfl,rfl⟩:=RC;have h1:=nS (m:=m) (ρ:=ρ) (σ:=σ) Xh (λx hx=>hρ x (by simp only[RE,Op.operands];exact Array.mem_append.2 (.inl hx)));have h2:=nS (m:=m) (ρ:=ρ) (σ:=σ) Te (λx hx=>hρ x (by simp only[RE,Op.operands];exact Array.mem_append.2 (.inr hx)));refine fg.same (cv:=.func fn (a.map σ) (c.map σ)) hr ⟨fn,(a.map σ).toList,(c.map σ).toList,rfl,?_,h1,h2⟩ (by simp[execOp,RE,Instr.makeFunc]);cases fn<;>first
   |rfl
   |(cases hfn;done)
 |makeMap t r=>
  simp only[RE]at hc;cases r with
  |some _=>simp at hc
  |none=>
   simp only[Zy]at hc;subst hc;have RC:dw .nV ρ h=some (v,h'):=hs;simp only[dw,Zy,abh]at RC;obtain⟨rfl,rfl⟩:=RC;have XM:=ki hr (.map #[] 0) (.bj []) ⟨w.heap.size,0,0,true⟩ rfl rfl (λm' _=>⟨rfl,#[],0,World.alloc_heap_new w _,rfl,λi p hp=>by simp at hp⟩);exact⟨.map (some w.heap.size),_,_,.inl (by simp[execOp,RE,Instr.makeMap]),⟨⟨w.heap.size,0,0,true⟩,by simp[bZ.add],rfl⟩,XM.1,XM.2⟩
 |makeSlice t l c=>
  simp only[RE]at hc;split at hc
  case h_2=>cases hc
  rename_i e i l' c' hsl RJ Te;split at hc
  case h_2=>cases hc
  rename_i z hz;split at hc
  case isFalse=>cases hc
  rename_i RZ;obtain⟨h1,h2,h3⟩:=RZ;cases hc;exact fg.zw (Hc hsl hz h1 h2 h3 hr (hρ l (by simp[RE,Op.operands]) l' RJ) (hρ c (by simp[RE,Op.operands]) c' Te) hs) (λcv w' h=>by simp[execOp,RE,h])
 |slice t x lo hi mx=>
  simp only[RE]at hc;cases mx with
  |some _=>simp at hc
  |none=>
   simp only at hc;split at hc
   case h_2=>cases hc
   rename_i x' lo' hi' RI hlo' hhi';have hx:=hρ x (by simp[RE,Op.operands]) x' RI;have hlo:=rh (m:=m) (ρ:=ρ) (σ:=σ) hlo' (λy hy=>hρ y (by simp only[RE,Op.operands];cases hy;simp));have hhi:=rh (m:=m) (ρ:=ρ) (σ:=σ) hhi' (λy hy=>hρ y (by simp only[RE,Op.operands];cases hy;simp));split at hc
   ·rename_i hu;cases hc;exact fg.nD hr (KA hu hx hlo hhi hs) (λcv h=>by simp only[execOp,RE,abg];rw[Zo,h];rfl)
   ·rename_i e hu;simp only[Zq]at hc;obtain⟨n,hn,rfl⟩:=hc;exact fg.nD hr (NC hu hn hx hlo hhi hs) (λcv h=>by simp only[execOp,RE,abg];rw[Zo,h];rfl)
   ·rename_i n e hu;simp only[Zq]at hc;obtain⟨es,hes,rfl⟩:=hc;exact fg.nD hr (KB hu hes hr hx hlo hhi hs) (λcv h=>by simp only[execOp,RE,abg];rw[Zo,h];rfl)
   ·cases hc
 |fieldAddr t x i=>
  simp only[RE]at hc;split at hc
  case h_2=>cases hc
  rename_i f x' hf RI;split at hc
  case h_2=>cases hc
  rename_i n hn;split at hc
  case isFalse=>cases hc
  rename_i hpos;cases hc;exact fg.nD hr (Hg hf hn hpos (hρ x (by simp[RE,Op.operands]) x' RI) hs) (λcv h=>by simp[execOp,RE,h])
 |indexAddr t x i=>
  simp only[RE]at hc;split at hc
  case h_2=>cases hc
  rename_i x' i' RI hi';have hx:=hρ x (by simp[RE,Op.operands]) x' RI;have hi:=hρ i (by simp[RE,Op.operands]) i' hi';split at hc
  ·rename_i e hu;simp only[Zq]at hc;obtain⟨n,hn,rfl⟩:=hc;exact fg.nD hr (He hu hn hx hi hs) (λcv h=>by simp[execOp,RE,h])
  ·rename_i len e hu;simp only[Zq]at hc;obtain⟨n,hn,rfl⟩:=hc;exact fg.nD hr (Hf hu hn hx hi hs) (λcv h=>by simp[execOp,RE,h])
  ·cases hc
 |field t x i=>
  simp only[RE]at hc;split at hc
  case h_2=>cases hc
  rename_i f x' hf RI;simp only[Zq]at hc;obtain⟨n,hn,rfl⟩:=hc;exact fg.nD hr (DF hf hn (hρ x (by simp[RE,Op.operands]) x' RI) hs) (λcv h=>by simp[execOp,RE,h])
 |index t x i=>
  simp only[RE]at hc;split at hc
  case h_2=>cases hc
  rename_i x' i' RI hi';have hx:=hρ x (by simp[RE,Op.operands]) x' RI;have hi:=hρ i (by simp[RE,Op.operands]) i' hi';split at hc
  ·rename_i hu;cases hc;exact fg.nD hr (KC hu hx hi hs) (λcv h=>by simp[execOp,RE,h])
  ·rename_i len e hu;split at hc
   case h_2=>cases hc
   rename_i n q hn hq;cases hc;exact fg.nD hr (KD hu hn hq hx hi hs) (λcv h=>by simp[execOp,RE,h])
  ·cases hc
 |lookup t x i ok=>
  simp only[RE]at hc;split at hc
  case h_2=>cases hc
  rename_i kt e x' i' hu RI hi';split at hc
  case h_2=>cases hc
  rename_i kk z hkk hz;cases hc;exact fg.nD hr (Hd hu hkk hz hr (hρ x (by simp[RE,Op.operands]) x' RI) (hρ i (by simp[RE,Op.operands]) i' hi') hs) (λcv h=>by simp[execOp,RE,h])
 |mapUpdate t x i y=>
  exact Qx
 |insert t x i y=>
  exact Qx
 |range t x=>
  simp only[RE]at hc;split at hc
  case h_2=>cases hc
  rename_i hu;simp only[Zq]at hc;obtain⟨x',RI,rfl⟩:=hc;exact fg.zw (G9 hu hr (hρ x (by simp[RE,Op.operands]) x' RI) hs) (λcv w' h=>by simp[execOp,RE,h])
 |next x isS=>
  simp only[RE]at hc;cases isS with
  |false=>simp at hc
  |true=>
   simp only[Zq]at hc;obtain⟨x',RI,rfl⟩:=hc;exact fg.zw (DG (t:=o.type) hr (hρ x (by simp[RE,Op.operands]) x' RI) hs) (λcv w' h=>by simp[execOp,RE,h])
 |extract x i=>
  simp only[RE,Zq]at hc;obtain⟨x',RI,rfl⟩:=hc;have RC:dw (.ext x' i) ρ h=some (v,h'):=hs;simp only[dw]at RC;split at RC
  case h_2=>cases RC
  rename_i l hl;split at RC
  case h_2=>cases RC
  rename_i u hu;cases RC;have h1:=hρ x (by simp[RE,Op.operands]) x' RI;rw[hl]at h1;obtain⟨l',h2,h3⟩:=h1;obtain⟨cv,TN,RG⟩:=h3.get hu;exact fg.same hr RG (by simp[execOp,RE,Instr.extract,h2,TN])
 |call c=>
  simp only[RE]at hc;split at hc
  case h_2=>cases hc
  rename_i l hl;have hargs:=nS (m:=m) (ρ:=ρ) (σ:=σ) hl (λx hx=>hρ x (by simp only[RE,Op.operands,Call.operands];exact Array.mem_append.2 (.inr hx)));split at hc
  ·exact z156
  ·exact z156
  ·rename_i b hb;obtain⟨cv,w',m',h1,h2,h3,h4⟩:=sF (w:=w) hc hargs hr hs o.type (c.args.map λ|.const _=>true|_=>false);refine⟨cv,w',m',.inl ?_,h2,h3,h4⟩;simp only[execOp,RE,resolve,hb,Zo,ZF,Ze,invoke];exact h1
 |_=>simp[RE]at hc
end
def Rel(P:Program)(m:bZ)(h:ah)(w:World)(v:AV)(h':ah)(e:Ending)(w':World):Prop:=
 ∃cv m',e=.returned cv/\VR m' v cv/\HR P m' h' w'/\Grow m h w m' h' w'
def lM(P:Program)(f:FuncId)(args:List AV)(h:ah)(v:AV)(h':ah):Prop:=
 ∀(m:bZ) (w:World) (vs:List Value),HR P m h w->cK m args vs->Calls P f ⟨vs⟩ w (Rel P m h w v h')
def Df(P:Program)(R:Ending->World->Prop):Result Next->Prop
 |.ok (.value cv) w'=>R (.returned cv) w'
 |.ok (.enter f args) w'=>CallsIn Fence.wide 0 P f args w' R
 |.ok (.round l f tmps asg body) w'=>RoundIn Fence.wide 0 P l f tmps asg body w' R
 |_=>False
def fw(P:Program)(fv:AV)(args:List AV)(h:ah)(v:AV)(h':ah):Prop:=
 ∀(m:bZ) (w:World) (cv:Value) (vs:List Value),HR P m h w->VR m fv cv->cK m args vs->
  ∃d,(∀w,(Deferred.ofValue cv ⟨vs⟩).run P w=.ok d w)/\Df P (Rel P m h w v h') ((invoke d.target d.args).run P w)
def pO(P:Program)(k:o6)(ρ:cV->AV)(h:ah)(v:AV)(h':ah):Prop:=
 match k with
 |.call f args=>fw P (ρ f) (args.map ρ) h v h'
 |k=>mM k ρ h v h'
abbrev Fd(ro:Option Nat):Fence:={Fence.wide with round:=ro}
def kB{P f fn args w}(hf:P.funcs[f]? =some fn)(hb:fn.body.isSome=true)(hn:(fn.name == "runtime.NumGoroutine")=false):
  (callFunc f args).run P w=.ok (.enter f args) w:=by
 have hb':fn.body≠none:=by cases h:fn.body<;>simp_all
 have Wk:fn.name≠ "runtime.NumGoroutine":=by simpa using hn
 simp[callFunc,Zo,run_program,hf,Wk,hb',Result.andThen]
section
variable {P:Program}{m:bZ}{h h':ah}{w:World}{v:AV}
def qM{ro:Option Nat}{o:Oper}{a:Act}{next:Act->World->Prop}{Q:Exit->Act->World->Prop}{r:Result Next}
  (hr:Df P (Rel P m h w v h') r) (hn:∀cv m' w',VR m' v cv->HR P m' h' w'->Grow m h w m' h' w'->next (a.put o.dst cv) w'):o.uponIn (Fd ro) 0 P a next Q r:=by
 cases r with
 |halt x w'=>exact hr.elim
 |ok x w'=>
  cases x<;>first
   |exact hr.elim
   |skip
  case value cv=>
   obtain⟨cv',m',he,h1,h2,h3⟩:=hr;cases he;exact hn cv m' w' h1 h2 h3
  case enter f args=>
   rw[Oper.uponIn_enter];refine⟨λhd=>by simp[Fd,Fence.wide]at hd,CallsIn.mono (F:=Fd ro) (show CallsIn (Fd ro) (0-1) P f args w' (Rel P m h w v h')from hr) λe w'' he=>?_⟩;exact JI
  case round l f tmps asg body=>
   rw[Oper.uponIn_round];refine⟨λhd=>by simp[Fd,Fence.wide]at hd,RoundIn.mono (F:=Fd ro) (show RoundIn (Fd ro) (0-1) P l f tmps asg body w' (Rel P m h w v h')from hr) λe w'' he=>?_⟩;exact JI
def vA{o:Oper}{k:o6}{ρ:cV->AV}(hc:eA P o=some k){a:Act}(hρ:∀x∈o.op.operands,∀x',cS x=some x'->VR m (ρ x') (a.eval x))(hcst:∀z,ρ (.c z)=z)
  (hr:HR P m h w) (hs:pO P k ρ h v h') (ro:Option Nat) (next:Act->World->Prop) (Q:Exit->Act->World->Prop)
  (hn:∀cv m' w',VR m' v cv->HR P m' h' w'->Grow m h w m' h' w'->next (a.put o.dst cv) w'):o.wpIn (Fd ro) 0 P a w next Q:=by
 refine⟨λ_ _=>trivial,?_⟩;have hdef:∀c,o.op≠.defer c:=by
  intro c RE;simp[eA,RE]at hc
 rw[Oper.semAt_eq _ _ _ hdef];by_cases Ua:∃f args,k=.call f args
 ·obtain⟨f,args,rfl⟩:=Ua;have RC:fw P (ρ f) (args.map ρ) h v h':=hs;cases RE:o.op with
  |call c=>
   have Te:=hc;simp only[eA,RE]at Te;split at Te
   case h_2=>cases Te
   rename_i l hl;have hargs:=nS (m:=m) (ρ:=ρ) (σ:=a.eval) hl (λx hx=>hρ x (by simp only[RE,Op.operands,Call.operands];exact Array.mem_append.2 (.inr hx)));split at Te
   ·rename_i g hg;simp only[Zq]at Te;obtain⟨g',R2,he⟩:=Te;cases he;have hf:=hρ g (by simp[RE,Op.operands,Call.operands,hg]) _ R2;obtain⟨d,hd,haf⟩:=RC m w _ _ hr hf hargs;refine qM (m:=m) (h:=h) (w:=w) (v:=v) (h':=h') ?_ hn;simp only[execOp,RE,resolve,hg,Zo];have Sd:(Deferred.ofValue (a.eval g) (c.args.map a.eval)).run P w=.ok d w:=hd w;rw[Sd];exact haf
   ·rename_i r name hg;simp only[Zq]at Te;obtain⟨r',hr',he⟩:=Te;cases he;have hrv:=hρ r (by simp[RE,Op.operands,Call.operands,hg]) _ hr';have hf:VR m (ρ (.c (.func (.method name) [] []))) (.func (.method name) #[] #[]):=by
     rw[hcst,VR];exact⟨_,[],[],rfl,rfl,rfl,rfl⟩
    obtain⟨d,hd,haf⟩:=RC m w _ (a.eval r:: (c.args.map a.eval).toList) hr hf (aR.2 ⟨_,_,rfl,hrv,hargs⟩);refine qM (m:=m) (h:=h) (w:=w) (v:=v) (h':=h') ?_ hn;simp only[execOp,RE,resolve,hg,Zo];have Sd:=hd w;have:(#[]++(⟨a.eval r:: (c.args.map a.eval).toList⟩:Array Value))=#[a.eval r]++c.args.map a.eval:=by
     apply abq;simp
    simp only[Deferred.ofValue,this]at Sd;cases Sd;exact haf
   ·rename_i b hb;exfalso;unfold oa at Te
    repeat' split at Te
    all_goals first|(cases Te;done)|(simp only[Z5]at Te;obtain⟨z,_,hz⟩:=Te;split at hz<;>cases hz)
  |makeMap t r=>cases r<;>simp[eA,RE]at hc
  |next x b=>
   cases b
   ·simp[eA,RE]at hc
   ·simp[eA,RE,Zq]at hc
  |slice t x lo hi mx=>
   cases mx with
   |some _=>simp[eA,RE]at hc
   |none=>
    exfalso;simp only[eA,RE]at hc
    repeat' split at hc
    all_goals first
     |(cases hc;done)
     |(simp[Zq]at hc;done)
  |_=>
   exfalso;simp only[eA,RE]at hc
   repeat' split at hc
   all_goals first
    |(cases hc;done)
    |(simp[Zq,Z5]at hc;done)
    |(unfold Ib at hc;repeat' split at hc;all_goals first|(cases hc;done)|(simp[Zq]at hc;done))
 ·have RC:mM k ρ h v h':=by
   cases k<;>first|exact hs|exact absurd ⟨_,_,rfl⟩ Ua
  obtain⟨cv,w',m',he,h1,h2,h3⟩:=w8 (w:=w) hc hρ hcst hr RC;rcases he with he|⟨he,rfl⟩
  ·rw[he];exact hn cv m' w' h1 h2 h3
  ·rw[he];exact hn undef m' w' h1 h2 h3
def GV(P:Program)(m:bZ):Prop:=∀g,g<P.globals.size->∃e,m g=some e/\e.cb=g/\e.d=0
def HR.gv(hr:HR P m h w):GV P m:=λg hg=>by obtain⟨e,h1,h2,h3,_⟩:=hr.ga g hg;exact⟨e,h1,h2,h3⟩
def y5(hg:GV P m){ts:TS}{a:Act}{x:Operand}{x':cV}(hx:cS x=some x')(hok:MQ P x=true)(ht:∀t,x=.tmp t->VR m (ts.getD t ay) (a.tmps.getD t undef)):VR m (val ts x') (a.eval x):=by
 cases x with
 |tmp t=>cases hx;exact ht t rfl
 |const c=>
  simp only[cS,Zq]at hx;obtain⟨y,hy,rfl⟩:=hx;exact qD m 4 _ _ hy
 |global g=>
  cases hx;simp only[MQ,ZO]at hok;obtain⟨e,he,hcb,hd⟩:=hg g hok;exact⟨e,he,by rw[hcb,hd];rfl⟩
 |func f=>cases hx;exact⟨.func f,[],[],rfl,rfl,rfl,rfl⟩
def nK{ts:TS}{vs:Array Value}(h:cK m ts vs.toList)(t:Nat):VR m (ts.getD t ay) (vs.getD t undef):=by
 have hl:=h.length;by_cases ht:t<ts.length
 ·have hx:ts[t]? =some ts[t]:=YZ ht;obtain⟨y,hy,hr⟩:=h.get hx;have e1:ts.getD t ay=ts[t]:=by simp[List.getD,hx]
  have e2:vs.getD t undef=y:=by
   simp only[aap]at hy;simp[ZP,hy]
  rw[e1,e2];exact hr
 ·have e1:ts.getD t ay=ay:=by simp[List.getD,aaW (by omega:ts.length<=t)]
  have e2:vs.getD t undef=undef:=by
   have:vs.size<=t:=by simp at hl;omega
   simp[ZP,aas this]
  rw[e1,e2];exact jT m
def DV{ts:TS}{a:Act}(h:cK m ts a.tmps.toList){x:AV}{cv:Value}(hx:VR m x cv)(d:Option Nat):cK m (put ts d x) (a.put d cv).tmps.toList:=by
 cases d with
 |none=>exact h
 |some d=>simp only[put,Act.put,Array.toList_setIfInBounds];exact h.set d hx
def put_defers(a:Act)(d:Option Nat)(cv:Value):(a.put d cv).defers=a.defers:=by cases d<;>rfl
def qL{ts:TS}{a:Act}{ops:Array Oper}{o:Oper}{g:Option (Nat×Bool)}(hg:uf ops o.guard=some g)
  (ht:∀t b,g=some (t,b)->(t<ts.length↔t<a.tmps.size)/\VR m (ts.getD t ay) (a.tmps.getD t undef)):Region.wanted o (yielded ops a.tmps)=true↔wanted g ts:=by
 unfold uf at hg;unfold Region.wanted wanted;cases U9:o.guard with
 |none=>rw[U9]at hg;cases hg;simp
 |some p=>
  obtain⟨j,b⟩:=p;rw[U9]at hg;simp only[Zq]at hg;obtain⟨d,hd,rfl⟩:=hg;simp only[yielded,hd,Option.bind_some,beq_iff_eq];obtain⟨hlt,RG⟩:=ht d b rfl;by_cases hdl:d<ts.length
  ·have Vb:=hlt.1 hdl;have e1:ts.getD d ay=ts[d]:=by simp[List.getD,YZ hdl]
   have e2:a.tmps.getD d undef=a.tmps[d]:=by simp[ZP,ZT Vb]
   rw[e1,e2]at RG;rw[ZT Vb,YZ hdl];generalize a.tmps[d]=cv at RG;generalize ts[d]=av at RG;cases av with
   |bool t=>rw[VR]at RG;subst RG;simp
   |int k n=>rw[VR]at RG;subst RG;simp
   |wS k n=>rw[VR]at RG;obtain⟨_,rfl,_⟩:=RG;simp
   |wD k x y=>rw[VR]at RG;obtain⟨_,_,rfl,_⟩:=RG;simp
   |str s=>rw[VR]at RG;subst RG;simp
   |ptr b o=>rw[VR]at RG;obtain⟨_,_,rfl⟩:=RG;simp
   |nilPtr=>rw[VR]at RG;subst RG;simp
   |slice b o n e=>rw[VR]at RG;obtain⟨_,_,_,_,rfl,_⟩:=RG;simp
   |af=>rw[VR]at RG;subst RG;simp
   |map r=>rw[VR]at RG;obtain⟨_,_,rfl⟩:=RG;simp
   |db=>rw[VR]at RG;subst RG;simp
   |func f x y=>rw[VR]at RG;obtain⟨_,_,_,rfl,_⟩:=RG;simp
   |nilFunc=>rw[VR]at RG;subst RG;simp
   |agg l=>rw[VR]at RG;obtain⟨_,rfl,_⟩:=RG;simp
   |dL l=>rw[VR]at RG;obtain⟨_,rfl,_⟩:=RG;simp
   |uM u l=>rw[VR]at RG;obtain⟨_,rfl,_⟩:=RG;simp
   |kC=>rw[VR]at RG;subst RG;simp
  ·have Vb:¬d<a.tmps.size:=λx=>hdl (hlt.2 x)
   rw[aas Om,aaW Om];simp
inductive dB (P:Program) (o:bK) (ts:TS) (h:ah):TS->ah->Prop
 |run {v:AV}{h':ah}(hw:wanted o.gd ts) (hb:xZ o.dst o.k ts.length) (hs:pO P o.k (val ts) h v h'):dB P o ts h (put ts o.dst v) h'
 |skip (hw:¬wanted o.gd ts):dB P o ts h (put ts o.dst ay) h
def yu(P:Program):List bK->TS->ah->TS->ah->Prop
 |[],ts,h,ts',h'=>ts' =ts/\h' =h
 |o::r,ts,h,ts',h'=>∃Ts h1,dB P o ts h Ts h1/\(o.q=true->∃g,h1=h++g)/\yu P r Ts h1 ts' h'
structure St(P:Program)(m:bZ)(ts:TS)(h:ah)(a:Act)(w:World):Prop where
 hr:HR P m h w
 ts:cK m ts a.tmps.toList
def oz{ρ}:¬pO P .bad ρ h v h':=λhs=>by
 have RC:dw .bad ρ h=some (v,h'):=hs;simp[dw]at RC
def fD{ops:Array Oper}{i:Nat}{o:Oper}(ho:ops[i]? =some o){q:Bool}{io:bK}(hc:bU P ops q o=some io){ts ts':TS}{a:Act}
  (hg:GV P m) (hr:HR P m h w) (hlen:a.tmps.size=ts.length)
  (ht:∀t,t∈o.looksAt ops->VR m (ts.getD t ay) (a.tmps.getD t undef)) (hs:dB P io ts h ts' h') (ro:Option Nat) (K:Act->World->Prop) (Q:Exit->Act->World->Prop)
  (hn:∀cv v m' w',ts' =put ts o.dst v->VR m' v cv->HR P m' h' w'->Grow m h w m' h' w'->K (a.put o.dst cv) w'):wpOpIn (Fd ro) 0 P ops Q i K a w:=by
 unfold bU at hc;split at hc
 case h_2=>cases hc
 rename_i g U9;cases hc;have hw:=qL (m:=m) (ts:=ts) (a:=a) U9 (λt b UU=>⟨Om,ht t (by
  unfold Oper.looksAt;refine List.mem_append_right _ ?_;unfold uf at U9;cases hog:o.guard with
  |none=>rw[hog]at U9;cases U9;cases UU
  |some p=>
   obtain⟨j,b'⟩:=p;rw[hog]at U9;simp only[Zq]at U9;obtain⟨d,hd,rfl⟩:=U9;cases UU;simp[hd])⟩)
 unfold wpOpIn;rw[ho];cases hs with
 |run hwa hb hs=>
  clear hb;simp only;rw[Zh (hw.2 hwa)];simp only at hs;split at hs
  case isFalse=>exact absurd hs oz
  rename_i hgok;cases hk:eA P o with
  |none=>rw[hk]at hs;exact absurd hs oz
  |some k=>
   rw[hk]at hs;refine vA hk (λx hx x' RI=>?_) (λz=>rfl) hr hs ro K Q (λcv m' w' h1 h2 h3=>hn cv _ m' w' rfl h1 h2 h3);exact Qm
 |skip hwa=>
  simp only;rw[Za (λx=>hwa (hw.1 x))];exact⟨λ_ _=>trivial,hn undef _ m w rfl (jT m) hr (Grow.refl m h w hr.cL)⟩
theorem gh{α β:Type}{f:Nat->α->Option β}:∀{l:List α}{i:Nat}{r:List β},eX f l i=some r->r.length=l.length/\∀(j:Nat) (x:α),l[j]? =some x->∃y,r[j]? =some y/\f (i+j) x=some y
 |[],i,r,h=>by cases h;exact⟨rfl,λj x hx=>by simp at hx⟩
 |x::xs,i,r,h=>by
  unfold eX at h;split at h
  case h_2=>cases h
  rename_i y ys hy hys;cases h;obtain⟨h1,h2⟩:=gh hys;refine⟨by simp[h1],λj z hz=>?_⟩;cases j with
  |zero=>simp at hz;subst hz;exact⟨y,Si,hy⟩
  |succ j=>
   simp at hz;obtain⟨u,hu,hf⟩:=h2 j z hz;exact⟨u,by simpa using hu,by rw[show i+(j+1)=i+1+j from by omega];exact hf⟩
structure Row(P:Program)(l:List bK)(T:Nat->TS)(H:Nat->ah):Prop where
 step:∀i o,l[i]? =some o->dB P o (T i) (H i) (T (i+1)) (H (i+1))/\(o.q=true->∃g,H (i+1)=H i++g)
theorem yu.row:∀{l}{ts ts'}{h h'},yu P l ts h ts' h'->∃T H,T 0=ts/\H 0=h/\T l.length=ts'/\H l.length=h'/\Row P l T H
 |[],ts,ts',h,h',hs=>by
  obtain⟨rfl,rfl⟩:=hs;exact⟨λ_=>ts',λ_=>h',rfl,rfl,rfl,rfl,⟨λi o ho=>by simp at ho⟩⟩
 |o::r,ts,ts',h,h',hs=>by
  obtain⟨Ts,h1,bV,hq,hr⟩:=hs;obtain⟨T,H,hT,hH,Tg,hH',hrow⟩:=hr.row;refine⟨λi=>match i with| 0=>ts|i+1=>T i,λi=>match i with| 0=>h|i+1=>H i,rfl,rfl,Tg,hH',⟨λi x hx=>?_⟩⟩;cases i with
  |zero=>
   simp at hx;subst hx;show dB P o ts h (T 0) (H 0)/\_;rw[hT,hH];exact⟨bV,λq=>by show ∃g,H 0=h++g;rw[hH];exact hq q⟩
  |succ i=>exact hrow.step i x (by simpa using hx)
def mZ(ts:TS)(d:Option Nat)(v:AV):(put ts d v).length=ts.length:=by cases d<;>simp[put]
theorem dB.put{o ts ts'}(hs:dB P o ts h ts' h'):∃v,ts' =put ts o.dst v:=by
 cases hs with
 |run=>exact⟨_,rfl⟩
 |skip=>exact⟨_,rfl⟩
def dt{ops q o io}(hc:bU P ops q o=some io):io.dst=o.dst/\io.q=q:=by
 unfold bU at hc;split at hc
 ·cases hc;exact⟨rfl,rfl⟩
 ·cases hc
def xQ{ops:Array Oper}{l:List bK}(hc:cN P ops false=some l){ts ts':TS}{h h':ah}(hs:yu P l ts h ts' h'){m:bZ}{a:Act}{w:World}(st:St P m ts h a w)(ro:Option Nat)
  (Q:Exit->Act->World->Prop) (hQ:∀m' a' w',St P m' ts' h' a' w'->Grow m h w m' h' w'->a'.defers=a.defers->Q .normal a' w') (id:Nat):(Code.region id ops false).wpIn (Fd ro) 0 P Q a w:=by
 refine wpIn_region ?_;obtain⟨T,H,rfl,rfl,rfl,rfl,hrow⟩:=hs.row;obtain⟨hlen,RM⟩:=gh (show eX (λ_ o=>bU P ops false o) ops.toList 0=some l from hc);simp only[aa7]at hlen;have key:∀(k j:Nat),j+k=ops.size->∀(m1:bZ) (a1:Act) (w1:World),St P m1 (T j) (H j) a1 w1->Grow m (H 0) w m1 (H j) w1->a1.defers=a.defers->
   wpOpsIn (Fd ro) 0 P ops Q (List.range' j k) a1 w1:=by
  intro k
  induction k with
  |zero=>
   intro j hj m1 a1 w1 s1 g1 hd;have:j=l.length:=Om
   subst this;exact hQ m1 a1 w1 s1 g1 hd
  |succ k ih=>
   intro j hj m1 a1 w1 s1 g1 hd;rw[List.range'_succ,wpOpsIn_cons];have YC:j<ops.size:=Om
   have ho:ops[j]? =some ops[j]:=ZT YC;obtain⟨io,hio,RP⟩:=RM j ops[j] Si;obtain⟨bV,_⟩:=hrow.step j io hio;refine fD ho RP s1.hr.gv s1.hr (by simpa using s1.ts.length) (λt _=>nK s1.ts t) bV ro _ Q ?_;intro cv v m' w' RD h1 h2 h3;have hle:=h3.le s1.hr.cL;exact ih (j+1) Om m' _ w' ⟨h2,by rw[RD];exact DV (cK.mono hle _ _ s1.ts) h1 _⟩ (g1.trans h3 st.hr.cL) (by rw[put_defers];exact hd)
 have:=key ops.size 0 Om m a w st (Grow.refl m _ w st.hr.cL) rfl
 rwa [<-List.range_eq_range']at this
end
end Go.Abs
