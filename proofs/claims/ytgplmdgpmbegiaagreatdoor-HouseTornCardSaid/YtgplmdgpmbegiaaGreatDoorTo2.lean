/- A part of the proof that HouseTorn holds. No condition. -/
import Derived.Shelf.Strings.Builder1
import Derived.Shelf.Strings.Builder2
import Derived.Shelf.Strings.OnBuilder
import Derived.Test.YtgplmdgpmbegiaaGreatDoorProg
import Derived.Shelf.Strings.Repeat
import Derived.Tactics
import Derived.OrdersIn
import Derived.RangeFuncLeaves
import Derived.RangeFuncIn
import Derived.RangeFuncOwn
import Derived.Laws.Sem
import Derived.Laws.World
import Derived.Laws.Cells
import Derived.Laws.Entries
import Derived.Below
import Derived.MapKept
import Derived.Laws.Tables
import Derived.Laws.StructEq
import Derived.Test.YtgplmdgpmbegiaaGreatDoorTo0
set_option linter.all false
open Nat (reduceAdd reduceMul reduceLeDiff reduceEqDiff)
namespace Go.Proofs
open Go.Shelf
def Tryz.qB:Go.Shelf.Ren:=⟨λ| 156=>114| 165=>210| 166=>211| 169=>212| 240=>257| 241=>258| 276=>282| 277=>283|n=>n,λ| 31=>28| 9=>9| 3=>3| 4=>4| 0=>0| 20=>20| 72=>271| 76=>275| 70=>269| 37=>119| 75=>274| 127=>308| 164=>332| 5=>5| 80=>97|n=>n,λn=>n⟩
def Tryz.Ac:Go.Proofs.Lays.n156 Tryz.prog Tryz.qB:={
 mixed:=by kernel_rfl
 f156:=Tryz.func114.trans (congrArg some (by kernel_rfl))
 f165:=Tryz.func210.trans (congrArg some (by kernel_rfl))
 f166:=Tryz.func211.trans (congrArg some (by kernel_rfl))
 f169:=Tryz.func212.trans (congrArg some (by kernel_rfl))
 f240:=Tryz.func257.trans (congrArg some (by kernel_rfl))
 f241:=Tryz.func258.trans (congrArg some (by kernel_rfl))
 f276:=Tryz.func282.trans (congrArg some (by kernel_rfl))
 f277:=Tryz.func283.trans (congrArg some (by kernel_rfl))
 t0:=Tryz.underlying0
 a0:=Tryz.isAgg0
 z0:=Tryz.sizeOf0
 v0:=Tryz.zeroValue0
 t3:=Tryz.underlying3
 a3:=Tryz.isAgg3
 z3:=Tryz.sizeOf3
 v3:=Tryz.zeroValue3
 t4:=Tryz.underlying4
 a4:=Tryz.isAgg4
 z4:=Tryz.sizeOf4
 v4:=Tryz.zeroValue4
 t9:=Tryz.underlying9
 a9:=Tryz.isAgg9
 z9:=Tryz.sizeOf9
 v9:=Tryz.zeroValue9
 t20:=Tryz.underlying20
 a20:=Tryz.isAgg20
 z20:=Tryz.sizeOf20
 v20:=Tryz.zeroValue20
 t31:=Tryz.underlying28
 a31:=Tryz.isAgg28
 z31:=Tryz.sizeOf28
 v31:=Tryz.zeroValue28
 t37:=Tryz.underlying119
 a37:=Tryz.isAgg119
 z37:=Tryz.sizeOf119
 v37:=Tryz.zeroValue119
 t70:=Tryz.underlying269
 a70:=Tryz.isAgg269
 z70:=Tryz.sizeOf269
 v70:=Tryz.zeroValue269
 t72:=Tryz.underlying271
 a72:=Tryz.isAgg271
 z72:=Tryz.sizeOf271
 v72:=Tryz.zeroValue271
 t75:=Tryz.underlying274
 a75:=Tryz.isAgg274
 z75:=Tryz.sizeOf274
 v75:=Tryz.zeroValue274
 t76:=Tryz.underlying275
 a76:=Tryz.isAgg275
 z76:=Tryz.sizeOf275
 v76:=Tryz.zeroValue275
 t127:=Tryz.underlying308
 a127:=Tryz.isAgg308
 z127:=Tryz.sizeOf308
 v127:=Tryz.zeroValue308
 t164:=Tryz.underlying332
 a164:=Tryz.isAgg332
 z164:=Tryz.sizeOf332
 v164:=Tryz.zeroValue332}
def Tryz.ka:Builder.Extra Tryz.prog Tryz.qB:={
 sizeBuilder:=by kernel_rfl
 liesBuilder:=by kernel_rfl
 t5:=Tryz.underlying5
 a5:=Tryz.isAgg5
 z5:=Tryz.sizeOf5
 v5:=Tryz.zeroValue5
 infoByte:=by kernel_rfl
 cellsByte:=by kernel_rfl
 sizeByte:=by kernel_rfl
 neB5:=by decide}
open Go.RowKit in
theorem Tryz.strings_Join_none(a:Option Addr)(c:Nat)(sep:ByteArray)(w:World):
  Calls Tryz.prog 114 #[.slice a 0 c,.string sep] w λe w'=>e=.returned (.string ⟨#[]⟩)/\w' =w:=Any.strings_Join_none Tryz.Ac Tryz.ka a c sep w
open Go.RowKit in
theorem Tryz.strings_Join(bk o c:Nat)(xs:List ByteArray)(sep:ByteArray)(w:World)(hcells:∀(j:Nat) x,xs[j]? =some x->w.cell? ⟨bk,o+j,none⟩=some (.string x))(hbk:bk<w.heap.size)(hN:xs.length<=140737488355328)(hcap:xs.length<=c)(hlen:(Lib.join (xs.map (·.data.toList)) sep.data.toList).length<=140737488355328):
  Calls Tryz.prog 114 #[.slice (some ⟨bk,o,none⟩) xs.length c,.string sep] w λe w'=>e=.returned (.string ⟨(Lib.join (xs.map (·.data.toList)) sep.data.toList).toArray⟩)/\Below w.heap.size w w':=Any.strings_Join Tryz.Ac Tryz.ka bk o c xs sep w hcells hbk hN hcap hlen
end Go.Proofs
namespace Go.Proofs
open Go.Shelf
def Tryz.qC:Go.Shelf.Ren:=⟨λ| 105=>252| 212=>267| 99=>270| 165=>210| 166=>211| 170=>271| 169=>212| 263=>285| 264=>286| 206=>287| 240=>257| 241=>258| 276=>282| 277=>283|n=>n,λ| 9=>9| 3=>3| 4=>4| 20=>20| 0=>0| 46=>319| 109=>320| 5=>5| 72=>271| 76=>275| 51=>335| 146=>336| 53=>327| 148=>338| 70=>269| 37=>119| 75=>274| 127=>308| 164=>332| 80=>97|n=>n,λn=>n⟩
def Tryz.FU:Go.Proofs.Lays.n105 Tryz.prog Tryz.qC:={
 mixed:=by kernel_rfl
 f99:=Tryz.func270.trans (congrArg some (by kernel_rfl))
 f105:=Tryz.func252.trans (congrArg some (by kernel_rfl))
 f165:=Tryz.func210.trans (congrArg some (by kernel_rfl))
 f166:=Tryz.func211.trans (congrArg some (by kernel_rfl))
 f169:=Tryz.func212.trans (congrArg some (by kernel_rfl))
 f170:=Tryz.func271.trans (congrArg some (by kernel_rfl))
 f206:=Tryz.func287.trans (congrArg some (by kernel_rfl))
 f212:=Tryz.func267.trans (congrArg some (by kernel_rfl))
 f240:=Tryz.func257.trans (congrArg some (by kernel_rfl))
 f241:=Tryz.func258.trans (congrArg some (by kernel_rfl))
 f263:=Tryz.func285.trans (congrArg some (by kernel_rfl))
 f264:=Tryz.func286.trans (congrArg some (by kernel_rfl))
 f276:=Tryz.func282.trans (congrArg some (by kernel_rfl))
 f277:=Tryz.func283.trans (congrArg some (by kernel_rfl))
 t0:=Tryz.underlying0
 a0:=Tryz.isAgg0
 z0:=Tryz.sizeOf0
 v0:=Tryz.zeroValue0
 t3:=Tryz.underlying3
 a3:=Tryz.isAgg3
 z3:=Tryz.sizeOf3
 v3:=Tryz.zeroValue3
 t4:=Tryz.underlying4
 a4:=Tryz.isAgg4
 z4:=Tryz.sizeOf4
 v4:=Tryz.zeroValue4
 t5:=Tryz.underlying5
 a5:=Tryz.isAgg5
 z5:=Tryz.sizeOf5
 v5:=Tryz.zeroValue5
 t9:=Tryz.underlying9
 a9:=Tryz.isAgg9
 z9:=Tryz.sizeOf9
 v9:=Tryz.zeroValue9
 t20:=Tryz.underlying20
 a20:=Tryz.isAgg20
 z20:=Tryz.sizeOf20
 v20:=Tryz.zeroValue20
 t37:=Tryz.underlying119
 a37:=Tryz.isAgg119
 z37:=Tryz.sizeOf119
 v37:=Tryz.zeroValue119
 t46:=Tryz.underlying319
 a46:=Tryz.isAgg319
 z46:=Tryz.sizeOf319
 v46:=Tryz.zeroValue319
 t51:=Tryz.underlying335
 a51:=Tryz.isAgg335
 z51:=Tryz.sizeOf335
 v51:=Tryz.zeroValue335
 t53:=Tryz.underlying327
 a53:=Tryz.isAgg327
 z53:=Tryz.sizeOf327
 v53:=Tryz.zeroValue327
 t70:=Tryz.underlying269
 a70:=Tryz.isAgg269
 z70:=Tryz.sizeOf269
 v70:=Tryz.zeroValue269
 t72:=Tryz.underlying271
 a72:=Tryz.isAgg271
 z72:=Tryz.sizeOf271
 v72:=Tryz.zeroValue271
 t75:=Tryz.underlying274
 a75:=Tryz.isAgg274
 z75:=Tryz.sizeOf274
 v75:=Tryz.zeroValue274
 t76:=Tryz.underlying275
 a76:=Tryz.isAgg275
 z76:=Tryz.sizeOf275
 v76:=Tryz.zeroValue275
 t109:=Tryz.underlying320
 a109:=Tryz.isAgg320
 z109:=Tryz.sizeOf320
 v109:=Tryz.zeroValue320
 t127:=Tryz.underlying308
 a127:=Tryz.isAgg308
 z127:=Tryz.sizeOf308
 v127:=Tryz.zeroValue308
 t146:=Tryz.underlying336
 a146:=Tryz.isAgg336
 z146:=Tryz.sizeOf336
 v146:=Tryz.zeroValue336
 t148:=Tryz.underlying338
 a148:=Tryz.isAgg338
 z148:=Tryz.sizeOf338
 v148:=Tryz.zeroValue338
 t164:=Tryz.underlying332
 a164:=Tryz.isAgg332
 z164:=Tryz.sizeOf332
 v164:=Tryz.zeroValue332}
def Tryz.pO:Builder.Extra Tryz.prog Tryz.qC:={
 sizeBuilder:=by kernel_rfl
 liesBuilder:=by kernel_rfl
 t5:=Tryz.underlying5
 a5:=Tryz.isAgg5
 z5:=Tryz.sizeOf5
 v5:=Tryz.zeroValue5
 infoByte:=by kernel_rfl
 cellsByte:=by kernel_rfl
 sizeByte:=by kernel_rfl
 neB5:=by decide}
end Go.Proofs
namespace Go.Abs
inductive AV where
 |bool (b:Bool)
 |int (k:IntKind) (n:Int)
 |yl (k:FloatKind) (b:Nat)
 |ya (k:FloatKind) (re im:Nat)
 |str (s:By)
 |ptr (b o:Nat)
 |nilPtr
 |slice (b o n e:Nat)
 |af
 |map (r:Nat)
 |dq
 |func (f:Fn) (a c:List AV)
 |nilFunc
 |agg (l:List AV)
 |dQ (l:List AV)
 |vU (u:TypeId) (v:AV)
 |k8
 deriving Inhabited
def az:AV:=.dQ []
def AV.cells:AV->List AV
 |.agg l=>l
 |v=>[v]
def AV.one:AV->Bool
 |.agg _=>false
 |.dQ _=>false
 |.k8=>false
 |_=>true
inductive cZ where
 |t (i:Nat)
 |c (v:AV)
 |g (i:Nat)
 |f (i:Nat)
 deriving Inhabited
inductive CK where
 |b
 |i
 |s
 deriving DecidableEq,Inhabited
inductive R2 where
 |one (k:CK)
 |agg (ks:List CK)
 |FJ
 |Bl
 |qP
 |M6
 deriving Inhabited
inductive AJ where
 |F9 (k:IntKind)
 |PK
 |Ob
 |same
 |QN (k:FloatKind)
 |Q3 (k:IntKind)
 |Q4 (k:FloatKind)
 |vU (u:TypeId)
 deriving Inhabited
inductive LK where
 |sl
 |st
 |mp
 deriving DecidableEq,Inhabited
inductive pN where
 |cj (x:cZ)
 |pick (c a b:cZ)
 |box (x:cZ)
 |pt (n:Nat) (x:cZ)
 |build (z:List AV) (ps:List (Nat×Nat×cZ))
 |a8 (es:Nat) (n:Nat) (z:List AV) (ps:List (Nat×cZ))
 |load (n:Option Nat) (a:cZ)
 |store (n:Nat) (a x:cZ)
 |bT (x:cZ)
 |bin (op:BinOp) (x y:cZ)
 |eqv (neg:Bool) (t:R2) (x y:cZ)
 |un (op:UnOp) (x:cZ)
 |conv (k:AJ) (x:cZ)
 |ve (f:Fn) (a c:List cZ)
 |oZ
 |wX (es w:Nat) (z:List AV) (l c:cZ)
 |sl (es:Nat) (x:cZ) (lo hi:Option cZ)
 |B7 (x:cZ) (lo hi:Option cZ)
 |OO (n es:Nat) (x:cZ) (lo hi:Option cZ)
 |bn (off:Nat) (x:cZ)
 |bw (es:Nat) (x i:cZ)
 |pe (len es:Nat) (x i:cZ)
 |part (n:Option Nat) (off:Nat) (x:cZ)
 |KS (len es:Nat) (n:Option Nat) (x i:cZ)
 |Ca (x i:cZ)
 |look (kk:CK) (z:AV) (ok:Bool) (m k:cZ)
 |fY (kk:CK) (m k x:cZ)
 |CY (x:cZ)
 |r9 (x:cZ)
 |ext (x:cZ) (i:Nat)
 |call (f:cZ) (args:List cZ)
 |len (lk:LK) (x:cZ)
 |Bp (n:Nat)
 |app (es w:Nat) (x y:cZ)
 |Au (es:Nat) (x y:cZ)
 |mx (x:cZ) (l:List cZ)
 |mn (x:cZ) (l:List cZ)
 |bad
 deriving Inhabited
structure bO where
 dst:Option Nat
 k:pN
 gd:Option (Nat×Bool)
 q:Bool
 deriving Inhabited
def Ai(d:Option Nat)(k:pN)(n:Nat):Prop:=
 match k,d with
 |.pt _ _,some d=>d<n
 |_,_=>True
inductive ai where
 |skip
 |ops (l:List bO)
 |tB (l:List bO)
 |mZ (l:List bO)
 |seq (a b:ai)
 |cond (c:cZ) (a b:ai)
 |block (id:Nat) (a:ai)
 |loop (a:ai)
 |exit (id:Nat)
 |ret
 |fX (g:cZ) (ps:List Nat) (asg body:ai)
 |bad
 deriving Inhabited
inductive Ex where
 |normal
 |exit (id:Nat)
 |ret
 deriving DecidableEq,Inhabited
def Ex.D3:Ex->Exit
 |.normal=>.normal
 |.exit id=>.exit id
 |.ret=>.ret
def Ex.jump:Ex->Option Code
 |.normal=>none
 |.exit id=>some (.exit id)
 |.ret=>some .ret
inductive ak where
 |cells (c:List AV) (mu tl:Bool)
 |dead
 |bg (es:List (AV×AV))
 |iter (s:By) (pos:Nat)
 |loop (st:LoopState) (ex:Ex) (ts:List AV) (ps:List Nat) (asg body:ai)
 deriving Inhabited
abbrev ah:=List ak
abbrev TS:=List AV
structure tJ where
 cb:Nat
 d:Nat
 sz:Nat
 own:Bool
abbrev cw:=Nat->Option tJ
def cw.le(m m':cw):Prop:=∀b e,m b=some e->m' b=some e
def cw.le_trans{a b c:cw}(h:a.le b)(k:b.le c):a.le c:=λx e hx=>k x e (h x e hx)
def FL(k:FloatKind)(b:Nat):Bool:=(k.format.order b b).isNone
def FR(k:FloatKind)(b b':Nat):Prop:=b' =b\/(FL k b=true/\FL k b' =true)
def B3(m:cw):Fn->Fn->Prop
 |.yield l,g=>∃e,m l=some e/\g=.yield e.cb
 |f,g=>g=f
mutual
def VR(m:cw):AV->Value->Prop
 |.bool b,v=>v=.bool b
 |.int k n,v=>v=.int k n
 |.yl k b,v=>∃b',v=.float k b'/\FR k b b'
 |.ya k x y,v=>∃x' y',v=.complex k x' y'/\FR k x x'/\FR k y y'
 |.str s,v=>v=.string ⟨⟨s⟩⟩
 |.ptr b o,v=>∃e,m b=some e/\v=.pointer (some ⟨e.cb,o+e.d,none⟩)
 |.nilPtr,v=>v=.pointer none
 |.slice b o n es,v=>∃e ca cap,m b=some e/\v=.slice (some ca) n cap/\n<=cap/\(0<cap->ca=⟨e.cb,o+e.d,none⟩)/\o+e.d+cap*es<=e.sz
 |.af,v=>v=.slice none 0 0
 |.map r,v=>∃e,m r=some e/\v=.map (some e.cb)
 |.dq,v=>v=.map none
 |.func f a c,v=>∃f' a' c',v=.func f' ⟨a'⟩ ⟨c'⟩/\B3 m f f'/\cL m a a'/\cL m c c'
 |.nilFunc,v=>v=.nilFunc
 |.agg l,v=>∃l',v=.agg ⟨l'⟩/\cL m l l'
 |.dQ l,v=>∃l',v=.tuple ⟨l'⟩/\cL m l l'
 |.vU u a,v=>∃v',v=.iface u v'/\VR m a v'
 |.k8,v=>v=.nilIface
def cL(m:cw):List AV->List Value->Prop
 |[],vs=>vs=[]
 |x::xs,vs=>∃y ys,vs=y::ys/\VR m x y/\cL m xs ys
end
def B3.mono{m m'}(h:m.le m'):∀{f g},B3 m f g->B3 m' f g:=by
 intro f g hf;cases f<;>simp only[B3]at hf ⊢<;>try exact hf
 obtain⟨e,he,hg⟩:=hf;exact⟨e,h _ _ he,hg⟩
mutual
theorem VR.mono{m m'}(h:m.le m'):∀(a:AV) (v:Value),VR m a v->VR m' a v
 |.bool _,v,hv=>hv
 |.int _ _,v,hv=>hv
 |.yl _ _,v,hv=>hv
 |.ya _ _ _,v,hv=>hv
 |.str _,v,hv=>hv
 |.ptr b o,v,hv=>by
  obtain⟨e,he,hv⟩:=(show ∃e,m b=some e/\v=.pointer (some ⟨e.cb,o+e.d,none⟩)from hv);exact⟨e,h _ _ he,hv⟩
 |.nilPtr,v,hv=>hv
 |.slice b o n es,v,hv=>by
  obtain⟨e,ca,cap,he,hr⟩:=(show ∃e ca cap,m b=some e/\v=.slice (some ca) n cap/\n<=cap/\(0<cap->ca=⟨e.cb,o+e.d,none⟩)/\o+e.d+cap*es<=e.sz from hv);exact⟨e,ca,cap,h _ _ he,hr⟩
 |.af,v,hv=>hv
 |.map r,v,hv=>by
  obtain⟨e,he,hv⟩:=(show ∃e,m r=some e/\v=.map (some e.cb)from hv);exact⟨e,h _ _ he,hv⟩
 |.dq,v,hv=>hv
 |.func f a c,v,hv=>by
  obtain⟨f',a',c',hv,hf,ha,hc⟩:=(show ∃f' a' c',v=.func f' ⟨a'⟩ ⟨c'⟩/\B3 m f f'/\cL m a a'/\cL m c c' from hv);exact⟨f',a',c',hv,hf.mono h,cL.mono h a a' ha,cL.mono h c c' hc⟩
 |.nilFunc,v,hv=>hv
 |.agg l,v,hv=>by
  obtain⟨l',hv,hl⟩:=(show ∃l',v=.agg ⟨l'⟩/\cL m l l' from hv);exact⟨l',hv,cL.mono h l l' hl⟩
 |.dQ l,v,hv=>by
  obtain⟨l',hv,hl⟩:=(show ∃l',v=.tuple ⟨l'⟩/\cL m l l' from hv);exact⟨l',hv,cL.mono h l l' hl⟩
 |.vU u a,v,hv=>by
  obtain⟨v',hv,ha⟩:=(show ∃v',v=.iface u v'/\VR m a v' from hv);exact⟨v',hv,VR.mono h a v' ha⟩
 |.k8,v,hv=>hv
theorem cL.mono{m m'}(h:m.le m'):∀(l:List AV) (vs:List Value),cL m l vs->cL m' l vs
 |[],_,hv=>hv
 |x::xs,vs,hv=>by
  obtain⟨y,ys,hv,hx,WA⟩:=(show ∃y ys,vs=y::ys/\VR m x y/\cL m xs ys from hv);exact⟨y,ys,hv,VR.mono h x y hx,cL.mono h xs ys WA⟩
end
def bE{m vs}:cL m [] vs↔vs=[]:=Iff.rfl
def aQ{m x xs vs}:cL m (x::xs) vs↔∃y ys,vs=y::ys/\VR m x y/\cL m xs ys:=Iff.rfl
theorem cL.length{m}:∀{l}{vs},cL m l vs->vs.length=l.length
 |[],_,h=>by rw[bE]at h;simp[h]
 |x::xs,vs,h=>by
  obtain⟨y,ys,rfl,_,WA⟩:=aQ.1 h;simp[cL.length WA]
theorem cL.get{m:cw}:∀{l:List AV}{vs:List Value},cL m l vs->∀{i:Nat}{x:AV},l[i]? =some x->∃y,vs[i]? =some y/\VR m x y
 |[],_,_,i,x,h=>by simp at h
 |z::zs,vs,h,i,x,hx=>by
  obtain⟨y,ys,rfl,hy,hys⟩:=aQ.1 h;cases i with
  |zero=>simp at hx;subst hx;exact⟨y,Si,hy⟩
  |succ i=>simp at hx;simpa using cL.get hys hx
theorem cL.iG{m}:∀{l}{vs},vs.length=l.length->(∀(i:Nat) (x:AV),l[i]? =some x->∃y,vs[i]? =some y/\VR m x y)->cL m l vs
 |[],vs,hl,_=>by rw[bE];exact abg.1 (by simpa using hl)
 |x::xs,[],hl,_=>by simp at hl
 |x::xs,v::vs,hl,h=>by
  refine aQ.2 ⟨v,vs,rfl,?_,cL.iG (by simpa using hl) λi z hz=>?_⟩
  ·obtain⟨y,hy,hr⟩:=h 0 x Si;simp at hy;subst hy;exact hr
  ·obtain⟨y,hy,hr⟩:=h (i+1) z (by simpa using hz);exact⟨y,by simpa using hy,hr⟩
theorem cL.append{m}:∀{a b}{va vb},cL m a va->cL m b vb->cL m (a++b) (va++vb)
 |[],b,va,vb,ha,hb=>by rw[bE]at ha;subst ha;simpa using hb
 |x::xs,b,va,vb,ha,hb=>by
  obtain⟨y,ys,rfl,hy,hys⟩:=aQ.1 ha;exact aQ.2 ⟨y,ys++vb,Si,hy,cL.append hys hb⟩
theorem cL.set{m:cw}{l:List AV}{vs:List Value}(h:cL m l vs)(i:Nat){x:AV}{v:Value}(hx:VR m x v):cL m (l.set i x) (vs.set i v):=by
 refine cL.iG (by simp[h.length]) λj z hz=>?_
 rw[List.getElem?_set]at hz ⊢;by_cases hij:i=j
 ·simp only[hij,aaB]at hz ⊢;split at hz
  ·simp only[aaL]at hz;subst hz;rename_i hlt;exact⟨v,by simp[h.length,hlt],hx⟩
  ·simp at hz
 ·simp only[hij,aay]at hz ⊢;exact h.get hz
theorem cL.take{m}:∀{l}{vs}(n:Nat),cL m l vs->cL m (l.take n) (vs.take n)
 |[],vs,n,h=>by rw[bE]at h;subst h;simp[bE]
 |x::xs,vs,0,h=>by simp[bE]
 |x::xs,vs,n+1,h=>by
  obtain⟨y,ys,rfl,hy,hys⟩:=aQ.1 h;exact aQ.2 ⟨y,ys.take n,Si,hy,cL.take n hys⟩
theorem cL.drop{m}:∀{l}{vs}(n:Nat),cL m l vs->cL m (l.drop n) (vs.drop n)
 |[],vs,n,h=>by rw[bE]at h;subst h;simp[bE]
 |x::xs,vs,0,h=>by simpa using h
 |x::xs,vs,n+1,h=>by
  obtain⟨y,ys,rfl,hy,hys⟩:=aQ.1 h
  simpa using cL.drop n hys
theorem VR.one{m x v}(h:VR m x v)(hx:x.one=true):v.cells=#[v]:=by
 exact SB
def VR.uW{m x v}(h:VR m x v)(hx:x.one=true):v.oneCell' =true:=by
 exact SB
theorem VR.cells{m x v}(h:VR m x v):cL m x.cells v.cells.toList:=by
 by_cases hx:x.one=true
 ·have hc:x.cells=[x]:=by cases x<;>first|rfl|cases hx
  rw[h.one hx,hc];exact aQ.2 ⟨v,[],rfl,h,bE.2 rfl⟩
 ·cases x with
  |agg l=>rw[VR]at h;obtain⟨l',rfl,hl⟩:=h;exact hl
  |dQ l=>exact aQ.2 ⟨v,[],by rw[VR]at h;obtain⟨l',rfl,hl⟩:=h;rfl,h,bE.2 rfl⟩
  |k8=>exact aQ.2 ⟨v,[],by rw[VR]at h;subst h;rfl,h,bE.2 rfl⟩
  |_=>exact absurd rfl hx
def val(ts:TS):cZ->AV
 |.t i=>ts.getD i az
 |.c v=>v
 |.g i=>.ptr i 0
 |.f i=>.func (.func i) [] []
def put(ts:TS)(d:Option Nat)(v:AV):TS:=
 match d with
 |some d=>ts.set d v
 |none=>ts
def wanted(g:Option (Nat×Bool))(ts:TS):Prop:=
 match g with
 |none=>True
 |some (t,b)=>ts[t]? =some (.bool b)
def eI(h:ah)(b:Nat):Bool:=
 match h[b]? with
 |some (.cells _ _ tl)=>tl
 |_=>false
def nf:Nat->Value->Option AV
 | 0,_=>none
 |n+1,v=>
  match v with
  |.bool b=>some (.bool b)
  |.int k i=>some (.int k i)
  |.float k b=>some (.yl k b)
  |.complex k x y=>some (.ya k x y)
  |.string s=>some (.str s.data.toList)
  |.pointer none=>some .nilPtr
  |.slice none 0 0=>some .af
  |.map none=>some .dq
  |.nilFunc=>some .nilFunc
  |.agg cs=>(cs.toList.mapM (nf n)).map .agg
  |.tuple cs=>(cs.toList.mapM (nf n)).map .dQ
  |_=>none
def cW:Operand->Option cZ
 |.tmp t=>some (.t t)
 |.const v=>(nf 4 v).map .c
 |.global g=>some (.g g)
 |.func f=>some (.f f)
def FF:Operand->Option cZ
 |.global _=>none
 |x=>cW x
def zW(l:Array Operand):Option (List cZ):=l.toList.mapM cW
def wL:Option Operand->Option (Option cZ)
 |none=>some none
 |some x=>(cW x).map some
def kh:TypeDesc->Bool
 |.struct _=>true
 |.array _ _=>true
 |_=>false
def B9(P:Program)(t:TypeId):Option (Option Nat):=
 match P.underlying t with
 |some d=>if kh d then(P.info? t).map λi=>some i.size else some none
 |none=>none
def ep(P:Program)(t:TypeId):Option Nat:=(P.info? t).map (·.size)
def jW(P:Program)(t:TypeId):Option AV:=(P.info? t).bind λi=>i.zero.bind (nf 4)
def xR(P:Program)(F:TypeId->Option (List CK)):List Field->Nat->Option (List CK)
 |[],_=>some []
 |f::fs,off=>
  match F f.type,P.info? f.type with
  |some ks,some i=>
   if f.name≠ "_"/\f.offset=off/\i.size=ks.length/\0<ks.length then
    match xR P F fs (off+ks.length)with
    |some r=>some (ks++r)
    |none=>none
   else none
  |_,_=>none
def flat(P:Program):Nat->TypeId->Option (List CK)
 | 0,_=>none
 |d+1,t=>
  match P.underlying t with
  |some .bool=>some [.b]
  |some (.int _)=>some [.i]
  |some .string=>some [.s]
  |some (.struct fs)=>if P.stoodInHeld t=false then xR P (flat P d) fs.toList 0 else none
  |some (.array len e)=>
   match flat P d e,P.info? e with
   |some ks,some i=>if i.size=ks.length/\0<ks.length then some (List.replicate len ks).flatten else none
   |_,_=>none
  |_=>none
def JT(P:Program)(neg:Bool)(t:TypeId)(x y:cZ):Option pN:=
 match P.underlying t with
 |some (.int _)=>some (.bin (if neg then .neq else .eql) x y)
 |some .string=>some (.bin (if neg then .neq else .eql) x y)
 |some (.float _)=>some (.bin (if neg then .neq else .eql) x y)
 |some .bool=>some (.eqv neg (.one .b) x y)
 |some (.struct _)=>if P.eqGuardType P.depth t=false then(flat P 20 t).map λks=>.eqv neg (.agg ks) x y else none
 |some (.array _ _)=>if P.eqGuardType P.depth t=false then(flat P 20 t).map λks=>.eqv neg (.agg ks) x y else none
 |some (.slice _)=>some (.eqv neg .FJ x y)
 |some (.pointer _)=>some (.eqv neg .Bl x y)
 |some (.func _ _ _)=>some (.eqv neg .qP x y)
 |some (.map _ _)=>some (.eqv neg .M6 x y)
 |_=>none
def F5(P:Program)(e:TypeId):Bool:=
 match P.underlying e with
 |some (.int .u8)=>true
 |_=>false
def D2(P:Program)(s d:TypeId):Option AJ:=
 match P.underlying s,P.underlying d with
 |some (.int _),some (.int k)=>some (.F9 k)
 |some (.int _),some (.float k)=>some (.QN k)
 |some (.float _),some (.int k)=>some (.Q3 k)
 |some (.float _),some (.float k)=>some (.Q4 k)
 |some .string,some .string=>some .same
 |some .string,some (.slice e)=>if F5 P e=true then some .PK else none
 |some (.slice e),some .string=>if F5 P e=true then some .Ob else none
 |_,_=>none
def fieldAt(P:Program)(t:TypeId)(i:Nat):Option Field:=
 match P.underlying t with
 |some (.struct fs)=>fs[i]?
 |_=>none
def jZ(P:Program)(t:TypeId)(i:Nat):Option (Nat×Nat):=
 match P.underlying t with
 |some (.struct fs)=>
  match fs.toList.mapM (λf=>(P.info? f.type).map λi=>(f.offset,i.size))with
  |some places=>places[i]?
  |none=>none
 |some (.array _ e)=>(P.info? e).map λie=>(i*ie.size,ie.size)
 |_=>none
def oM(P:Program)(t:TypeId):Bool:=
 match P.underlying t with
 |some (.struct fs)=>(fs.toList.mapM (λf=>(P.info? f.type).map λi=>(f.offset,i.size))).isSome
 |some (.array _ e)=>(P.info? e).isSome
 |_=>false
def mT(P:Program)(t:TypeId):List (Nat×Operand)->Option (List (Nat×Nat×cZ))
 |[]=>some []
 |(i,x)::r=>
  match jZ P t i,cW x,mT P t r with
  |some (off,n),some y,some r=>some ((off,n,y)::r)
  |_,_,_=>none
def eA(P:Program)(t:TypeId):Option (TypeId×TypeInfo):=
 match P.underlying t with
 |some (.slice e)=>(P.info? e).map λi=>(e,i)
 |_=>none
def pq(P:Program)(b:Builtin)(ts:Array TypeId)(args:List cZ):Option pN:=
 match b,args with
 |.len,[x]=>
  match (ts[0]?).bind P.underlying with
  |some (.slice _)=>some (.len .sl x)
  |some .string=>some (.len .st x)
  |some (.map _ _)=>some (.len .mp x)
  |some (.array n _)=>some (.Bp n)
  |_=>none
 |.append,[x,y]=>
  match (ts[0]?).bind (eA P),(ts[1]?).bind P.underlying with
  |some (_,i),some (.slice _)=>if 0<i.size/\0<i.bytes/\i.bytes<=2^20 then(i.zero.bind (nf 4)).bind λz=>if z.cells.length=i.size then some (.app i.size i.bytes x y)else none else none
  |some (_,i),some .string=>if 0<i.size/\0<i.bytes/\i.bytes<=2^20 then(i.zero.bind (nf 4)).bind λz=>if z.cells.length=i.size then some (.app i.size i.bytes x y)else none else none
  |_,_=>none
 |.copy,[x,y]=>
  match (ts[0]?).bind (eA P)with
  |some (_,i)=>if 0<i.size then some (.Au i.size x y)else none
  |_=>none
 |.max,x::l=>some (.mx x l)
 |.min,x::l=>some (.mn x l)
 |_,_=>none
def y0(P:Program)(t:TypeId):Option CK:=
 match P.underlying t with
 |some (.int _)=>some .i
 |some .string=>some .s
 |some .bool=>some .b
 |_=>none
def Dp:Fn->Bool
 |.yield _=>false
 |_=>true
def eF(P:Program)(o:Oper):Option pN:=
 match o.op with
 |.move x=>(cW x).map .cj
 |.assign x=>(cW x).map .cj
 |.pick c a b=>
  match cW c,cW a,cW b with
  |some c,some a,some b=>some (.pick c a b)
  |_,_,_=>none
 |.alloc e=>
  match jW P e with
  |some z=>if z.cells.all AV.one then some (.box (.c z))else none
  |none=>none
 |.box _ x=>(cW x).map .box
 |.build t ps=>
  match jW P t,mT P t ps.toList with
  |some z,some l=>if oM P t=true then some (.build z.cells l)else none
  |_,_=>none
 |.buildSlice t n ps=>
  match eA P t with
  |some (e,i)=>
   match jW P e,ps.toList.mapM λp=>(cW p.2).map λy=>(p.1*i.size,y)with
   |some z,some l=>if 0<i.size/\z.cells.length=i.size/\z.cells.all AV.one/\n*i.size<=2^24 then some (.a8 i.size n z.cells l)else none
   |_,_=>none
  |none=>none
 |.load t a=>
  match B9 P t,cW a with
  |some n,some a=>some (.load n a)
  |_,_=>none
 |.store t a x=>
  match ep P t,cW a,cW x with
  |some n,some a,some x=>some (.store n a x)
  |_,_,_=>none
 |.nilCheck x=>(cW x).map .bT
 |.binOp op t x y _=>
  match cW x,cW y with
  |some x,some y=>
   match op with
   |.eql=>JT P false t x y
   |.neq=>JT P true t x y
   |_=>some (.bin op x y)
  |_,_=>none
 |.unOp op _ x=>(cW x).map (.un op)
 |.convert s d x=>
  match D2 P s d,cW x with
  |some k,some x=>some (.conv k x)
  |_,_=>none
 |.makeInterface t x=>
  match P.underlying t,cW x with
  |some (.interface _),_=>none
  |some _,some x=>some (.conv (.vU t) x)
  |_,_=>none
 |.makeFunc fn a c=>
  if Dp fn=true then
   match zW a,zW c with
   |some a,some c=>some (.ve fn a c)
   |_,_=>none
  else none
 |.makeMap _ none=>some .oZ
 |.makeSlice t l c=>
  match eA P t,cW l,cW c with
  |some (e,i),some l,some c=>
   match jW P e with
   |some z=>if 0<i.size/\z.cells.length=i.size/\z.cells.all AV.one then some (.wX i.size i.bytes z.cells l c)else none
   |none=>none
  |_,_,_=>none
 |.slice t x lo hi none=>
  match cW x,wL lo,wL hi with
  |some x,some lo,some hi=>
   match P.underlying t with
   |some .string=>some (.B7 x lo hi)
   |some (.slice e)=>(ep P e).map λn=>.sl n x lo hi
   |some (.array k e)=>(ep P e).map λn=>.OO k n x lo hi
   |_=>none
  |_,_,_=>none
 |.fieldAddr t x i=>
  match fieldAt P t i,cW x with
  |some f,some x=>
   match ep P f.type with
   |some n=>if 0<n then some (.bn f.offset x)else none
   |none=>none
  |_,_=>none
 |.indexAddr t x i=>
  match cW x,cW i with
  |some x,some i=>
   match P.underlying t with
   |some (.slice e)=>(ep P e).map λn=>.bw n x i
   |some (.array k e)=>(ep P e).map λn=>.pe k n x i
   |_=>none
  |_,_=>none
 |.field t x i=>
  match fieldAt P t i,cW x with
  |some f,some x=>(B9 P f.type).map λn=>.part n f.offset x
  |_,_=>none
 |.index t x i=>
  match cW x,cW i with
  |some x,some i=>
   match P.underlying t with
   |some .string=>some (.Ca x i)
   |some (.array k e)=>
    match ep P e,B9 P e with
    |some n,some q=>some (.KS k n q x i)
    |_,_=>none
   |_=>none
  |_,_=>none
 |.lookup t m k ok=>
  match P.underlying t,cW m,cW k with
  |some (.map kt e),some m,some k=>
   match y0 P kt,jW P e with
   |some kk,some z=>some (.look kk z ok m k)
   |_,_=>none
  |_,_,_=>none
 |.mapUpdate t m k x=>
  match P.underlying t,cW m,cW k,cW x with
  |some (.map kt _),some m,some k,some x=>(y0 P kt).map λkk=>.fY kk m k x
  |_,_,_,_=>none
 |.insert t m k x=>
  match P.underlying t,cW m,cW k,cW x with
  |some (.map kt _),some m,some k,some x=>(y0 P kt).map λkk=>.fY kk m k x
  |_,_,_,_=>none
 |.range t x=>
  match P.underlying t with
  |some .string=>(cW x).map .CY
  |_=>none
 |.next x true=>(cW x).map .r9
 |.extract x i=>(cW x).map λx=>.ext x i
 |.call c=>
  match zW c.args with
  |some l=>
   match c.callee with
   |.value f=>(cW f).map λf=>.call f l
   |.invoke r name=>(cW r).map λr=>.call (.c (.func (.method name) [] [])) (r::l)
   |.builtin b=>pq P b c.argTypes l
  |none=>none
 |_=>none
def vi(ops:Array Oper)(g:Option (Nat×Bool)):Option (Option (Nat×Bool)):=
 match g with
 |none=>some none
 |some (j,b)=>((ops[j]?).bind (·.dst)).map λd=>some (d,b)
def OR(P:Program):Operand->Bool
 |.global g=>decide (g<P.globals.size)
 |_=>true
def bW(P:Program)(ops:Array Oper)(q:Bool)(o:Oper):Option bO:=
 match vi ops o.guard with
 |some g=>some {dst:=o.dst,k:=if o.op.operands.toList.all (OR P)then(eF P o).getD .bad else .bad,gd:=g,q:=q}
 |none=>none
def ahead(M:Array Nat)(i j:Nat):Bool:=(M.getD j 0).testBit i
def lq(M:Array Nat)(ops:Array Oper):Bool:=
 (List.range ops.size).all λj=>
  match ops[j]? with
  |none=>true
  |some o=>
   (o.after.toList.all λe=>!Region.binds .any e||decide (e.on<j)) &&
   ((List.range ops.size).all λi=>!ahead M i j||o.after.toList.any λe=>Region.binds .any e&&(e.on==i||ahead M i e.on))
def mJ(M:Array Nat)(ops:Array Oper):Bool:=
 (List.range ops.size).all λj=>
  (List.range j).all λi=>
   match ops[i]?,ops[j]? with
   |some x,some y=>
    (match x.dst with
     |some d=>y.dst !=some d&&(!(y.looksAt ops).contains d||ahead M i j)
     |none=>true) &&
    (match y.dst with
     |some d=>!(x.looksAt ops).contains d||ahead M i j
     |none=>true)
   |_,_=>true
def gW(M:Array Nat)(n j:Nat):Bool:=
 (List.range n).all λi=>i==j||(if i<j then ahead M i j else ahead M j i)
def eU{α β:Type}(f:Nat->α->Option β):List α->Nat->Option (List β)
 |[],_=>some []
 |x::xs,i=>
  match f i x,eU f xs (i+1)with
  |some y,some ys=>some (y::ys)
  |_,_=>none
def zb:AV->Bool
 |.bool _=>true
 |.int _ _=>true
 |.yl _ _=>true
 |.ya _ _ _=>true
 |.str _=>true
 |.nilPtr=>true
 |.af=>true
 |.dq=>true
 |.nilFunc=>true
 |_=>false
def mG(o:bO):Option (Nat×Nat×cZ):=
 match o.dst,o.k,o.gd,o.q with
 |none,.store n (.t t) x,none,true=>some (n,t,x)
 |_,_,_,_=>none
def uC(o:bO):Option (Nat×AV):=
 match o.dst,o.k,o.gd,o.q with
 |some t,.box (.c z),none,true=>some (t,z)
 |_,_,_,_=>none
def fJ(ops:Array Oper)(j t:Nat):Bool:=
 match ops[j]? with
 |some o=>(o.looksAt ops).contains t
 |none=>false
def pW(ops:Array Oper)(l:List bO)(k s:Nat):Bool:=
 match (l[k]?).bind uC,(l[s]?).bind mG with
 |some (t,z),some (n,t',x)=>
  t==t'&&z.cells.length==n&&z.cells.all zb&&(match x with|.t u=>u !=t&&fJ ops s u|_=>true)&&fJ ops s t&&(List.range ops.size).all λj=>j==s || !fJ ops j t
 |_,_=>false
def QJ(ops:Array Oper)(l:List bO)(s:Nat):Option Nat:=(List.range s).find? λk=>pW ops l k s
def PI(ops:Array Oper)(l:List bO)(k:Nat):Option Nat:=(List.range l.length).find? λs=>decide (k<s)&&pW ops l k s
def uw(ops:Array Oper)(l:List bO)(j:Nat)(o:bO):bO:=
 match mG o with
 |some (n,t,x)=>
  match QJ ops l j with
  |some _=>{dst:=some t,k:=.pt n x,gd:=none,q:=true}
  |none=>o
 |none=>
  match uC o with
  |some _=>
   match PI ops l j with
   |some _=>{dst:=none,k:=.cj (.c (.bool false)),gd:=none,q:=true}
   |none=>o
  |none=>o
def qG(ops:Array Oper)(l:List bO):Nat->List bO->List bO
 |_,[]=>[]
 |j,o::r=>uw ops l j o::qG ops l (j+1) r
def cP(P:Program)(ops:Array Oper)(draw:Bool):Option (List bO):=
 if draw then
  let M:=Region.before ops
  if lq M ops&&mJ M ops then
   (eU (λi o=>bW P ops (!gW M ops.size i) o) ops.toList 0).map λl=>qG ops l 0 l
  else none
 else eU (λ_ o=>bW P ops false o) ops.toList 0
def fG:pN->Bool
 |.cj _=>true
 |.pick _ _ _=>true
 |.bin _ _ _=>true
 |.eqv _ _ _ _=>true
 |.un _ _=>true
 |.conv (.F9 _) _=>true
 |.bn _ _=>true
 |.pe _ _ _ _=>true
 |.bw _ _ _=>true
 |.part _ _ _=>true
 |.KS _ _ _ _ _=>true
 |.Ca _ _=>true
 |.ext _ _=>true
 |.bT _=>true
 |.mx _ _=>true
 |.mn _ _=>true
 |.build _ _=>true
 |.B7 _ _ _=>true
 |.sl _ _ _ _=>true
 |.Bp _=>true
 |.ve _ _ _=>true
 |.len .sl _=>true
 |.len .st _=>true
 |_=>false
def cH:pN->Bool
 |.load _ _=>true
 |k=>fG k
def En:pN->Bool
 |.box _=>true
 |.a8 _ _ _ _=>true
 |.oZ=>true
 |_=>false
def F8:pN->Bool
 |.call _ _=>true
 |_=>false
def lC(o:bO):Bool:=En o.k||(o.q&&F8 o.k)
def F7(o:Oper):Bool:=
 match o.op with
 |.call c=>
  match c.callee with
  |.builtin _=>false
  |_=>true
 |_=>false
def F6(o:Oper):Bool:=
 o.guard.isNone&&match o.op with
 |.load _ _=>true
 |_=>false
def tC(c:Nat)(o:Oper):Bool:=(decide (1<=c)&&F7 o)||(decide (2<=c)&&F6 o)
def nj(o:bO):Bool:=
 o.q&&match o.k with
 |.load _ _=>true
 |_=>false
def o6(M:Array Nat)(l:List bO):Bool:=
 (List.range l.length).all λj=>
  (List.range j).all λi=>
   match l[i]?,l[j]? with
   |some x,some y=>fG x.k||fG y.k||nj x||nj y||(cH x.k&&(cH y.k||lC y))||(lC x&&cH y.k)||ahead M i j
   |_,_=>true
def zT(o:bO):Bool:=
 o.q&&match o.k with
  |.store _ _ _=>true
  |_=>false
def NJ(o:bO):Bool:=
 o.q&&match o.k with
  |.store _ _ _=>true
  |.app _ _ _ _=>true
  |.Au _ _ _=>true
  |.fY _ _ _ _=>true
  |_=>false
def DC(o:bO):Bool:=fG o.k||match o.k with
 |.store _ _ _=>true
 |_=>false
def Nz(o:bO):Bool:=match o.k with
 |.store _ _ _=>true
 |_=>false
def k9(l:List bO):Bool:=l.all DC&&decide ((l.filter Nz).length<=2)
def dP:List bO->Nat
 |[]=>0
 |o::r=>if k9 (o::r)=true then 0 else dP r+1
def nR(M:Array Nat)(l:List bO):Bool:=
 (List.range l.length).all λi=>
  match l[i]? with
  |some x=>!nj x||(List.range l.length).all λj=>
    match l[j]? with
    |some y=>cH y.k||decide (j<dP l)||ahead M i j
    |none=>true
  |none=>true
def sf(M:Array Nat)(l:List bO)(f:Nat):Bool:=
 (List.range l.length).all λj=>
  (List.range j).all λi=>
   match l[i]?,l[j]? with
   |some x,some y=>fG x.k||fG y.k||nj x||nj y||decide (j=f)||ahead M i j
   |_,_=>true
def xQ(ops:Array Oper)(l:List bO)(f:Nat):Bool:=
 match l[f]? with
 |some {dst:=some d,k:=.a8 _ _ z ps,gd:=none,q:=_}=>z.all zb&&ps.all (λp=>match p.2 with|.t u=>fJ ops f u|_=>false)&&(List.range l.length).all λj=>
   match l[j]? with
   |some o=>!cH o.k||((fG o.k||nj o) && !fJ ops j d)
   |none=>true
 |_=>false
def H5(M:Array Nat)(ops:Array Oper)(l:List bO):Option Nat:=(List.range l.length).find? λf=>xQ ops l f&&sf M l f
def Oh(l:List bO):Bool:=l.any λo=>o.q&&match o.k with
 |.app _ _ (.t d) _=>l.any λp=>p.dst==some d&&match p.k with
  |.app _ _ _ _=>true
  |_=>false
 |_=>false
def nV(P:Program)(ops:Array Oper)(draw:Bool):Option ai:=
 match cP P ops draw with
 |none=>none
 |some l=>
  if l.any NJ=true/\draw=true then
   match eU (λ_ o=>bW P ops (tC 0 o) o) ops.toList 0,eU (λ_ o=>bW P ops (tC 1 o) o) ops.toList 0,eU (λ_ o=>bW P ops (tC 2 o) o) ops.toList 0 with
   |some l',some l2,some l3=>if(o6 (Region.before ops) l' && !l'.any nj)=true then some (.ops l')else if(o6 (Region.before ops) l2 && !l2.any nj)=true then some (.ops l2)else if(l.any zT&&(H5 (Region.before ops) ops l3).isSome&&nR (Region.before ops) l3)=true then some (.mZ l3)else if l.any zT=true then(if(decide (2<(l.filter Nz).length)&&o6 (Region.before ops) l3&&nR (Region.before ops) l3)=true then some (.mZ l3)else some (.tB l'))else if(o6 (Region.before ops) l3&&nR (Region.before ops) l3)=true then some (.mZ l3)else if(Oh l&&(H5 (Region.before ops) ops l3).isSome&&nR (Region.before ops) l3)=true then some (.mZ l3)else some (.ops l)
   |_,_,_=>none
  else some (.ops l)
def compile(P:Program):Code->Option ai
 |.skip=>some .skip
 |.region _ ops draw=>nV P ops draw
 |.seq a b=>
  match compile P a,compile P b with
  |some x,some y=>some (.seq x y)
  |_,_=>none
 |.cond c a b=>
  match FF c,compile P a,compile P b with
  |some c,some x,some y=>some (.cond c x y)
  |_,_,_=>none
 |.block id a=>(compile P a).map (.block id)
 |.loop a=>(compile P a).map .loop
 |.exit id=>some (.exit id)
 |.ret=>some .ret
 |.label _=>some .skip
 |.scope a=>compile P a
 |.rangeFunc g ps asg body=>
  match FF g,compile P asg,compile P body with
  |some g,some x,some y=>some (.fX g ps.toList x y)
  |_,_,_=>none
 |.goto _=>some .bad
 |.refuse _=>some .bad
structure au where
 nt:Nat
 np:Nat
 rs:List (Nat×Option (Option Nat))
 body:ai
def uQ(P:Program):ResultVar->Option (Nat×Option (Option Nat))
 |.tmp t=>some (t,none)
 |.cell a t=>(B9 P t).map λn=>(a,some n)
def bU(P:Program)(f:FuncId):Option au:=
 match P.funcs[f]? with
 |none=>none
 |some fn=>
  match fn.body with
  |none=>none
  |some c=>
   match compile P c,fn.results.toList.mapM (uQ P)with
   |some b,some rs=>if fn.name == "runtime.NumGoroutine" then none else some {nt:=fn.ntmps,np:=fn.params.size,rs:=rs,body:=b}
   |_,_=>none
def Gb(P:Program)(g:Nat):Nat:=
 match P.globals[g]? with
 |some G=>
  match P.info? G.type with
  |some i=>i.size
  |none=>0
 |none=>0
def BR(P:Program)(m:cw)(w:World)(e:tJ):ak->Prop
 |.cells c mu tl=>∃cc el fz,w.heap[e.cb]? =some (.cells cc el fz)/\(e.d+c.length<=cc.size/\e.d+c.length<=e.sz/\cc.size=e.sz)/\
   (∀(i:Nat) (x:AV),c[i]? =some x->x.one=true/\∃v,cc[e.d+i]? =some v/\VR m x v)/\
   (e.own=true->cc.size=e.sz/\∀i,i<cc.size->¬(fz.1<=i/\i<fz.2))/\((mu=true\/tl=true)->e.own=true/\(tl=false->e.sz=e.d+c.length))
 |.dead=>True
 |.bg es=>e.own=true/\∃Vv clock,w.heap[e.cb]? =some (.map Vv clock)/\Vv.size=es.length/\
   ∀(i:Nat) (p:AV×AV),es[i]? =some p->∃q,Vv[i]? =some q/\VR m p.1 q.key/\VR m p.2 q.val
 |.iter s pos=>e.own=true/\e.d=0/\w.heap[e.cb]? =some (.stringIter ⟨⟨s⟩⟩ pos)
 |.loop st ex ts ps asg body=>e.own=true/\∃fn tmps Uq TP df,w.heap[e.cb]? =some (.loop {state:=st,pending:=ex.jump,fn:=fn,tmps:=tmps,params:=⟨ps⟩,assign:=Uq,body:=TP,defers:=df})/\
   cL m ts tmps.toList/\compile P Uq=some asg/\compile P TP=some body
def ak.live:ak->Bool
 |.dead=>false
 |_=>true
def qt(e1 e2:tJ):ak->ak->Prop
 |.cells c1 mu1 tl1,.cells c2 mu2 tl2=>mu1=false/\mu2=false/\(tl1=true->tl2=false/\e2.d+c2.length<=e1.d+c1.length)
 |.dead,_=>True
 |_,.dead=>True
 |_,_=>False
structure HR(P:Program)(m:cw)(h:ah)(w:World):Prop where
 cM:∀b e,m b=some e->b<h.length
 dW:∀b e k,m b=some e->h[b]? =some k->BR P m w e k
 sep:∀b1 b2 e1 e2 k1 k2,b1≠b2->m b1=some e1->m b2=some e2->h[b1]? =some k1->h[b2]? =some k2->e1.cb=e2.cb->qt e1 e2 k1 k2
 fS:∀g,g<P.globals.size->∃e,m g=some e/\e.cb=g/\e.d=0/\e.own=false/\e.sz=Gb P g
 lt:∀b e,m b=some e->e.cb<w.heap.size
structure Grow(m:cw)(h:ah)(w:World)(m':cw)(h':ah)(w':World):Prop where
 ext:∀b,b<h.length->m' b=m b
 len:h.length<=h'.length
 new:∀b e,h.length<=b->m' b=some e->e.own=true/\(w.heap.size<=e.cb\/∃b0 e0,m b0=some e0/\e0.cb=e.cb/\e0.own=true/\eI h b0=true/\eI h' b0=false)
 tl:∀b,b<h.length->eI h' b=true->eI h b=true
 size:w.heap.size<=w'.heap.size
 os:w'.os=w.os
 out:w'.output=w.output
 tape:w'.tape=w.tape
 frame:∀i,i<w.heap.size->(∀b e,m b=some e->e.own=true->e.cb≠i)->w'.heap[i]? =w.heap[i]?
def Grow.refl(m:cw)(h:ah)(w:World)(hd:∀b e,m b=some e->b<h.length):Grow m h w m h w where
 ext:=λ_ _=>rfl
 len:=aar _
 new:=λb e hb he=>absurd (hd b e he) Om
 tl:=λ_ _ h=>h
 size:=aar _
 os:=rfl
 out:=rfl
 tape:=rfl
 frame:=λ_ _ _=>rfl
theorem Grow.le{m m' h h' w w'}(g:Grow m h w m' h' w')(hd:∀b e,m b=some e->b<h.length):m.le m':=
 λb e he=>by rw[g.ext b (hd b e he)];exact he
theorem Grow.trans{m m1 m2 h h1 h2 w w1 w2}(a:Grow m h w m1 h1 w1)(b:Grow m1 h1 w1 m2 h2 w2)
  (hd:∀b e,m b=some e->b<h.length):Grow m h w m2 h2 w2 where
 ext:=λi hi=>(b.ext i (aa7 hi a.len)).trans (a.ext i hi)
 len:=aa5 a.len b.len
 new:=by
  intro i e hi he;by_cases h1i:h1.length<=i
  ·obtain⟨ho,hc⟩:=b.new i e h1i he;refine⟨ho,?_⟩;rcases hc with hc|⟨b0,e0,UA,hcb,ho0,Vz,Yq⟩
   ·exact .inl (aa5 a.size hc)
   ·by_cases hb:h.length<=b0
    ·obtain⟨_,hc0⟩:=a.new b0 e0 hb UA;rcases hc0 with hc0|⟨b00,e00,hb00,hcb0,ho00,ht00,YV⟩
     ·exact .inl (hcb▸hc0)
     ·refine .inr ⟨b00,e00,hb00,hcb0.trans hcb,ho00,ht00,?_⟩;cases hx:eI h2 b00 with
      |false=>rfl
      |true=>
       have hlt:=hd _ _ hb00;rw[b.tl b00 (aa7 hlt a.len) hx]at YV;cases YV
    ·have hlt:b0<h.length:=Om
     rw[a.ext b0 hlt]at UA;exact .inr ⟨b0,e0,UA,hcb,ho0,a.tl b0 hlt Vz,Yq⟩
  ·have hi1:i<h1.length:=Om
   rw[b.ext i hi1]at he;obtain⟨ho,hc⟩:=a.new i e hi he;refine⟨ho,?_⟩;rcases hc with hc|⟨b0,e0,UA,hcb,ho0,Vz,Yq⟩
   ·exact .inl hc
   ·refine .inr ⟨b0,e0,UA,hcb,ho0,Vz,?_⟩;cases hx:eI h2 b0 with
    |false=>rfl
    |true=>
     have hlt:=hd _ _ UA;rw[b.tl b0 (aa7 hlt a.len) hx]at Yq;cases Yq
 tl:=λi hi ht=>a.tl i hi (b.tl i (aa7 hi a.len) ht)
 size:=aa5 a.size b.size
 os:=b.os.trans a.os
 out:=b.out.trans a.out
 tape:=b.tape.trans a.tape
 frame:=by
  intro i hi hno;refine(b.frame i (aa7 hi a.size) ?_).trans (a.frame i hi hno);intro j e he ho hcb;by_cases hj:h.length<=j
  ·obtain⟨_,hc⟩:=a.new j e hj he;rcases hc with hc|⟨b0,e0,UA,hcb0,ho0,_,_⟩
   ·omega
   ·exact hno b0 e0 UA ho0 (hcb0.trans hcb)
  ·rw[a.ext j Om]at he;exact hno j e he ho hcb
theorem BR.heap{P m w w' e k}(h:BR P m w e k)(hw:w'.heap[e.cb]? =w.heap[e.cb]?):BR P m w' e k:=by
 cases k<;>simp only[BR,hw]at h ⊢<;>exact h
theorem BR.mono{P m m' w e k}(hm:m.le m')(h:BR P m w e k):BR P m' w e k:=by
 cases k with
 |cells c mu tl=>
  obtain⟨cc,el,fz,h1,h2,h3,h4⟩:=h;exact⟨cc,el,fz,h1,h2,λi x hx=>by obtain⟨ho,v,hv,hr⟩:=h3 i x hx;exact⟨ho,v,hv,VR.mono hm _ _ hr⟩,h4⟩
 |dead=>trivial
 |bg es=>
  obtain⟨ho,Vv,clock,h1,h2,h3⟩:=h;exact⟨ho,Vv,clock,h1,h2,λi p hp=>by obtain⟨q,hq,ha,hb⟩:=h3 i p hp;exact⟨q,hq,VR.mono hm _ _ ha,VR.mono hm _ _ hb⟩⟩
 |iter s pos=>exact h
 |loop st ex ts ps asg body=>
  obtain⟨ho,fn,tmps,Uq,TP,df,h1,h2,h3,h4⟩:=h;exact⟨ho,fn,tmps,Uq,TP,df,h1,cL.mono hm _ _ h2,h3,h4⟩
theorem HR.drew{P m h w}(hr:HR P m h w):HR P m h w.drew where
 cM:=hr.cM
 dW:=λb e k hb hk=>(hr.dW b e k hb hk).heap rfl
 sep:=hr.sep
 fS:=hr.fS
 lt:=hr.lt
theorem Grow.drew{m h w m' h' w'}(g:Grow m h w m' h' w'):Grow m h w m' h' w'.drew:=
 ⟨g.ext,g.len,g.new,g.tl,g.size,g.os,g.out,g.tape,g.frame⟩
def Grow.DX{m h w m' h' w'}(g:Grow m h w.drew m' h' w'):Grow m h w m' h' w':=
 ⟨g.ext,g.len,g.new,g.tl,g.size,g.os,g.out,g.tape,g.frame⟩
def BR.lt{P m w e k}(h:BR P m w e k)(hl:k.live=true):e.cb<w.heap.size:=by
 cases k with
 |cells c mu tl=>obtain⟨cc,el,fz,h1,_⟩:=h;exact(aax.1 h1).1
 |dead=>cases hl
 |bg es=>obtain⟨_,Vv,clock,h1,_⟩:=h;exact(aax.1 h1).1
 |iter s pos=>exact(aax.1 h.2.2).1
 |loop st ex ts ps asg body=>obtain⟨_,fn,tmps,Uq,TP,df,h1,_⟩:=h;exact(aax.1 h1).1
def cw.add(m:cw)(b:Nat)(e:tJ):cw:=λx=>if x=b then some e else m x
def cw.th{m:cw}{b:Nat}(e:tJ)(h:m b=none):m.le (m.add b e):=by
 intro x y hx;unfold cw.add;by_cases hb:x=b
 ·subst hb;rw[h]at hx;cases hx
 ·rw[aao hb];exact hx
def fO{h k b}(hb:b<h.length):eI (h++[k]) b=eI h b:=by
 unfold eI;rw[aag hb]
def kP{P:Program}{m:cw}{h:ah}{w:World}(hr:HR P m h w)(o:Obj)(k:ak)(e:tJ)(he:e.cb=w.heap.size)(ho:e.own=true)
  (hk:∀m':cw,m.le m'->BR P m' (w.alloc o) e k):
  HR P (m.add h.length e) (h++[k]) (w.alloc o)/\Grow m h w (m.add h.length e) (h++[k]) (w.alloc o):=by
 have Uu:m h.length=none:=by
  exact OJ
 have hle:=cw.th e Uu;have hold:∀b x,m b=some x->(m.add h.length e) b=some x:=hle;have hheap:∀i,i<w.heap.size->(w.alloc o).heap[i]? =w.heap[i]? :=λi hi=>Go.RowKit.Below.heap_alloc w o i hi
 have XG:∀b x k',m b=some x->h[b]? =some k'->k'.live=true->x.cb<w.heap.size:=λb x k' hb hk' hl=>(hr.dW b x k' hb hk').lt hl
 refine⟨⟨?_,?_,?_,?_,?_⟩,⟨?_,Si,?_,?_,Si,rfl,rfl,rfl,λi hi _=>hheap i hi⟩⟩
 ·intro b x hb;unfold cw.add at hb;by_cases hbl:b=h.length
  ·subst hbl;simp
  ·rw[aao hbl]at hb;have:=hr.cM _ _ hb;simp;omega
 ·intro b x k' hb hk';unfold cw.add at hb;by_cases hbl:b=h.length
  ·subst hbl;rw[aas rfl]at hb;cases hb;simp at hk';subst hk';exact hk _ hle
  ·rw[aao hbl]at hb;have hlt:=hr.cM _ _ hb;rw[aag hlt]at hk';have h0:=hr.dW b x k' hb hk';by_cases hl:k'.live=true
   ·exact(h0.mono hle).heap (hheap _ (h0.lt hl))
   ·cases k'<;>first|trivial|exact absurd rfl hl
 ·intro b1 b2 e1 e2 k1 k2 hne h1 h2 hk1 Tr hcb;unfold cw.add at h1 h2;by_cases TV:b1=h.length
  ·subst TV;rw[aas rfl]at h1;cases h1;have T3:b2≠h.length:=λx=>hne x.symm
   rw[aao T3]at h2;have hlt:=hr.cM _ _ h2;rw[aag hlt]at Tr;by_cases hl:k2.live=true
   ·have:=XG _ _ _ h2 Tr hl;omega
   ·cases k2<;>first|(cases k1<;>trivial)|exact absurd rfl hl
  ·rw[aao TV]at h1;have hlt1:=hr.cM _ _ h1;rw[aag hlt1]at hk1;by_cases T3:b2=h.length
   ·subst T3;rw[aas rfl]at h2;cases h2;by_cases hl:k1.live=true
    ·have:=XG _ _ _ h1 hk1 hl;omega
    ·cases k1<;>first|trivial|exact absurd rfl hl
   ·rw[aao T3]at h2;have Un:=hr.cM _ _ h2;rw[aag Un]at Tr;exact hr.sep b1 b2 e1 e2 k1 k2 hne h1 h2 hk1 Tr hcb
 ·intro g hg;obtain⟨x,hx,h1⟩:=hr.fS g hg;exact⟨x,hold _ _ hx,h1⟩
 ·intro b x hb;unfold cw.add at hb;simp only[World.size_alloc];by_cases hbl:b=h.length
  ·rw[aas hbl]at hb;cases hb;omega
  ·rw[aao hbl]at hb;have:=hr.lt _ _ hb;omega
 ·intro b hb;unfold cw.add;rw[aao Om]
 ·intro b x hb hx;unfold cw.add at hx;by_cases hbl:b=h.length
  ·rw[aas hbl]at hx;cases hx;exact⟨ho,.inl Om⟩
  ·rw[aao hbl]at hx;exact absurd (hr.cM _ _ hx) Om
 ·intro b hb ht
  rwa [fO hb]at ht
def vS{P:Program}{m:cw}{w:World}{c:List AV}{vs:List Value}(hc:cL m c vs)(h1:c.all AV.one=true)(el:TypeId)(mu tl:Bool)(m':cw)(hm:m.le m'):
  BR P m' (w.alloc (.cells ⟨vs⟩ el)) ⟨w.heap.size,0,vs.length,true⟩ (.cells c mu tl):=by
 refine⟨⟨vs⟩,el,(0,0),World.alloc_heap_new w _,⟨by simp[hc.length],by simp[hc.length]⟩,?_,?_,λ_=>⟨rfl,λ_=>by simp[hc.length]⟩⟩
 ·intro i x hx;obtain⟨v,hv,hr⟩:=hc.get hx;exact⟨aaO.1 h1 x (aa8 hx),v,by simpa using hv,VR.mono hm _ _ hr⟩
 ·intro _;exact⟨Si,λi _=>by simp⟩
def mC{P m h w}(hr:HR P m h w){c vs}(hc:cL m c vs)(h1:c.all AV.one=true)(el:TypeId)(mu tl:Bool):
  ∃m',m' h.length=some ⟨w.heap.size,0,vs.length,true⟩/\HR P m' (h++[.cells c mu tl]) (w.alloc (.cells ⟨vs⟩ el))/\Grow m h w m' (h++[.cells c mu tl]) (w.alloc (.cells ⟨vs⟩ el)):=
 ⟨_,by simp[cw.add],kP hr (.cells ⟨vs⟩ el) (.cells c mu tl) ⟨w.heap.size,0,vs.length,true⟩ rfl rfl (λm' hm=>vS hc h1 el mu tl m' hm)⟩
def gY(b o n:Nat):(⟨b,o,none⟩:Addr).add n=⟨b,o+n,none⟩:=by
 unfold Addr.add;by_cases h:n=0
 ·simp[h]
 ·simp[h]
def cell_of{P m h w}(hr:HR P m h w){b e c mu tl}(he:m b=some e)(hb:h[b]? =some (.cells c mu tl))
  {i}{x}(hx:c[i]? =some x):x.one=true/\∃v,w.cell? ⟨e.cb,i+e.d,none⟩=some v/\VR m x v:=by
 obtain⟨cc,el,fz,h1,_,h3,_⟩:=hr.dW b e _ he hb;obtain⟨ho,v,hv,Ts⟩:=h3 i x hx;exact⟨ho,v,by simp only[World.cell?,h1];rw[Nat.add_comm];simpa using hv,Ts⟩
def nP{P m h w}(hr:HR P m h w){b e c mu tl}(he:m b=some e)(hb:h[b]? =some (.cells c mu tl))
  (o n:Nat) (hn:o+n<=c.length):∃vs,(loadCells ⟨e.cb,o+e.d,none⟩ n).run P w=.ok ⟨vs⟩ w/\cL m ((c.drop o).take n) vs/\((c.drop o).take n).all AV.one=true:=by
 have Ty:∀j,j<n->∃x,c[o+j]? =some x:=λj hj=>⟨c[o+j],aai Om⟩
 have Uj:∀j,j<n->∃v,w.cell? ⟨e.cb,o+e.d+j,none⟩=some v/\∃x,c[o+j]? =some x/\VR m x v:=by
  intro j hj;obtain⟨x,hx⟩:=Ty j hj;obtain⟨_,v,hv,Ts⟩:=cell_of hr he hb hx;exact⟨v,by rw[show o+e.d+j=o+j+e.d from by omega];exact hv,x,hx,Ts⟩
 obtain⟨f,hf⟩:∃f:Nat->Value,∀j,j<n->w.cell? ⟨e.cb,o+e.d+j,none⟩=some (f j):=
  ⟨λj=>(w.cell? ⟨e.cb,o+e.d+j,none⟩).getD default,λj hj=>by obtain⟨v,hv,_⟩:=Uj j hj;simp[hv]⟩
 have Um:cL m ((c.drop o).take n) ((List.range n).map f):=by
  refine cL.iG (by simp;omega) λi x hx=>?_
  have hi:i<n:=by
   have:=(aad.1 hx).1;simp at this;omega
  rw[abY hi,acB]at hx;obtain⟨v,hv,y,hy,Ts⟩:=Uj i hi;rw[hx]at hy;cases hy;refine⟨f i,by simp[hi],?_⟩;have:=hf i hi;rw[hv]at this;cases this;exact Ts
 refine⟨(List.range n).map f,?_,Um,?_⟩
 ·have:=run_loadCells_list (P:=P) (w:=w) ⟨e.cb,o+e.d,none⟩ ((List.range n).map f) (λj v hj=>by
   have hi:j<n:=by
    have:=(aad.1 hj).1
    simpa using this
   rw[gY];simp[hi]at hj;rw[<-hj];exact hf j hi)
  simpa using this
 ·rw[aaO];intro x hx;have Tu:x∈c:=List.mem_of_mem_drop (abc hx);obtain⟨i,hi,rfl⟩:=acr Tu;exact(cell_of hr he hb (aai hi)).1
def fV(c:List AV)(o:Nat):List AV->List AV
 |[]=>c
 |x::xs=>fV (c.set o x) (o+1) xs
def bJ(h:ah)(b b':Nat)(k:ak)(hb:b<h.length):(h.set b k)[b']? =if b' =b then some k else h[b']? :=by
 rw[List.getElem?_set];by_cases e:b=b'
 ·subst e;simp[hb]
 ·have e':¬b' =b:=λx=>e x.symm
  rw[aao e,aao e']
def pn{w:World}{cb i:Nat}{cc:Array Value}{el:TypeId}{fz:Nat×Nat}(h1:w.heap[cb]? =some (.cells cc el fz))(h:¬(fz.1<=i/\i<fz.2)):w.frozen? ⟨cb,i,none⟩=false:=by
 obtain⟨lo,hi⟩:=fz;simp only[World.frozen?,h1];simp only[acD,abL];simp only at h;omega
def heap_setCell_same{w:World}{cb i:Nat}{cc:Array Value}{el:TypeId}{fz:Nat×Nat}(h1:w.heap[cb]? =some (.cells cc el fz))(v:Value):
  (w.setCell ⟨cb,i,none⟩ v).heap[cb]? =some (.cells (cc.setIfInBounds i v) el fz):=by
 obtain⟨hlt,hk⟩:=aax.1 h1;simp only[World.setCell];rw[aa6 (by rw[Array.size_modify];exact hlt),Array.getElem_modify_self,hk];simp
def AR{P:Program}{m:cw}{h:ah}{w:World}(hr:HR P m h w){b:Nat}{e:tJ}{c:List AV}{tl:Bool}(he:m b=some e)(hb:h[b]? =some (.cells c true tl))
  {i:Nat}(hi:i<c.length) {x:AV}{v:Value}(hx:x.one=true) (hv:VR m x v):
  (store ⟨e.cb,i+e.d,none⟩ v).run P w=.ok () (w.setCell ⟨e.cb,i+e.d,none⟩ v)/\
  HR P m (h.set b (.cells (c.set i x) true tl)) (w.setCell ⟨e.cb,i+e.d,none⟩ v)/\Grow m h w m (h.set b (.cells (c.set i x) true tl)) (w.setCell ⟨e.cb,i+e.d,none⟩ v):=by
 obtain⟨cc,el,fz,h1,⟨h2,h2'⟩,h3,h4,h5⟩:=hr.dW b e _ he hb;have hown:e.own=true:=(h5 (.inl rfl)).1;obtain⟨dV,hfz⟩:=h4 hown;have hbl:b<h.length:=hr.cM _ _ he;have Uj:∃u,w.cell? ⟨e.cb,i+e.d,none⟩=some u:=⟨cc[i+e.d]'Om,by simp only[World.cell?,h1];exact aa6 Om⟩;obtain⟨u,hu⟩:=Uj;have hfr:w.frozen? ⟨e.cb,i+e.d,none⟩=false:=pn h1 (hfz _ Om);have hother:∀k,k≠e.cb->(w.setCell ⟨e.cb,i+e.d,none⟩ v).heap[k]? =w.heap[k]? :=λk hk=>Go.RowKit.Below.heap_setCell w _ v k hk
 have Xt:=heap_setCell_same (i:=i+e.d) h1 v;refine⟨?_,⟨?_,?_,?_,hr.fS,λb' e' hb'=>by simpa using hr.lt b' e' hb'⟩,⟨λ_ _=>rfl,Si,?_,?_,Si,rfl,rfl,rfl,?_⟩⟩
 ·rw[run_store P w _ v .plain (hv.uW hx),hu];simp[hfr]
 ·intro b' e' hb';simpa using hr.cM b' e' hb'
 ·intro b' e' k Ue hk;rw[bJ h b b' _ hbl]at hk;by_cases hbb:b' =b
  ·subst hbb;rw[aas rfl]at hk;cases hk;rw[he]at Ue;cases Ue;refine⟨_,el,fz,Xt,⟨by simpa using h2,by simpa using h2'⟩,?_,λho=>⟨by simpa using dV,λj hj=>hfz j (by simpa using hj)⟩,λz=>⟨hown,λy=>by rw[aaY];exact(h5 (.inl rfl)).2 y⟩⟩;intro j y hy;rw[List.getElem?_set]at hy;by_cases hij:i=j
   ·subst hij;rw[aas rfl,aas hi]at hy;cases hy;refine⟨hx,v,?_,hv⟩;rw[show e.d+i=i+e.d from by omega];rw[abx Om]
   ·rw[aao hij]at hy;obtain⟨ho,u',Xr,hr'⟩:=h3 j y hy;refine⟨ho,u',?_,hr'⟩;rw[ab5 Om];exact Xr
  ·rw[aao hbb]at hk;have h0:=hr.dW b' e' k Ue hk;by_cases hl:k.live=true
   ·refine h0.heap (hother _ ?_);intro hcb;have:=hr.sep b b' e e' _ k (λx=>hbb x.symm) he Ue hb hk hcb.symm;cases k<;>first|(cases hl;done)|exact absurd this.1 Si|exact this
   ·cases k<;>first|trivial|exact absurd rfl hl
 ·intro b1 b2 e1 e2 k1 k2 hne UM TA hk1 Tr hcb;rw[bJ h b _ _ hbl]at hk1 Tr;by_cases TV:b1=b
  ·subst TV;rw[aas rfl]at hk1;cases hk1;rw[aao (λx=>hne x.symm)]at Tr;have:=hr.sep b1 b2 e1 e2 _ k2 hne UM TA hb Tr hcb;cases k2<;>first|trivial|exact absurd this.1 Si|exact this.elim
  ·rw[aao TV]at hk1;by_cases T3:b2=b
   ·subst T3;rw[aas rfl]at Tr;cases Tr;have:=hr.sep b1 b2 e1 e2 k1 _ hne UM TA hk1 hb hcb;cases k1<;>first|trivial|exact absurd this.2.1 Si|exact this.elim
   ·exact OI
 ·intro b' e' hb' Ue;exact absurd (hr.cM _ _ Ue) Om
 ·intro b' hb' ht;unfold eI at ht ⊢;rw[bJ h b b' _ hbl]at ht;by_cases hbb:b' =b
  ·subst hbb;rw[aas rfl]at ht;rw[hb];exact ht
  ·exact EJ
 ·intro k hk hno;exact hother k (λhcb=>hno b e he hown hcb.symm)
theorem pS{P m}:∀(xs:List AV) (vs:List Value) {h}{w}(_:HR P m h w) {b}{e}{c}{tl}(_:m b=some e) (_:h[b]? =some (.cells c true tl))
  (a j:Nat) (_:a+j+xs.length<=c.length) (_:xs.all AV.one=true) (_:cL m xs vs),
  ∃w',(storeCells ⟨e.cb,a+e.d,none⟩ vs j).run P w=.ok () w'/\HR P m (h.set b (.cells (fV c (a+j) xs) true tl)) w'/\Grow m h w m (h.set b (.cells (fV c (a+j) xs) true tl)) w'
 |[],vs,h,w,hr,b,e,c,tl,he,hb,a,j,hlen,h1,hv=>by
  rw[bE]at hv;subst hv;have hbl:b<h.length:=hr.cM _ _ he;have aX:h.set b (.cells (fV c (a+j) []) true tl)=h:=by
   simp only[fV]
   apply acH
   intro i;rw[bJ h b i _ hbl];by_cases hi:i=b
   ·subst hi;simp[hb]
   ·simp[hi]
  exact⟨w,rfl,by rw[aX];exact hr,by rw[aX];exact Grow.refl m h w hr.cM⟩
 |x::xs,vs,h,w,hr,b,e,c,tl,he,hb,a,j,hlen,h1,hv=>by
  obtain⟨v,vs',rfl,hxv,Um⟩:=aQ.1 hv;simp only[abC,aaM]at h1;simp only[aah]at hlen;obtain⟨Tt,hr1,hg1⟩:=AR hr he hb (i:=a+j) Om h1.1 hxv;have hbl:b<h.length:=hr.cM _ _ he;have TV:(h.set b (.cells (c.set (a+j) x) true tl))[b]? =some (.cells (c.set (a+j) x) true tl):=by rw[bJ h b b _ hbl,aas rfl]
  obtain⟨w',hrun',hr',TN⟩:=pS xs vs' hr1 he TV a (j+1) (by simp;omega) h1.2 Um;have aX:(h.set b (.cells (c.set (a+j) x) true tl)).set b (.cells (fV (c.set (a+j) x) (a+(j+1)) xs) true tl)=h.set b (.cells (fV c (a+j) (x::xs)) true tl):=by
   rw[List.set_set];rfl
  rw[aX]at hr' TN;refine⟨w',?_,hr',Grow.trans hg1 TN hr.cM⟩;simp only[storeCells,aaA];rw[gY,show a+e.d+j=a+j+e.d from by omega,Tt];exact hrun'
def fZ(op:BinOp)(k:IntKind)(a b:Int):Option AV:=
 match op with
 |.add=>some (.int k (k.wrap (a+b)))
 |.sub=>some (.int k (k.wrap (a-b)))
 |.mul=>some (.int k (k.wrap (a*b)))
 |.quo=>if b=0 then none else some (.int k (k.wrap (a.tdiv b)))
 |.rem=>if b=0 then none else some (.int k (a.tmod b))
 |.and=>some (.int k (k.wrap (BitVec.ofInt k.bits a &&& BitVec.ofInt k.bits b).toNat))
 |.or=>some (.int k (k.wrap (BitVec.ofInt k.bits a |||BitVec.ofInt k.bits b).toNat))
 |.xor=>some (.int k (k.wrap (BitVec.ofInt k.bits a^^^BitVec.ofInt k.bits b).toNat))
 |.andNot=>some (.int k (k.wrap (BitVec.ofInt k.bits a &&& ~~~ (BitVec.ofInt k.bits b)).toNat))
 |.eql=>some (.bool (a==b))
 |.neq=>some (.bool (a !=b))
 |.lss=>some (.bool (decide (a<b)))
 |.leq=>some (.bool (decide (a<=b)))
 |.gtr=>some (.bool (decide (a > b)))
 |.geq=>some (.bool (decide (a>=b)))
 |_=>none
def rH(op:BinOp)(x y:By):Option AV:=
 match op with
 |.add=>if x.length+y.length<2^62 then some (.str (x++y))else none
 |.eql=>some (.bool (x==y))
 |.neq=>some (.bool !(x==y))
 |.lss=>some (.bool (Op.bytesLess x y))
 |.leq=>some (.bool (Op.bytesLess x y||x==y))
 |.gtr=>some (.bool !(Op.bytesLess x y||x==y))
 |.geq=>some (.bool !(Op.bytesLess x y))
 |_=>none
def yA(op:BinOp)(k:IntKind)(a b:Int):Option AV:=
 if b<0 then none
 else match op with
  |.shl=>some (.int k (k.wrap (a*2^(min b.toNat k.bits))))
  |.shr=>some (.int k (a.fdiv (2^(min b.toNat k.bits))))
  |_=>none
def eX:BinOp->Bool
 |.shl=>true
 |.shr=>true
 |_=>false
def eG(op:BinOp):AV->AV->Option AV
 |.int k a,.int k' b=>if eX op then yA op k a b else if k=k' then fZ op k a b else none
 |.str a,.str b=>rH op a b
 |_,_=>none
def yp(op:UnOp):AV->Option AV
 |.int k n=>
  match op with
  |.neg=>some (.int k (k.wrap (0-n)))
  |.xor=>fZ .xor k (if k.signed then -1 else k.max) n
  |_=>none
 |.bool b=>
  match op with
  |.not=>some (.bool !b)
  |_=>none
 |_=>none
def dz:CK->AV->AV->Option Bool
 |.b,.bool a,.bool b=>some (a==b)
 |.i,.int k a,.int k' b=>if k=k' then some (a==b)else none
 |.s,.str a,.str b=>some (a==b)
 |_,_,_=>none
def dN:List CK->List AV->List AV->Option Bool
 |[],[],[]=>some true
 |k::ks,x::xs,y::ys=>
  match dz k x y with
  |some true=>dN ks xs ys
  |some false=>some false
  |none=>none
 |_,_,_=>none
def An(ks:List CK):AV->AV->Option Bool
 |.agg xs,.agg ys=>if xs.length=ks.length/\ys.length=ks.length then dN ks xs ys else none
 |_,_=>none
def Q5:AV->AV->Option Bool
 |.af,.af=>some true
 |.af,.slice _ _ _ _=>some false
 |.slice _ _ _ _,.af=>some false
 |_,_=>none
def Q6:AV->AV->Option Bool
 |.nilPtr,.nilPtr=>some true
 |.nilPtr,.ptr _ _=>some false
 |.ptr _ _,.nilPtr=>some false
 |_,_=>none
def Q8:AV->AV->Option Bool
 |.nilFunc,.nilFunc=>some true
 |.nilFunc,.func _ _ _=>some false
 |.func _ _ _,.nilFunc=>some false
 |_,_=>none
def Q7:AV->AV->Option Bool
 |.dq,.dq=>some true
 |.dq,.map _=>some false
 |.map _,.dq=>some false
 |_,_=>none
def p9(t:R2)(x y:AV):Option Bool:=
 match t with
 |.one k=>dz k x y
 |.agg ks=>An ks x y
 |.FJ=>Q5 x y
 |.Bl=>Q6 x y
 |.qP=>Q8 x y
 |.M6=>Q7 x y
def byteOf:AV->Option UInt8
 |.int .u8 n=>some (UInt8.ofNat n.toNat)
 |_=>none
def cellsIn(es:Nat)(h:ah):AV->Option (List AV×Nat)
 |.af=>some ([],0)
 |.slice b o n es'=>
  if es' =es then
   match h[b]? with
   |some (.cells c _ _)=>if o+n*es<=c.length then some ((c.drop o).take (n*es),n)else none
   |_=>none
  else none
 |.str s=>if es=1 then some (s.map λb=>.int .u8 b.toNat,s.length)else none
 |_=>none
def kN(k:AJ)(x:AV)(h:ah):Option (AV×ah):=
 match k with
 |.F9 k=>
  match x with
  |.int _ n=>some (.int k (k.wrap n),h)
  |_=>none
 |.same=>
  match x with
  |.str s=>some (.str s,h)
  |_=>none
 |.QN k=>
  match x with
  |.int _ n=>some (.yl k (k.nearest n),h)
  |_=>none
 |.Q3 k=>
  match x with
  |.yl s b=>
   match (s.decode b).toInt .zero with
   |some n=>if FL s b=false/\k.min<=n/\n<=k.max then some (.int k n,h)else none
   |none=>none
  |_=>none
 |.Q4 k=>
  match x with
  |.yl s b=>if s=k then some (.yl k b,h)else none
  |_=>none
 |.vU u=>some (.vU u x,h)
 |.Ob=>
  match x with
  |.af=>some (.str [],h)
  |.slice b o n es=>
   match cellsIn 1 h (.slice b o n es)with
   |some (l,_)=>
    match l.mapM byteOf with
    |some r=>some (.str r,h)
    |none=>none
   |none=>none
  |_=>none
 |.PK=>
  match x with
  |.str s=>some (.slice h.length 0 s.length 1,h++[.cells (s.map λb=>.int .u8 b.toNat) true true])
  |_=>none
def dX(n:Nat)(z:List AV):List AV:=(List.replicate n z).flatten
def eT(c:List AV):List (Nat×Nat×AV)->Option (List AV)
 |[]=>some c
 |(off,n,v)::r=>if v.cells.length=n/\off+n<=c.length then eT (fV c off v.cells) r else none
def Ju:Option AV->Option Int
 |none=>some 0
 |some (.int _ i)=>some i
 |_=>none
def HZ(n:Nat):Option AV->Option Int
 |none=>some n
 |some (.int _ i)=>some i
 |_=>none
def jv(lo hi:Option AV)(n:Nat):Option (Nat×Nat):=
 match Ju lo,HZ n hi with
 |some l,some h=>if 0<=l/\l<=h/\h<=n then some (l.toNat,h.toNat)else none
 |_,_=>none
def jO(kk:CK)(k:AV):List (AV×AV)->Option (Option AV)
 |[]=>some none
 |(a,v)::r=>
  match dz kk k a with
  |some true=>some (some v)
  |some false=>jO kk k r
  |none=>none
def pR(kk:CK)(k v:AV):List (AV×AV)->Option (List (AV×AV))
 |[]=>some [(k,v)]
 |(a,u)::r=>
  match dz kk k a with
  |some true=>some ((k,v)::r)
  |some false=>(pR kk k v r).map ((a,u)::·)
  |none=>none
def qA:AV->AV->Option AV
 |.int k a,.int k' b=>if k=k' then some (.int k (if b > a then b else a))else none
 |_,_=>none
def qz:AV->AV->Option AV
 |.int k a,.int k' b=>if k=k' then some (.int k (if b<a then b else a))else none
 |_,_=>none
def iW(f:AV->AV->Option AV):AV->List AV->Option AV
 |x,[]=>some x
 |x,y::r=>
  match f x y with
  |some z=>iW f z r
  |none=>none
def Bq(lk:LK)(h:ah):AV->Option Nat
 |.str s=>if lk=.st then some s.length else none
 |.slice _ _ n _=>if lk=.sl then some n else none
 |.af=>if lk=.sl then some 0 else none
 |.map r=>
  match h[r]? with
  |some (.bg es)=>if lk=.mp then some es.length else none
  |_=>none
 |.dq=>if lk=.mp then some 0 else none
 |_=>none
def dE(k:pN)(ρ:cZ->AV)(h:ah):Option (AV×ah):=
 match k with
 |.cj x=>some (ρ x,h)
 |.pick c a b=>
  match ρ c with
  |.bool t=>some (if t then ρ a else ρ b,h)
  |_=>none
 |.box x=>if(ρ x).cells.all AV.one then some (.ptr h.length 0,h++[.cells (ρ x).cells true false])else none
 |.pt n x=>if(ρ x).cells.all AV.one=true/\(ρ x).cells.length=n then some (.ptr h.length 0,h++[.cells (ρ x).cells true false])else none
 |.build z ps=>
  match eT z (ps.map λp=>(p.1,p.2.1,ρ p.2.2))with
  |some c=>some (.agg c,h)
  |none=>none
 |.load n a=>
  match ρ a with
  |.ptr b o=>
   match h[b]? with
   |some (.cells c _ _)=>
    match n with
    |none=>
     match c[o]? with
     |some x=>some (x,h)
     |none=>none
    |some n=>if o+n<=c.length then some (.agg ((c.drop o).take n),h)else none
   |_=>none
  |_=>none
 |.store n a x=>
  match ρ a with
  |.ptr b o=>
   match h[b]? with
   |some (.cells c true tl)=>
    if(ρ x).cells.length=n/\(ρ x).cells.all AV.one=true/\o+n<=c.length then some (az,h.set b (.cells (fV c o (ρ x).cells) true tl))else none
   |_=>none
  |_=>none
 |.bT x=>
  match ρ x with
  |.ptr b o=>some (.ptr b o,h)
  |.func (.func f) a c=>some (.func (.func f) a c,h)
  |.func (.yield f) a c=>some (.func (.yield f) a c,h)
  |.func (.methodOf t n) a c=>some (.func (.methodOf t n) a c,h)
  |.func (.via t p f q) a c=>some (.func (.via t p f q) a c,h)
  |_=>none
 |.bin op x y=>
  match eG op (ρ x) (ρ y)with
  |some v=>some (v,h)
  |none=>none
 |.eqv neg t x y=>
  match p9 t (ρ x) (ρ y)with
  |some b=>some (.bool (if neg then !b else b),h)
  |none=>none
 |.un op x=>
  match yp op (ρ x)with
  |some v=>some (v,h)
  |none=>none
 |.conv k x=>kN k (ρ x) h
 |.ve f a c=>some (.func f (a.map ρ) (c.map ρ),h)
 |.oZ=>some (.map h.length,h++[.bg []])
 |.wX es w z l c=>
  match ρ l,ρ c with
  |.int _ l,.int _ c=>
   if 0<=l/\l<=c/\(w:Int)*c<=2^48/\c<2^63 then some (.slice h.length 0 l.toNat es,h++[.cells (dX l.toNat z) true true])else none
  |_,_=>none
 |.sl es x lo hi=>
  match ρ x with
  |.slice b o n es'=>
   if es' =es then
    match jv (lo.map ρ) (hi.map ρ) n with
    |some (l,h')=>some (.slice b (o+l*es) (h'-l) es,h)
    |none=>none
   else none
  |.af=>
   match jv (lo.map ρ) (hi.map ρ) 0 with
   |some _=>some (.af,h)
   |none=>none
  |_=>none
 |.B7 x lo hi=>
  match ρ x with
  |.str s=>
   match jv (lo.map ρ) (hi.map ρ) s.length with
   |some (l,h')=>some (.str ((s.drop l).take (h'-l)),h)
   |none=>none
  |_=>none
 |.OO k es x lo hi=>
  match ρ x with
  |.ptr b o=>
   match h[b]? with
   |some (.cells c _ _)=>
    if o+k*es<=c.length then
     match jv (lo.map ρ) (hi.map ρ) k with
     |some (l,h')=>some (.slice b (o+l*es) (h'-l) es,h)
     |none=>none
    else none
   |_=>none
  |_=>none
 |.bn off x=>
  match ρ x with
  |.ptr b o=>some (.ptr b (o+off),h)
  |_=>none
 |.bw es x i=>
  match ρ x,ρ i with
  |.slice b o n es',.int _ i=>if es' =es/\0<=i/\i<n then some (.ptr b (o+i.toNat*es),h)else none
  |_,_=>none
 |.pe len es x i=>
  match ρ x,ρ i with
  |.ptr b o,.int _ i=>if 0<=i/\i<len then some (.ptr b (o+i.toNat*es),h)else none
  |_,_=>none
 |.part n off x=>
  match ρ x with
  |.agg cs=>
   match n with
   |none=>
    match cs[off]? with
    |some v=>some (v,h)
    |none=>none
   |some n=>some (.agg ((cs.drop off).take n),h)
  |_=>none
 |.KS len es n x i=>
  match ρ x,ρ i with
  |.agg cs,.int _ i=>
   if 0<=i/\i<len then
    match n with
    |none=>
     match cs[i.toNat*es]? with
     |some v=>some (v,h)
     |none=>none
    |some n=>some (.agg ((cs.drop (i.toNat*es)).take n),h)
   else none
  |_,_=>none
 |.Ca x i=>
  match ρ x,ρ i with
  |.str s,.int _ i=>
   if 0<=i then
    match s[i.toNat]? with
    |some b=>some (.int .u8 b.toNat,h)
    |none=>none
   else none
  |_,_=>none
 |.look kk z ok m k=>
  match ρ m with
  |.dq=>some (if ok then .dQ [z,.bool false]else z,h)
  |.map r=>
   match h[r]? with
   |some (.bg es)=>
    match jO kk (ρ k) es with
    |some (some v)=>some (if ok then .dQ [v,.bool true]else v,h)
    |some none=>some (if ok then .dQ [z,.bool false]else z,h)
    |none=>none
   |_=>none
  |_=>none
 |.fY kk m k x=>
  match ρ m with
  |.map r=>
   match h[r]? with
   |some (.bg es)=>
    match pR kk (ρ k) (ρ x) es with
    |some es'=>some (az,h.set r (.bg es'))
    |none=>none
   |_=>none
  |_=>none
 |.CY x=>
  match ρ x with
  |.str s=>some (.ptr h.length 0,h++[.iter s 0])
  |_=>none
 |.r9 x=>
  match ρ x with
  |.ptr b 0=>
   match h[b]? with
   |some (.iter s pos)=>
    if pos<s.length then
     let d:=Utf8.decode ⟨⟨s⟩⟩ pos
     some (.dQ [.bool true,.int .i64 pos,.int .i32 d.1],h.set b (.iter s (pos+d.2)))
    else some (.dQ [.bool false],h)
   |_=>none
  |_=>none
 |.ext x i=>
  match ρ x with
  |.dQ l=>
   match l[i]? with
   |some v=>some (v,h)
   |none=>none
  |_=>none
 |.len lk x=>
  match Bq lk h (ρ x)with
  |some n=>some (.int .i64 n,h)
  |none=>none
 |.Bp n=>some (.int .i64 n,h)
 |.Au es x y=>
  match ρ x,cellsIn es h (ρ y)with
  |.slice b o n es',some (ys,k)=>
   if es' =es then
    if min k n=0 then some (.int .i64 0,h)
    else
     match h[b]? with
     |some (.cells c true tl)=>if o+min k n*es<=c.length then some (.int .i64 (min k n:Nat),h.set b (.cells (fV c o (ys.take (min k n*es))) true tl))else none
     |_=>none
   else none
  |.af,some _=>some (.int .i64 0,h)
  |_,_=>none
 |.mx x l=>
  match iW qA (ρ x) (l.map ρ)with
  |some v=>some (v,h)
  |none=>none
 |.mn x l=>
  match iW qz (ρ x) (l.map ρ)with
  |some v=>some (v,h)
  |none=>none
 |_=>none
inductive yj (es w:Nat) (s y:AV) (h:ah):AV->ah->Prop
 |none (hy:cellsIn es h y=some ([],0)) (hs:s=.af\/∃b o n,s=.slice b o n es):yj es w s y h s h
 |new (ys:List AV) (k:Nat) (mu:Bool) (hy:cellsIn es h y=some (ys,k)) (hk:0<k) (hb:k*w<=2^46) (hs:s=.af):
   yj es w s y h (.slice h.length 0 k es) (h++[.cells ys mu true])
 |on (ys:List AV) (k b o n:Nat) (c:List AV) (mu:Bool) (hy:cellsIn es h y=some (ys,k)) (hk:0<k) (hb:(n+k)*w<=2^46) (hs:s=.slice b o n es)
   (hc:h[b]? =some (.cells c mu true)) (hl:o+n*es=c.length):
   yj es w s y h (.slice h.length 0 (n+k) es) (h.set b (.cells c false false)++[.cells (c.drop o++ys) false true])
 |over (ys:List AV) (k b o n:Nat) (c:List AV) (mu:Bool) (hy:cellsIn es h y=some (ys,k)) (hk:0<k) (hb:(n+k)*w<=2^46) (hs:s=.slice b o n es)
   (hc:h[b]? =some (.cells c true true)) (hl:o+n*es<=c.length):
   yj es w s y h (.slice h.length 0 (n+k) es) (h.set b .dead++[.cells ((c.drop o).take (n*es)++ys) mu true])
 |full (ys:List AV) (k b o n:Nat) (c:List AV) (hy:cellsIn es h y=some (ys,k)) (hk:0<k) (hb:(n+k)*w<=2^46) (hs:s=.slice b o n es)
   (hc:h[b]? =some (.cells c true false)) (hl:o+n*es=c.length):
   yj es w s y h (.slice h.length 0 (n+k) es) (h++[.cells (c.drop o++ys) true true])
def wrap64{n}(h0:-9223372036854775808<=n)(h1:n<9223372036854775808):IntKind.i64.wrap n=n:=by
 show(if(true&&decide (n%(18446744073709551616:Int)>=(9223372036854775808:Int)))=true then n%(18446744073709551616:Int)-18446744073709551616 else n%(18446744073709551616:Int))=n;simp only[abD,aaX];split<;>omega
def Cj{n}(h0:0<=n)(h1:n<256):IntKind.u8.wrap n=n:=by
 show(if(false&&decide (n%(256:Int)>=(128:Int)))=true then n%(256:Int)-256 else n%(256:Int))=n;exact La
def zq{n}(h0:0<=n)(h1:n<18446744073709551616):IntKind.u64.wrap n=n:=by
 show(if(false&&decide (n%(18446744073709551616:Int)>=(9223372036854775808:Int)))=true then n%(18446744073709551616:Int)-18446744073709551616 else n%(18446744073709551616:Int))=n;exact La
def fc(P:Program)(m:cw)(h:ah)(w:World)(v:AV)(h':ah)(r:Result Next):Prop:=
 ∃cv w' m',(r=.ok (.value cv) w'\/(r=.ok .skip w'/\cv=undef))/\VR m' v cv/\HR P m' h' w'/\Grow m h w m' h' w'
def fc.same{P m h w v cv r}(hr:HR P m h w)(hv:VR m v cv)(e:r=.ok (.value cv) w):fc P m h w v h r:=
 ⟨cv,w,m,.inl e,hv,hr,Grow.refl m h w hr.cM⟩
def kv(m:cw):VR m az undef:=⟨[],rfl,rfl⟩
theorem wZ(m:cw)(n:Nat)(ih:∀v a,nf n v=some a->VR m a v):∀(l:List Value) (r:List AV),l.mapM (nf n)=some r->cL m r l
 |[],r,h=>by simp at h;subst h;exact bE.2 rfl
 |v::l,r,h=>by
  simp only[acL,acs,acZ]at h;cases hv:nf n v with
  |none=>simp[hv]at h
  |some a=>
   cases hl:l.mapM (nf n)with
   |none=>simp[hv,hl]at h
   |some r'=>
    simp[hv,hl]at h;subst h;exact aQ.2 ⟨v,l,rfl,ih v a hv,wZ m n ih l r' hl⟩
def rn(m:cw):∀(n:Nat) (v:Value) (a:AV),nf n v=some a->VR m a v
 | 0,v,a,h=>by simp[nf]at h
 |n+1,v,a,h=>by
  unfold nf at h;split at h
  ·cases h;rfl
  ·cases h;rfl
  ·cases h;exact⟨_,rfl,.inl rfl⟩
  ·cases h;exact⟨_,_,rfl,.inl rfl,.inl rfl⟩
  ·cases h;rfl
  ·cases h;rfl
  ·cases h;rfl
  ·cases h;rfl
  ·cases h;rfl
  ·exact Sa
  ·exact Sa
  ·cases h
def cB{P}{t:TypeId}{n}(h:ep P t=some n)(w:World):(sizeOf t).run P w=.ok n w:=by
 unfold ep at h;cases hi:P.info? t with
 |none=>simp[hi]at h
 |some i=>simp[hi]at h;subst h;simp[sizeOf,typeInfo,hi]
def mK{P}{t:TypeId}{d:TypeDesc}(h:P.underlying t=some d)(w:World):(isAgg t).run P w=.ok (kh d) w:=by
 cases d<;>simp[isAgg,aaz h,kh]
def wU{P}{t:TypeId}{n}(h:B9 P t=some (some n))(w:World):(isAgg t).run P w=.ok true w/\ep P t=some n:=by
 unfold B9 at h;split at h
 case h_2=>cases h
 rename_i d hu;split at h
 case isFalse=>simp at h
 rename_i hd;refine⟨by rw[mK hu,hd],?_⟩;cases hi:P.info? t with
 |none=>simp[hi]at h
 |some i=>simp[hi]at h;simp[ep,hi,h]
def wW{P}{t:TypeId}(h:B9 P t=some none)(w:World):(isAgg t).run P w=.ok false w:=by
 unfold B9 at h;split at h
 case h_2=>cases h
 rename_i d hu;split at h
 case isTrue=>cases hi:P.info? t<;>simp[hi]at h
 rename_i hd;rw[mK hu];simp at hd;rw[hd]
def ku{P}{t:TypeId}{z}(h:jW P t=some z)(w:World)(m:cw):∃cz,(zeroValue t).run P w=.ok cz w/\VR m z cz:=by
 unfold jW at h;cases hi:P.info? t with
 |none=>simp[hi]at h
 |some i=>
  cases hz:i.zero with
  |none=>simp[hi,hz]at h
  |some cz=>
   simp[hi,hz]at h;exact⟨cz,by simp[zeroValue,typeInfo,hi,hz],rn m 4 cz z h⟩
section
variable {P:Program}{m:cw}{h h':ah}{w:World}{v:AV}{ρ:cZ->AV}{hr:HR P m h w}
def uf(hr:HR P m h w){x cx}(hx:VR m x cx)(h1:x.cells.all AV.one=true)(t:TypeId)(mu tl:Bool):
  ∃m',(newVar t cx).run P w=.ok ⟨w.heap.size,0,none⟩ (w.alloc (.cells cx.cells t))/\VR m' (.ptr h.length 0) (.pointer (some ⟨w.heap.size,0,none⟩))/\
   HR P m' (h++[.cells x.cells mu tl]) (w.alloc (.cells cx.cells t))/\Grow m h w m' (h++[.cells x.cells mu tl]) (w.alloc (.cells cx.cells t)):=by
 obtain⟨m',h0,h2,h3⟩:=mC hr hx.cells h1 t mu tl;refine⟨m',by simp[newVar,newRow],⟨_,h0,rfl⟩,h2,h3⟩
def CV{t:TypeId}{n a ca}(hn:B9 P t=some n)(hr:HR P m h w)(ha:VR m (ρ a) ca)(hf:dE (.load n a) ρ h=some (v,h')):
  ∃cv,(Instr.loadAt t ca).run P w=.ok cv w/\VR m v cv/\h' =h:=by
 simp only[dE]at hf;split at hf
 case h_2=>cases hf
 rename_i b o hρ;rw[hρ]at ha;obtain⟨e,he,rfl⟩:=ha;split at hf
 case h_2=>cases hf
 rename_i c mu tl hb;cases n with
 |none=>
  simp only at hf;split at hf
  case h_2=>cases hf
  rename_i x hx;cases hf;obtain⟨_,cv,Vp,Ts⟩:=cell_of hr he hb hx;exact⟨cv,by simp[Instr.loadAt,Instr.sureAddr,loadVar,wW hn,Vp],Ts,rfl⟩
 |some n=>
  simp only at hf;split at hf
  case isFalse=>cases hf
  rename_i hle;cases hf;obtain⟨hagg,dV⟩:=wU hn w;obtain⟨vs,Tt,Um,_⟩:=nP hr he hb o n hle;exact⟨.agg ⟨vs⟩,by simp[Instr.loadAt,Instr.sureAddr,loadVar,hagg,cB dV,Tt],⟨vs,rfl,Um⟩,rfl⟩
def Fk{t:TypeId}{n a x ca cx}(hn:ep P t=some n)(hr:HR P m h w)(ha:VR m (ρ a) ca)(hx:VR m (ρ x) cx)(hf:dE (.store n a x) ρ h=some (v,h')):
  ∃w',(Instr.storeAt t ca cx).run P w=.ok () w'/\v=az/\HR P m h' w'/\Grow m h w m h' w':=by
 simp only[dE]at hf;split at hf
 case h_2=>cases hf
 rename_i b o hρ;rw[hρ]at ha;obtain⟨e,he,rfl⟩:=ha;split at hf
 case h_2=>cases hf
 rename_i c tl hb;split at hf
 case isFalse=>cases hf
 rename_i hc;cases hf;obtain⟨h1,h2,h3⟩:=hc;have hcl:=hx.cells;obtain⟨w',Tt,hr',TN⟩:=pS (ρ x).cells cx.cells.toList hr he hb o 0 Om h2 hcl;have hlen:cx.cells.size=n:=by have:=hcl.length;simp at this;omega
 refine⟨w',?_,rfl,hr',TN⟩;simp only[Instr.storeAt,Instr.sureAddr,storeVar,aaA,aaU,aaq,cB hn];simp[hlen,Tt]
def wv(c:List Value)(o:Nat):List Value->List Value
 |[]=>c
 |x::xs=>wv (c.set o x) (o+1) xs
theorem tS{m}:∀{xs}{vs},cL m xs vs->∀{c}{cv}(o:Nat),cL m c cv->cL m (fV c o xs) (wv cv o vs)
 |[],vs,hx,c,cv,o,hc=>by rw[bE]at hx;subst hx;exact hc
 |x::xs,vs,hx,c,cv,o,hc=>by
  obtain⟨v,vs',rfl,hv,Um⟩:=aQ.1 hx;exact tS Um (o+1) (hc.set o hv)
theorem ux(off:Nat):∀(xs:List Value) (k:Nat) (cs:Array Value),(List.foldl (λcs (p:Value×Nat)=>cs.setIfInBounds (off+p.2) p.1) cs (xs.zipIdx k)).toList=wv cs.toList (off+k) xs
 |[],k,cs=>rfl
 |x::xs,k,cs=>by
  simp only[List.zipIdx_cons,ab2,wv];rw[ux off xs (k+1)];simp[Nat.add_assoc]
theorem rk{m}(place:Nat->Option (Nat×Nat)):∀(ps:List (Nat×Value)) (qs:List (Nat×Nat×AV)) (c:List AV) (cc:Array Value) (c':List AV),
  ps.length=qs.length->(∀(i:Nat) p q,ps[i]? =some p->qs[i]? =some q->place p.1=some (q.1,q.2.1)/\VR m q.2.2 p.2)->cL m c cc.toList->eT c qs=some c'->
  ∃T8,Instr.fill place cc ps=some T8/\cL m c' T8.toList
 |[],[],c,cc,c',_,_,hc,hf=>by simp[eT]at hf;subst hf;exact⟨cc,rfl,hc⟩
 |[],q::qs,c,cc,c',hl,_,_,_=>by simp at hl
 |p::ps,[],c,cc,c',hl,_,_,_=>by simp at hl
 |(i,x)::ps,(off,n,y)::qs,c,cc,c',hl,hp,hc,hf=>by
  obtain⟨VD,hxy⟩:=hp 0 (i,x) (off,n,y) Si Si;simp only at VD hxy;simp only[eT]at hf;split at hf
  case isFalse=>cases hf
  rename_i TK;obtain⟨hlen,hle⟩:=TK;have hcells:=hxy.cells;have dV:x.cells.size=n:=by have:=hcells.length;simp at this;omega
  have VS:cc.size=c.length:=by have:=hc.length;simpa using this
  have hfold:(x.cells.zipIdx.foldl (λcs (p:Value×Nat)=>cs.setIfInBounds (off+p.2) p.1) cc).toList=wv cc.toList off x.cells.toList:=by
   rw[<-Array.foldl_toList];have:=ux off x.cells.toList 0 cc
   simpa using this
  obtain⟨T8,h1,h2⟩:=rk place ps qs (fV c off y.cells) (x.cells.zipIdx.foldl (λcs (p:Value×Nat)=>cs.setIfInBounds (off+p.2) p.1) cc) c' (by simpa using hl)
   (λj p q hj hq=>hp (j+1) p q (by simpa using hj) (by simpa using hq)) (by rw[hfold];exact tS hcells off hc) hf
  refine⟨T8,?_,h2⟩;simp only[Instr.fill,VD];rw[aao (by simp;omega)];exact h1
theorem qN{P}{t:TypeId}:∀{ps}{l},mT P t ps=some l->ps.length=l.length/\
  ∀(i:Nat) p q,ps[i]? =some p->l[i]? =some q->jZ P t p.1=some (q.1,q.2.1)/\cW p.2=some q.2.2
 |[],l,h=>by simp[mT]at h;subst h;exact⟨rfl,λi p q hp=>by simp at hp⟩
 |(i,x)::ps,l,h=>by
  simp only[mT]at h;split at h
  case h_2=>cases h
  rename_i off n y r h1 h2 h3;cases h;obtain⟨hl,hp⟩:=qN h3;refine⟨by simp[hl],λj p q hj hq=>?_⟩;cases j with
  |zero=>simp at hj hq;subst hj;subst hq;exact⟨h1,h2⟩
  |succ j=>exact hp j p q (by simpa using hj) (by simpa using hq)
def D5{t:TypeId}{z:AV}{ps:List (Nat×Value)}{cz:Value}{T8:Array Value}(hz:(P.info? t).bind (·.zero)=some cz)(hp:oM P t=true)(hf:Instr.fill (jZ P t) cz.cells ps=some T8):
  P.built t ps=some T8:=by
 unfold Program.built;cases hi:P.info? t with
 |none=>simp[hi]at hz
 |some it=>
  simp[hi]at hz;unfold oM at hp;split at hp
  ·rename_i fs hu;obtain⟨places,hpls⟩:=acj.1 hp;have VD:jZ P t=λi=>places[i]? :=by
    funext i;simp only[jZ,hu,hpls]
   rw[VD]at hf;simp only[hu,hz,hpls]
   simpa using hf
  ·rename_i n e hu;obtain⟨ie,hie⟩:=acj.1 hp;have VD:jZ P t=λi=>some (i*ie.size,ie.size):=by
    funext i;simp only[jZ,hu,hie];rfl
   rw[VD]at hf;simp only[hu,hz,hie];exact hf
  ·cases hp
def Fo{t:TypeId}{z:AV}{ps:Array (Nat×Operand)}{l:List (Nat×Nat×cZ)}{σ:Operand->Value}(hz:jW P t=some z)(hl:mT P t ps.toList=some l)(hp:oM P t=true)
  (hρ:∀p∈ps.toList,∀y,cW p.2=some y->VR m (ρ y) (σ p.2)) (hf:dE (.build z.cells l) ρ h=some (v,h')):
  ∃cv,(Instr.build t (ps.map λ(i,x)=>(i,σ x))).run P w=.ok cv w/\VR m v cv/\h' =h:=by
 simp only[dE]at hf;split at hf
 case h_2=>cases hf
 rename_i c hc;cases hf;obtain⟨hlen,hpq⟩:=qN hl;have ZM:∃cz,(P.info? t).bind (·.zero)=some cz/\VR m z cz:=by
  unfold jW at hz;cases hi:P.info? t with
  |none=>simp[hi]at hz
  |some i=>
   cases hzz:i.zero with
   |none=>simp[hi,hzz]at hz
   |some cz=>simp[hi,hzz]at hz;exact⟨cz,by simp[hzz],rn m 4 cz z hz⟩
 obtain⟨cz,We,Xd⟩:=ZM;obtain⟨T8,UI,Um⟩:=rk (m:=m) (jZ P t) (ps.toList.map λp=>(p.1,σ p.2)) (l.map λp=>(p.1,p.2.1,ρ p.2.2)) z.cells cz.cells c (by simp[hlen])
  (λi p q Y5 hq=>by
   simp only[abz,aaC]at Y5 hq;obtain⟨p0,hp0,rfl⟩:=Y5;obtain⟨q0,hq0,rfl⟩:=hq;obtain⟨h1,h2⟩:=hpq i p0 q0 hp0 hq0;exact⟨h1,hρ p0 (aa8 hp0) _ h2⟩) Xd.cells hc
 refine⟨.agg T8,run_build w t _ T8 ?_,⟨T8.toList,rfl,Um⟩,rfl⟩;have:=D5 (z:=z) We hp UI
 simpa using this
def CU{t:TypeId}{n off l l'}(hn:B9 P t=some n)(hl:cL m l l')
  (hf:(match n with|none=>(match l[off]? with|some v=>some (v,h)|none=>none)|some n=>some (.agg ((l.drop off).take n),h))=some (v,h')):
  ∃cv,(part t ⟨l'⟩ off).run P w=.ok cv w/\VR m v cv/\h' =h:=by
 cases n with
 |none=>
  simp only at hf;split at hf
  case h_2=>cases hf
  rename_i x hx;cases hf;obtain⟨cv,Vp,Ts⟩:=hl.get hx;exact⟨cv,by simp[part,wW hn,Vp],Ts,rfl⟩
 |some n=>
  cases hf;obtain⟨h1,h2⟩:=wU hn w;refine⟨.agg ⟨(l'.drop off).take n⟩,?_,⟨_,rfl,(hl.drop off).take n⟩,rfl⟩;simp only[part,aaA,h1,aaq,aaB,cB h2,aaU];simp[List.extract_eq_take_drop]
end
section
variable {P:Program}{m:cw}{h h':ah}{w:World}
def yE{op k a b v}(hs:eX op=false)(hf:fZ op k a b=some v)(t:TypeId):
  ∃cv,(binOp op t (.int k a) (.int k b)).run P w=.ok cv w/\VR m v cv:=by
 cases op<;>simp only[fZ,eX]at hf hs<;>first
  |(cases hs;done)
  |(cases hf;done)
  |skip
 all_goals first
  |(cases hf;exact⟨_,by simp[binOp,Op.intArith,Op.intBits,Op.intCmp],rfl⟩)
  |(split at hf
    ·cases hf
    ·rename_i hb;cases hf;exact⟨_,by simp[binOp,Op.intDiv,hb],rfl⟩)
def yC{op k k' a b v}(hs:eX op=true)(hf:yA op k a b=some v)(t:TypeId):
  ∃cv,(binOp op t (.int k a) (.int k' b)).run P w=.ok cv w/\VR m v cv:=by
 unfold yA at hf;split at hf
 ·cases hf
 ·rename_i hb;cases op<;>first
   |(cases hs;done)
   |(cases hf;exact⟨_,by simp[binOp,Op.shift,hb],rfl⟩)
def toList_mk(l:By):(⟨⟨l⟩⟩:ByteArray).toList=l:=by rw[ByteArray.toList_eq]
def BQ(a b:By):(⟨⟨a⟩⟩:ByteArray)++⟨⟨b⟩⟩=⟨⟨a++b⟩⟩:=by
 apply ByteArray.ext
 rw[ByteArray.data_append];simp
def yB{op a b v}(hf:rH op a b=some v)(t:TypeId):
  ∃cv,(binOp op t (.string ⟨⟨a⟩⟩) (.string ⟨⟨b⟩⟩)).run P w=.ok cv w/\VR m v cv:=by
 cases op<;>simp only[rH]at hf<;>first
  |(cases hf;done)
  |skip
 all_goals first
  |(cases hf;exact⟨_,by simp[binOp,Op.stringOp,toList_mk],rfl⟩)
  |(split at hf
    ·rename_i hlen;cases hf;refine⟨.string ⟨⟨a++b⟩⟩,?_,rfl⟩;have hn:¬(IntKind.i64.max<(((⟨⟨a⟩⟩:ByteArray).size+(⟨⟨b⟩⟩:ByteArray).size:Nat):Int)):=by
      show ¬((9223372036854775807:Int)<((a.length+b.length:Nat):Int));omega
     simp only[binOp,Op.stringOp,GT.gt,aao hn,BQ,aaU]
    ·cases hf)
def Fp{op x v cx}(hx:VR m x cx)(hf:yp op x=some v):∃cv,(Op.unary op cx).run P w=.ok cv w/\VR m v cv:=by
 cases x with
 |int k n=>
  rw[VR]at hx;subst hx;cases op with
  |neg=>simp only[yp,aaL]at hf;subst hf;exact⟨_,rfl,rfl⟩
  |xor=>simp only[yp,fZ,aaL]at hf;subst hf;exact⟨_,rfl,rfl⟩
  |not=>simp[yp]at hf
  |plus=>simp[yp]at hf
 |bool b=>
  rw[VR]at hx;subst hx;cases op<;>simp only[yp]at hf<;>first
   |(cases hf;done)
   |(cases hf;exact⟨_,by simp[Op.unary],rfl⟩)
 |_=>cases op<;>simp[yp]at hf
def rN{t:TypeId}{k}(ht:match k with|.b=>P.underlying t=some .bool|.i=>∃k,P.underlying t=some (.int k)|.s=>P.underlying t=some .string)
  {x y}{cx cy}{b}(hx:VR m x cx) (hy:VR m y cy) (hf:dz k x y=some b) (d:Nat):(Op.equalIn (d+1) t cx cy).run P w=.ok b w:=by
 unfold dz at hf;split at hf
 ·rw[VR]at hx hy;subst hx;subst hy;cases hf;exact run_equalIn_bool' w d t _ _ ht
 ·split at hf
  ·rename_i hk;rw[VR]at hx hy;subst hx;subst hy;subst hk;cases hf;obtain⟨k',hu⟩:=ht;exact run_equalIn_int w d t _ k' _ _ hu
  ·cases hf
 ·rw[VR]at hx hy;subst hx;subst hy;cases hf;rw[run_equalIn_string w d t _ _ ht,toList_mk,toList_mk]
 ·cases hf
theorem jP:∀(ks ks':List CK) (xs ys xs' ys':List AV) (b:Bool),xs.length=ks.length->ys.length=ks.length->dN (ks++ks') (xs++xs') (ys++ys')=some b->
  (∃c,dN ks xs ys=some c/\((c=true/\dN ks' xs' ys' =some b)\/(c=false/\b=false)))
 |[],ks',[],[],xs',ys',b,_,_,h=>⟨true,rfl,.inl ⟨rfl,h⟩⟩
 |k::ks,ks',x::xs,y::ys,xs',ys',b,hx,hy,h=>by
  simp only[abm,dN]at h ⊢;cases hc:dz k x y with
  |none=>simp[hc]at h
  |some c=>
   cases c with
   |false=>simp[hc]at h;subst h;exact⟨false,Si,.inr ⟨rfl,rfl⟩⟩
   |true=>
    simp only[hc]at h;obtain⟨c,h1,h2⟩:=jP ks ks' xs ys xs' ys' b (by simpa using hx) (by simpa using hy) h;exact⟨c,by simpa using h1,h2⟩
 |[],_,_::_,_,_,_,_,h,_,_=>by simp at h
 |[],_,_,_::_,_,_,_,_,h,_=>by simp at h
 |_::_,_,[],_,_,_,_,h,_,_=>by simp at h
 |_::_,_,_,[],_,_,_,_,h,_=>by simp at h
def jr(d:TypeDesc)(l:List Value):Value:=if kh d then .agg ⟨l⟩else l.headD default
def oD{t:TypeId}{d:TypeDesc}{n}(hd:P.underlying t=some d)(hn:ep P t=some n)(h1:kh d=false->n=1){l off}(hl:off+n<=l.length):
  (part t ⟨l⟩ off).run P w=.ok (jr d ((l.drop off).take n)) w:=by
 unfold jr;cases ha:kh d with
 |true=>
  simp only[part,aaA,mK hd,ha,aaq,aaB,cB hn,aaU];simp[List.extract_eq_take_drop]
 |false=>
  have:=h1 ha;subst this;have hlt:off<l.length:=Om
  simp only[part,aaA,mK hd,ha,aaq];have e:(l.drop off).take 1=[l[off]]:=by
   rw[abj hlt,abV,acM]
  simp[e,hlt]
def uy{d}{t:TypeId}{ks}(hf:flat P d t=some ks):∃ds,P.underlying t=some ds/\(kh ds=false->ks.length=1):=by
 cases d with
 |zero=>simp[flat]at hf
 |succ d=>
  unfold flat at hf;split at hf
  ·exact z130
  ·exact z130
  ·exact z130
  ·rename_i hu;exact⟨_,hu,λh=>by cases h⟩
  ·rename_i hu;exact⟨_,hu,λh=>by cases h⟩
  ·cases hf
def qK{t:TypeId}{fs}(hu:P.underlying t=some (.struct fs)):P.fieldsOf t=fs:=by simp[Program.fieldsOf,hu]
def CX:∀(d:Nat) (t:TypeId) (ks:List CK),flat P d t=some ks->∀(D:Nat),d<=D->∀(ds:TypeDesc),P.underlying t=some ds->
  ∀(xs ys:List AV) (vx vy:List Value) (b:Bool),xs.length=ks.length->ys.length=ks.length->cL m xs vx->cL m ys vy->dN ks xs ys=some b->
  ∀w:World,(Op.equalIn D t (jr ds vx) (jr ds vy)).run P w=.ok b w:=by
 intro d
 induction d with
 |zero=>intro t ks hf;simp[flat]at hf
 |succ d ih=>
  intro t ks hf D hD ds Xh xs ys vx vy b Wr Wq hx hy he w;obtain⟨D,rfl⟩:∃D',D=D'+1:=⟨D-1,Om⟩;have hone:∀{k:CK},ks=[k]->kh ds=false->(match k with|.b=>P.underlying t=some .bool|.i=>∃k,P.underlying t=some (.int k)|.s=>P.underlying t=some .string)->(Op.equalIn (D+1) t (jr ds vx) (jr ds vy)).run P w=.ok b w:=by
   intro k hk hd ht;subst hk
   match xs,ys,Wr,Wq with
   |[x],[y],_,_=>
    obtain⟨cx,_,rfl,YF,h2⟩:=aQ.1 hx;obtain⟨cy,_,rfl,hcy,h3⟩:=aQ.1 hy;rw[bE]at h2 h3;subst h2;subst h3;simp only[dN]at he;have Ue:dz k x y=some b:=by
     cases hc:dz k x y with
     |none=>simp[hc]at he
     |some c=>cases c<;>simp[hc]at he<;>simp[he]
    simp only[jr,hd,List.headD_cons,aa2,aay];exact rN ht YF hcy Ue D
  unfold flat at hf;split at hf
  ·exact Ln
  ·rename_i hu;rw[hu]at Xh;cases Xh;cases hf;exact hone rfl rfl ⟨_,hu⟩
  ·exact Ln
  ·rename_i fs hu;rw[hu]at Xh;cases Xh;split at hf
   case isFalse=>cases hf
   rename_i bN;simp only[jr,kh,aaB];rw[run_equalIn_struct w D t ⟨vx⟩ ⟨vy⟩ (by rw[qK hu];exact hu) bN,qK hu];have key:∀(fl:List Field) (off:Nat) (ks:List CK) (xs ys:List AV) (b:Bool),xR P (flat P d) fl off=some ks->xs.length=ks.length->ys.length=ks.length->
     cL m xs (vx.drop off)->cL m ys (vy.drop off)->dN ks xs ys=some b->(Op.eqFields D ⟨vx⟩ ⟨vy⟩ fl).run P w=.ok b w:=by
    intro fl
    induction fl with
    |nil=>
     intro off ks xs ys b T0 Wr Wq hx hy he;simp only[xR,aaL]at T0;subst T0
     match xs,ys,Wr,Wq with
     |[],[],_,_=>cases he;rfl
    |cons f fl ihf=>
     intro off ks xs ys b T0 Wr Wq hx hy he;simp only[xR]at T0;split at T0
     case h_2=>cases T0
     rename_i k1 i hk1 hi;split at T0
     case isFalse=>cases T0
     rename_i TK;obtain⟨hname,hoff,dV,hpos⟩:=TK;split at T0
     case h_2=>cases T0
     rename_i k2 Tr;cases T0;subst hoff;obtain⟨ds',Wc,h1'⟩:=uy hk1;have Ua:ep P f.type=some k1.length:=by simp[ep,hi,dV]
     have Z3:xs=xs.take k1.length++xs.drop k1.length:=(aaT _ _).symm;have Z2:ys=ys.take k1.length++ys.drop k1.length:=(aaT _ _).symm;simp only[aac]at Wr Wq;rw[Z3,Z2]at he;obtain⟨c,hc1,hc2⟩:=jP k1 k2 _ _ _ _ b (by simp;omega) (by simp;omega) he;have WH:f.offset+k1.length<=vx.length:=by have:=hx.length;simp at this;omega
     have hvy:f.offset+k1.length<=vy.length:=by have:=hy.length;simp at this;omega
     simp only[Op.eqFields,aas hname,aaA,oD Wc Ua (λh=>h1' h) WH,oD Wc Ua (λh=>h1' h) hvy,aaq];rw[ih f.type k1 hk1 D Om ds' Wc _ _ _ _ c (by simp;omega) (by simp;omega) (hx.take k1.length) (hy.take k1.length) hc1 w];rcases hc2 with⟨rfl,hr⟩|⟨rfl,rfl⟩
     ·simp only[aaq,aaD,aa2,aay];exact ihf (f.offset+k1.length) k2 _ _ b Tr (by simp;omega) (by simp;omega) (by have:=hx.drop k1.length;rwa [abB]at this) (by have:=hy.drop k1.length;rwa [abB]at this) hr
     ·simp
   exact key fs.toList 0 ks xs ys b hf Wr Wq (by simpa using hx) (by simpa using hy) he
  ·rename_i len e hu;rw[hu]at Xh;cases Xh;split at hf
   case h_2=>cases hf
   rename_i k1 i hk1 hi;split at hf
   case isFalse=>cases hf
   rename_i TK;obtain⟨dV,hpos⟩:=TK;cases hf;obtain⟨ds',Wc,h1'⟩:=uy hk1;have Ua:ep P e=some k1.length:=by simp[ep,hi,dV]
   simp only[jr,kh,aaB];have key:∀(n j:Nat) (xs ys:List AV) (b:Bool),j+n=len->xs.length=(List.replicate n k1).flatten.length->ys.length=(List.replicate n k1).flatten.length->
     cL m xs (vx.drop (j*k1.length))->cL m ys (vy.drop (j*k1.length))->dN (List.replicate n k1).flatten xs ys=some b->
     (forIn (m:=Sem) (List.range' j n) ((none,()):Option Bool×Unit) λ(i:Nat) (_:Option Bool×Unit)=>do
      let a <-part e ⟨vx⟩ (i*k1.length)
      let c <-part e ⟨vy⟩ (i*k1.length)
      let r <-Op.equalIn D e a c
      if(!r)=true then pure (ForInStep.done (some false,()))else pure (ForInStep.yield (none,()))).run P w=.ok (if b then(none,())else(some false,())) w:=by
    intro n
    induction n with
    |zero=>
     intro j xs ys b _ Wr Wq _ _ he;simp only[acR,List.flatten_nil,aal]at Wr Wq he
     match xs,ys,Wr,Wq with
     |[],[],_,_=>cases he;rfl
    |succ n ihn=>
     intro j xs ys b hj Wr Wq hx hy he;simp only[abW,abr,aac]at Wr Wq he;have Z3:xs=xs.take k1.length++xs.drop k1.length:=(aaT _ _).symm;have Z2:ys=ys.take k1.length++ys.drop k1.length:=(aaT _ _).symm;rw[Z3,Z2]at he;obtain⟨c,hc1,hc2⟩:=jP k1 _ _ _ _ _ b (by simp;omega) (by simp;omega) he;have WH:j*k1.length+k1.length<=vx.length:=by have:=hx.length;simp at this;omega
     have hvy:j*k1.length+k1.length<=vy.length:=by have:=hy.length;simp at this;omega
     simp only[List.range'_succ,List.forIn_cons,aaA,oD Wc Ua (λh=>h1' h) WH,oD Wc Ua (λh=>h1' h) hvy,aaq];rw[ih e k1 hk1 D Om ds' Wc _ _ _ _ c (by simp;omega) (by simp;omega) (hx.take k1.length) (hy.take k1.length) hc1 w];rcases hc2 with⟨rfl,hr⟩|⟨rfl,rfl⟩
     ·simp only[aaq,aaD,aa2,aay,aaU];exact ihn (j+1) _ _ b Om (by rw[abv];omega) (by rw[abv];omega) (by have:=hx.drop k1.length;rw[abB]at this;rwa [aby]) (by have:=hy.drop k1.length;rw[abB]at this;rwa [aby]) hr
     ·simp
   have hk:=key len 0 xs ys b Om Wr Wq (by simpa using hx) (by simpa using hy) he;simp only[Op.equalIn,aaA,aaz hu,aaq,cB Ua,Std.Legacy.Range.forIn_eq_forIn_range',Std.Legacy.Range.size];simp only[Nat.sub_zero,Nat.add_one_sub_one,Nat.div_one];rw[hk];cases b<;>rfl
  ·cases hf
end
def pM(m:cw)(ρ:cZ->AV):Option cZ->Option Value->Prop
 |none,none=>True
 |some x,some cx=>VR m (ρ x) cx
 |_,_=>False
section
variable {P:Program}{m:cw}{h h':ah}{w:World}{ρ:cZ->AV}{v:AV}
def fF{t e:TypeId}{i:TypeInfo}(hs:eA P t=some (e,i)):P.underlying t=some (.slice e)/\P.info? e=some i:=by
 unfold eA at hs;split at hs
 ·rename_i e' hu;cases hi:P.info? e' with
  |none=>simp[hi]at hs
  |some i'=>simp[hi]at hs;obtain⟨rfl,rfl⟩:=hs;exact⟨hu,hi⟩
 ·cases hs
def jV(n:Nat)(z:List AV):(dX n z).length=n*z.length:=by simp[dX]
def tK{z:List AV}{cz:Array Value}(hz:cL m z cz.toList)(hpos:0<z.length)(n k:Nat)(hk:k<=n):
  cL m (dX k z) (((Array.range (n*cz.size)).map (cz[·% cz.size]!)).toList.take (k*z.length)):=by
 have dV:cz.size=z.length:=by have:=hz.length;simpa using this
 refine cL.iG ?_ ?_
 ·rw[jV];simp[dV,abT hk]
 ·intro i x hx;have hi:i<k*z.length:=by have:=(aad.1 hx).1;rw[jV]at this;exact this
  have hmod:i%z.length<z.length:=Nat.mod_lt _ hpos;have Ty:(dX k z)[i]? =z[i%z.length]? :=by
   clear hx hk;unfold dX
   induction k generalizing i with
   |zero=>omega
   |succ k ih=>
    rw[abW,abr];by_cases hlt:i<z.length
    ·rw[aag hlt,Nat.mod_eq_of_lt hlt]
    ·rw[aan Om,ih (i-z.length) (by rw[aby]at hi;omega) (Nat.mod_lt _ hpos)];congr 1;rw[<-Nat.mod_eq_sub_mod Om]
  rw[Ty]at hx;obtain⟨y,hy,hr⟩:=hz.get hx;refine⟨y,?_,hr⟩;have hin:i<n*z.length:=aa7 hi (abl _ hk);rw[abY hi,abI,Array.getElem?_map,Array.getElem?_range,dV,aas hin];simp only[aca,aaL];rw[getElem!_pos cz _ Om];have:=(aad.1 hy).2
  simpa using this
def Cg{z}(hz:z.all AV.one=true)(n:Nat):(dX n z).all AV.one=true:=by
 rw[aaO]at hz ⊢;intro x hx;simp only[dX,List.mem_flatten,List.mem_replicate]at hx;obtain⟨l,⟨_,rfl⟩,hx⟩:=hx;exact hz x hx
def IT{t e:TypeId}{i:TypeInfo}{z:AV}{l c:cZ}{cl cc:Value}(hs:eA P t=some (e,i))(hz:jW P e=some z)(hpos:0<i.size)(hzl:z.cells.length=i.size)(h1:z.cells.all AV.one=true)
  (hr:HR P m h w) (hl:VR m (ρ l) cl) (hc:VR m (ρ c) cc) (hf:dE (.wX i.size i.bytes z.cells l c) ρ h=some (v,h')):
  ∃cv w' m',(Instr.makeSlice t cl cc).run P w=.ok cv w'/\VR m' v cv/\HR P m' h' w'/\Grow m h w m' h' w':=by
 obtain⟨hu,hi⟩:=fF hs;simp only[dE]at hf;split at hf
 case h_2=>cases hf
 rename_i kl l' kc c' hρl hρc;rw[hρl,VR]at hl;rw[hρc,VR]at hc;subst hl;subst hc;split at hf
 case isFalse=>cases hf
 rename_i TK;obtain⟨h0,hlc,hb,hc63⟩:=TK;cases hf;obtain⟨cz,We,Xd⟩:=ku hz w m;have hzc:=Xd.cells;obtain⟨n,rfl⟩:=Int.eq_ofNat_of_zero_le (Int.le_trans h0 hlc);obtain⟨k,rfl⟩:=Int.eq_ofNat_of_zero_le h0;have hkn:k<=n:=Om
 have hwl:IntKind.i64.wrap (k:Int)=k:=wrap64 Om Om;have hwc:IntKind.i64.wrap (n:Int)=n:=wrap64 Om Om;have dV:cz.cells.size=z.cells.length:=by have:=hzc.length;simpa using this
 let row:Array Value:=(Array.range (n*cz.cells.size)).map (cz.cells[·% cz.cells.size]!)
 have hrow:cL m (dX k z.cells) (row.toList.take (k*z.cells.length)):=tK hzc Om n k hkn;have hrs:row.size=n*i.size:=by simp[row,dV,hzl]
 let e':tJ:=⟨w.heap.size,0,row.size,true⟩
 have Ze:=kP hr (.cells row e) (.cells (dX k z.cells) true true) e' rfl rfl (λm' hm=>by
  refine⟨row,e,(0,0),World.alloc_heap_new w _,⟨?_,?_,rfl⟩,?_,λ_=>⟨rfl,λi _=>by simp⟩,λ_=>⟨rfl,λx=>by cases x⟩⟩
  ·exact LP
  ·exact LP
  ·intro j x hx;obtain⟨y,hy,Ts⟩:=hrow.get hx;have hj:j<k*z.cells.length:=by have:=(aad.1 hx).1;rw[jV]at this;exact this
   rw[abY hj]at hy;refine⟨aaO.1 (Cg h1 k) x (aa8 hx),y,?_,VR.mono hm _ _ Ts⟩;show row[0+j]? =some y;rw[aa4,<-abI];exact hy)
 refine⟨.slice (some ⟨w.heap.size,0,none⟩) k n,w.alloc (.cells row e),m.add h.length e',?_,⟨e',⟨w.heap.size,0,none⟩,n,by simp[cw.add],rfl,hkn,λ_=>rfl,?_⟩,Ze.1,Ze.2⟩
 ·have TH:(sizeOf e).run P w=.ok i.size w:=cB (by simp[ep,hi]) w;have U9:¬((i.bytes:Int)*n > 2^48):=Om
  have XJ:(typeInfo e).run P w=.ok i w:=by simp[typeInfo,hi]
  have Yc:¬((n:Int)<0):=Om
  have hk0:¬((k:Int)<0):=Om
  have hkn':¬((k:Int)> (n:Int)):=Om
  simp only[Instr.makeSlice,aaA,aaz hu,aaq,asInt,asIntOf,aaU,XJ,hwl,hwc,Yc,hk0,hkn',U9];simp only[aaJ,Bool.or_self,aa2,aay,run_askRoom,aaq,TH,Int.toNat_natCast,aaA,Sem.run_ite,aaU,We];by_cases ZM:n*i.size=0
  ·simp only[ZM,aaB,aaq,newRow,run_newObj,aaA,aaU];have:row=#[]:=by apply Array.eq_empty_of_size_eq_zero;omega
   have e0:(Array.range 0).map (λx=>(#[] :Array Value)[x%(#[] :Array Value).size]!)=#[]:=Si
   rw[this,e0];rfl
  ·simp only[ZM,aay,aaq,newRow,run_newObj,aaA,aaU];have:row=(Array.range (n*i.size)).map (cz.cells[·% cz.cells.size]!):=by show(Array.range (n*cz.cells.size)).map _=_;rw[dV,hzl]
   rw[this];rfl
 ·show 0+0+n*i.size<=row.size;omega
def mU{lo hi}{n l u:Nat}(hb:jv lo hi n=some (l,u)):l<=u/\u<=n/\Ju lo=some (l:Int)/\HZ n hi=some (u:Int):=by
 unfold jv at hb;split at hb
 case h_2=>cases hb
 rename_i a b ha hb';split at hb
 case isFalse=>cases hb
 rename_i hc;obtain⟨h0,h1,h2⟩:=hc;simp only[aaL,acG]at hb;obtain⟨rfl,rfl⟩:=hb;exact⟨Om,Om,by rw[ha];congr 1;omega,by rw[hb'];congr 1;omega⟩
def gq{lo hi Xa Wl}(hlo:pM m ρ lo Xa)
  (hhi:pM m ρ hi Wl) {n l u}(hb:jv (lo.map ρ) (hi.map ρ) n=some (l,u)) (isSlice:Bool) (cap:Nat) (hcap:n<=cap):
  (Instr.sliceBounds isSlice n cap Xa Wl none).run P w=.ok (l,u,cap) w:=by
 obtain⟨Yy,hun,h1,h2⟩:=mU hb;have hh:∀(x:cZ) (cx:Value),VR m (ρ x) cx->HZ n (some (ρ x))=some (u:Int)->∃k,cx=.int k u:=by
  intro x cx hx hu;cases hρ:ρ x<;>simp[HZ,hρ]at hu;subst hu;rw[hρ,VR]at hx;exact⟨_,hx⟩
 have hl:∀(x:cZ) (cx:Value),VR m (ρ x) cx->Ju (some (ρ x))=some (l:Int)->∃k,cx=.int k l:=by
  intro x cx hx hu;cases hρ:ρ x<;>simp[Ju,hρ]at hu;subst hu;rw[hρ,VR]at hx;exact⟨_,hx⟩
 have hcu:(u:Int)<=cap:=Om
 have hlu':(l:Int)<=u:=Om
 have hbu:∀(k:IntKind) (code:BoundsCode) (w:World),(Instr.sliceBound (.int k u) cap code).run P w=.ok u w:=by
  intro k code w;simp[Instr.sliceBound,asIntOf,hcu]<;>omega
 have hbl:∀(k:IntKind) (code:BoundsCode) (w:World),(Instr.sliceBound (.int k l) u code).run P w=.ok l w:=by
  intro k code w;simp[Instr.sliceBound,asIntOf]<;>omega
 cases lo with
 |none=>
  cases Xa with
  |some _=>exact hlo.elim
  |none=>
   simp only[acE,Ju,aaL]at h1;cases hi with
   |none=>
    cases Wl with
    |some _=>exact hhi.elim
    |none=>
     simp only[acE,HZ,aaL]at h2;have hn:u=n:=Om
     have YB:l=0:=Om
     subst hn;subst YB;simp[Instr.sliceBounds]
   |some y=>
    cases Wl with
    |none=>exact hhi.elim
    |some cy=>
     obtain⟨k,rfl⟩:=hh y cy hhi h2;have YB:l=0:=Om
     subst YB;simp[Instr.sliceBounds,hbu]
 |some x=>
  cases Xa with
  |none=>exact hlo.elim
  |some cx=>
   obtain⟨kx,rfl⟩:=hl x cx hlo h1;cases hi with
   |none=>
    cases Wl with
    |some _=>exact hhi.elim
    |none=>
     simp only[acE,HZ,aaL]at h2;have hn:u=n:=Om
     subst hn;simp[Instr.sliceBounds,hbl]
   |some y=>
    cases Wl with
    |none=>exact hhi.elim
    |some cy=>
     obtain⟨k,rfl⟩:=hh y cy hhi h2;simp[Instr.sliceBounds,hbu,hbl]
def extract_mk(s:By)(l u:Nat):(⟨⟨s⟩⟩:ByteArray).extract l u=⟨⟨(s.drop l).take (u-l)⟩⟩:=by
 apply ByteArray.ext
 simp[ByteArray.data_extract,List.extract_eq_take_drop]
def PH{t:TypeId}{es x lo hi cx Xa Wl}{e:TypeId}(hu:P.underlying t=some (.slice e))(hes:ep P e=some es)
  (hx:VR m (ρ x) cx) (hlo:pM m ρ lo Xa)
  (hhi:pM m ρ hi Wl) (hf:dE (.sl es x lo hi) ρ h=some (v,h')):
  ∃cv,(Instr.sliceAt t cx Xa Wl none).run P w=.ok cv w/\VR m v cv/\h' =h:=by
 simp only[dE]at hf;split at hf
 ·rename_i b o n es' hρ;rw[hρ]at hx;obtain⟨en,ca,cap,T5,rfl,TO,T7,hroom⟩:=hx;split at hf
  case isFalse=>cases hf
  rename_i hees;subst hees;split at hf
  case h_2=>cases hf
  rename_i l u hb;cases hf;obtain⟨Yy,hun,_,_⟩:=mU hb;refine⟨.slice (some (if cap=l then ca else ca.add (l*es'))) (u-l) (cap-l),?_,⟨en,_,cap-l,T5,rfl,Om,?_,?_⟩,rfl⟩
  ·simp only[Instr.sliceAt,aaA,aaz hu,aaq,Instr.slice,gq hlo hhi hb true cap TO,cB hes,aaU];by_cases hcl:cap=l<;>simp[hcl]
  ·intro hpos;rw[aao Om,T7 Om,gY];simp only[Addr.mk.injEq,ac3,and_true];omega
  ·have:cap=l+(cap-l):=Om
   rw[this,acC]at hroom;omega
 ·rename_i hρ;rw[hρ,VR]at hx;subst hx;split at hf
  case h_2=>cases hf
  rename_i p hb;obtain⟨l,u⟩:=p;cases hf;obtain⟨Yy,hun,_,_⟩:=mU hb;have YB:l=0:=Om
  have Wo:u=0:=Om
  subst YB;subst Wo;refine⟨.slice none 0 0,?_,rfl,rfl⟩;simp only[Instr.sliceAt,aaA,aaz hu,aaq,Instr.slice,gq hlo hhi hb true 0 (aar _),cB hes,aaU];simp
 ·cases hf
def Mz{t:TypeId}{x lo hi cx Xa Wl}(hu:P.underlying t=some .string)
  (hx:VR m (ρ x) cx) (hlo:pM m ρ lo Xa)
  (hhi:pM m ρ hi Wl) (hf:dE (.B7 x lo hi) ρ h=some (v,h')):
  ∃cv,(Instr.sliceAt t cx Xa Wl none).run P w=.ok cv w/\VR m v cv/\h' =h:=by
 simp only[dE]at hf;split at hf
 case h_2=>cases hf
 rename_i s hρ;rw[hρ,VR]at hx;subst hx;split at hf
 case h_2=>cases hf
 rename_i l u hb;cases hf;refine⟨.string ((⟨⟨s⟩⟩:ByteArray).extract l u),?_,by rw[extract_mk];rfl,rfl⟩;have hs:(⟨⟨s⟩⟩:ByteArray).size=s.length:=rfl;simp only[Instr.sliceAt,aaA,aaz hu,aaq,Instr.slice];simp[hs,gq hlo hhi hb false s.length (aar _)]
def MA{t:TypeId}{k es x lo hi cx Xa Wl}{e:TypeId}(hu:P.underlying t=some (.array k e))(hes:ep P e=some es)(hr:HR P m h w)
  (hx:VR m (ρ x) cx) (hlo:pM m ρ lo Xa)
  (hhi:pM m ρ hi Wl) (hf:dE (.OO k es x lo hi) ρ h=some (v,h')):
  ∃cv,(Instr.sliceAt t cx Xa Wl none).run P w=.ok cv w/\VR m v cv/\h' =h:=by
 simp only[dE]at hf;split at hf
 case h_2=>cases hf
 rename_i b o hρ;rw[hρ]at hx;obtain⟨en,T5,rfl⟩:=hx;split at hf
 case h_2=>cases hf
 rename_i c mu tl hbk;split at hf
 case isFalse=>cases hf
 rename_i hle;split at hf
 case h_2=>cases hf
 rename_i l u hb;cases hf;obtain⟨Yy,hun,_,_⟩:=mU hb;obtain⟨_,_,_,_,⟨_,dV⟩,_⟩:=hr.dW b en _ T5 hbk;refine⟨.slice (some (if k=l then⟨en.cb,o+en.d,none⟩else(⟨en.cb,o+en.d,none⟩:Addr).add (l*es))) (u-l) (k-l),?_,⟨en,_,k-l,T5,rfl,Om,?_,?_⟩,rfl⟩
 ·simp only[Instr.sliceAt,aaA,aaz hu,aaq,Instr.sureAddr,aaU,gq hlo hhi hb false k (aar _),cB hes]
 ·intro hpos;rw[aao Om,gY];simp only[Addr.mk.injEq,ac3,and_true];omega
 ·have:k=l+(k-l):=Om
  rw[this,acC]at hle;omega
def rM{a f n}(hn:ep P f.type=some n)(hpos:0<n):(fieldPlace a f).run P w=.ok (a.add f.offset) w:=by
 have:n≠0:=Om
 simp[fieldPlace,cB hn,this]
def IX{t:TypeId}{i n f x cx}(hfa:fieldAt P t i=some f)(hn:ep P f.type=some n)(hpos:0<n)(hx:VR m (ρ x) cx)(hf:dE (.bn f.offset x) ρ h=some (v,h')):
  ∃cv,(Instr.fieldAt t cx i).run P w=.ok cv w/\VR m v cv/\h' =h:=by
 unfold Abs.fieldAt at hfa;split at hfa
 case h_2=>cases hfa
 rename_i fs hu;simp only[dE]at hf;split at hf
 case h_2=>cases hf
 rename_i b o hρ;cases hf;rw[hρ]at hx;obtain⟨e,he,rfl⟩:=hx;refine⟨_,?_,⟨e,he,rfl⟩,rfl⟩;simp only[Instr.fieldAt,aaA,aaz hu,aaq,hfa,Instr.sureAddr,aaU,rM hn hpos,gY];rw[Nat.add_right_comm]
def IV{t e:TypeId}{es x i cx ci}(hu:P.underlying t=some (.slice e))(hes:ep P e=some es)(hx:VR m (ρ x) cx)(hi:VR m (ρ i) ci)(hf:dE (.bw es x i) ρ h=some (v,h')):
  ∃cv,(Instr.indexAt t cx ci).run P w=.ok cv w/\VR m v cv/\h' =h:=by
 simp only[dE]at hf;split at hf
 case h_2=>cases hf
 rename_i b o n es' k j Ul VV;rw[Ul]at hx;rw[VV,VR]at hi;subst hi;obtain⟨en,ca,cap,T5,rfl,TO,T7,hroom⟩:=hx;split at hf
 case isFalse=>cases hf
 rename_i hc;obtain⟨rfl,h0,h1⟩:=hc;cases hf;refine⟨_,?_,⟨en,T5,rfl⟩,rfl⟩;simp only[Instr.indexAt,asIntOf,aaA,aaU,aaq,aaz hu];rw[aas ⟨h0,h1⟩];simp only[aaA,cB hes,aaq,aaU,T7 Om,gY];rw[Nat.add_right_comm]
def IW{t e:TypeId}{len es x i cx ci}(hu:P.underlying t=some (.array len e))(hes:ep P e=some es)(hx:VR m (ρ x) cx)(hi:VR m (ρ i) ci)(hf:dE (.pe len es x i) ρ h=some (v,h')):
  ∃cv,(Instr.indexAt t cx ci).run P w=.ok cv w/\VR m v cv/\h' =h:=by
 simp only[dE]at hf;split at hf
 case h_2=>cases hf
 rename_i b o k j Ul VV;rw[Ul]at hx;rw[VV,VR]at hi;subst hi;obtain⟨en,T5,rfl⟩:=hx;split at hf
 case isFalse=>cases hf
 rename_i hc;obtain⟨h0,h1⟩:=hc;cases hf;refine⟨_,?_,⟨en,T5,rfl⟩,rfl⟩;simp only[Instr.indexAt,asIntOf,aaA,aaU,aaq,aaz hu,Instr.sureAddr];rw[aas ⟨h0,h1⟩];simp only[aaA,cB hes,aaq,aaU,gY];rw[Nat.add_right_comm]
def Fl{t:TypeId}{i f n x cx}(hfa:fieldAt P t i=some f)(hn:B9 P f.type=some n)(hx:VR m (ρ x) cx)(hf:dE (.part n f.offset x) ρ h=some (v,h')):
  ∃cv,(Instr.field t cx i).run P w=.ok cv w/\VR m v cv/\h' =h:=by
 unfold Abs.fieldAt at hfa;split at hfa
 case h_2=>cases hfa
 rename_i fs hu;simp only[dE]at hf;split at hf
 case h_2=>cases hf
 rename_i cs hρ;rw[hρ]at hx;obtain⟨l',rfl,hl⟩:=hx;obtain⟨cv,h1,h2,h3⟩:=CU (w:=w) hn hl (by cases n<;>exact hf);exact⟨cv,by simp only[Instr.field,aaA,aaz hu,aaq,hfa,asAgg,aaU,h1],h2,h3⟩
def MC{t e:TypeId}{len es n x i cx ci}(hu:P.underlying t=some (.array len e))(hes:ep P e=some es)(hn:B9 P e=some n)(hx:VR m (ρ x) cx)(hi:VR m (ρ i) ci)
  (hf:dE (.KS len es n x i) ρ h=some (v,h')):∃cv,(Instr.index t cx ci).run P w=.ok cv w/\VR m v cv/\h' =h:=by
 simp only[dE]at hf;split at hf
 case h_2=>cases hf
 rename_i cs k j Ul VV;rw[Ul]at hx;rw[VV,VR]at hi;subst hi;obtain⟨l',rfl,hl⟩:=hx;split at hf
 case isFalse=>cases hf
 rename_i hc;obtain⟨cv,h1,h2,h3⟩:=CU (w:=w) (off:=j.toNat*es) hn hl (by cases n<;>exact hf);refine⟨cv,?_,h2,h3⟩;simp only[Instr.index,asIntOf,aaA,aaU,aaq,aaz hu];rw[aas hc];simp only[aaA,cB hes,aaq,h1]
def MB{t:TypeId}{x i cx ci}(hu:P.underlying t=some .string)(hx:VR m (ρ x) cx)(hi:VR m (ρ i) ci)
  (hf:dE (.Ca x i) ρ h=some (v,h')):∃cv,(Instr.index t cx ci).run P w=.ok cv w/\VR m v cv/\h' =h:=by
 simp only[dE]at hf;split at hf
 case h_2=>cases hf
 rename_i s k j Ul VV;rw[Ul,VR]at hx;rw[VV,VR]at hi;subst hi;subst hx;split at hf
 case isFalse=>cases hf
 rename_i h0;split at hf
 case h_2=>cases hf
 rename_i b hb;cases hf;refine⟨.int .u8 b.toNat,?_,rfl,rfl⟩;have hb':(⟨⟨s⟩⟩:ByteArray)[j.toNat]? =some b:=by
  show(if h:j.toNat<s.length then some (s[j.toNat])else none)=some b;obtain⟨hlt,he⟩:=aad.1 hb;rw[dif_pos hlt,he]
 simp only[Instr.index,asIntOf,aaA,aaU,aaq,aaz hu,aas h0,hb']
end
def ak.isObj:ak->Bool
 |.bg _=>true
 |.iter _ _=>true
 |.loop _ _ _ _ _ _=>true
 |_=>false
section
variable {P:Program}{m:cw}{h h':ah}{w:World}{ρ:cZ->AV}{v:AV}
def kB(hr:HR P m h w){b e k k' o}(he:m b=some e)(hb:h[b]? =some k)(hk:k.isObj=true)(hk':k'.isObj=true\/k' =.dead)
  (hnew:BR P m (w.putObj e.cb o) e k'):HR P m (h.set b k') (w.putObj e.cb o)/\Grow m h w m (h.set b k') (w.putObj e.cb o):=by
 have hbl:b<h.length:=hr.cM _ _ he;have XG:k.live=true:=by cases k<;>first|rfl|cases hk
 have hown:e.own=true:=by
  have:=hr.dW b e k he hb;cases k<;>first|exact this.1|(cases hk;done)
 have hother:∀i,i≠e.cb->(w.putObj e.cb o).heap[i]? =w.heap[i]? :=λi hi=>World.putObj_heap_other hi
 have hsep:∀b' e' k2,b'≠b->m b' =some e'->h[b']? =some k2->k2.live=true->e'.cb≠e.cb:=by
  intro b' e' k2 hne Ue Tr hl hcb;have:=hr.sep b' b e' e k2 k hne Ue he Tr hb hcb;cases k<;>cases k2<;>first|exact this|(cases hk;done)|(cases hl;done)
 refine⟨⟨?_,?_,?_,hr.fS,λb' e' hb'=>by simpa using hr.lt b' e' hb'⟩,⟨λ_ _=>rfl,Si,?_,?_,Si,rfl,rfl,rfl,?_⟩⟩
 ·intro b' e' hb';simpa using hr.cM b' e' hb'
 ·intro b' e' k2 Ue Tr;rw[bJ h b b' _ hbl]at Tr;by_cases hbb:b' =b
  ·subst hbb;rw[aas rfl]at Tr;cases Tr;rw[he]at Ue;cases Ue;exact hnew
  ·rw[aao hbb]at Tr;have h0:=hr.dW b' e' k2 Ue Tr;by_cases hl:k2.live=true
   ·exact h0.heap (hother _ (hsep b' e' k2 hbb Ue Tr hl))
   ·exact z139
 ·intro b1 b2 e1 e2 k1 k2 hne UM TA hk1 Tr hcb;rw[bJ h b _ _ hbl]at hk1 Tr;by_cases TV:b1=b
  ·subst TV;rw[aas rfl]at hk1;cases hk1;rw[aao (λx=>hne x.symm)]at Tr;rw[he]at UM;cases UM;by_cases hl:k2.live=true
   ·exact absurd hcb.symm (hsep b2 e2 k2 (λx=>hne x.symm) TA Tr hl)
   ·cases k2<;>first|(cases k'<;>trivial)|exact absurd rfl hl
  ·rw[aao TV]at hk1;by_cases T3:b2=b
   ·subst T3;rw[aas rfl]at Tr;cases Tr;rw[he]at TA;cases TA;by_cases hl:k1.live=true
    ·exact absurd hcb (hsep b1 e1 k1 hne UM hk1 hl)
    ·cases k1<;>first|trivial|exact absurd rfl hl
   ·exact OI
 ·intro b' e' hb' Ue;exact absurd (hr.cM _ _ Ue) Om
 ·intro b' hb' ht;unfold eI at ht ⊢;rw[bJ h b b' _ hbl]at ht;by_cases hbb:b' =b
  ·subst hbb;rw[aas rfl]at ht;rcases hk' with hk'|hk'
   ·cases k'<;>first|(cases hk';done)|(cases ht;done)
   ·subst hk';cases ht
  ·exact EJ
 ·intro i hi hno;exact hother i (λhcb=>hno b e he hown hcb.symm)
def kX{r o}(ho:w.heap[r]? =some o)(hc:o.isCells=false):(getObj r).run P w=.ok o w:=by
 cases o<;>first|(cases hc;done)|simp[getObj,Sem.run,ho]
def nJ{r o o'}(ho:w.heap[r]? =some o)(hc:o.isCells=false):(setObj r o').run P w=.ok () (w.putObj r o'):=by
 cases o<;>first|(cases hc;done)|simp[setObj,Sem.run,ho,World.putObj]
def IQ{t:TypeId}{x cx}(hu:P.underlying t=some .string)(hr:HR P m h w)(hx:VR m (ρ x) cx)(hf:dE (.CY x) ρ h=some (v,h')):
  ∃cv w' m',(Instr.range t cx).run P w=.ok cv w'/\VR m' v cv/\HR P m' h' w'/\Grow m h w m' h' w':=by
 simp only[dE]at hf;split at hf
 case h_2=>cases hf
 rename_i s hρ;rw[hρ,VR]at hx;subst hx;cases hf;have Ze:=kP hr (.stringIter ⟨⟨s⟩⟩ 0) (.iter s 0) ⟨w.heap.size,0,0,true⟩ rfl rfl (λm' _=>⟨rfl,rfl,World.alloc_heap_new w _⟩);exact⟨.pointer (some ⟨w.heap.size,0,none⟩),_,_,by simp[Instr.range,aaz hu],⟨⟨w.heap.size,0,0,true⟩,by simp[cw.add],rfl⟩,Ze.1,Ze.2⟩
def Fm{t:TypeId}{x cx}(hr:HR P m h w)(hx:VR m (ρ x) cx)(hf:dE (.r9 x) ρ h=some (v,h')):
  ∃cv w' m',(Instr.next cx true t).run P w=.ok cv w'/\VR m' v cv/\HR P m' h' w'/\Grow m h w m' h' w':=by
 simp only[dE]at hf;split at hf
 case h_2=>cases hf
 rename_i b hρ;rw[hρ]at hx;obtain⟨e,he,rfl⟩:=hx;split at hf
 case h_2=>cases hf
 rename_i s pos hb;obtain⟨hown,hd0,hheap⟩:=hr.dW b e _ he hb;have hg:=kX (P:=P) hheap rfl;have dV:(⟨⟨s⟩⟩:ByteArray).size=s.length:=rfl;split at hf
 ·rename_i hlt;cases hf;have hbl:e.cb<w.heap.size:=(aax.1 hheap).1;obtain⟨h1,h2⟩:=kB hr he hb rfl (k':=.iter s (pos+(Utf8.decode ⟨⟨s⟩⟩ pos).2)) (o:=.stringIter ⟨⟨s⟩⟩ (pos+(Utf8.decode ⟨⟨s⟩⟩ pos).2)) (.inl rfl) ⟨hown,hd0,World.putObj_heap_same hbl⟩;refine⟨.tuple #[.bool true,goInt pos,.int .i32 (Utf8.decode ⟨⟨s⟩⟩ pos).1],_,m,?_,⟨_,rfl,?_⟩,h1,h2⟩
  ·simp[Instr.next,hd0,hg,dV,hlt,nJ hheap rfl]
  ·exact⟨_,_,rfl,rfl,_,_,rfl,rfl,_,_,rfl,rfl,rfl⟩
 ·rename_i hlt;cases hf;refine⟨.tuple #[.bool false],w,m,?_,⟨_,rfl,_,_,rfl,rfl,rfl⟩,hr,Grow.refl m h w hr.cM⟩;simp[Instr.next,hd0,hg,dV,hlt]
def Br(kk:CK)(d:TypeDesc):Prop:=
 match kk with
 |.b=>d=.bool
 |.i=>∃i,d=.int i
 |.s=>d=.string
def uo{t:TypeId}{kk}(hk:y0 P t=some kk):∃d,P.underlying t=some d/\Br kk d:=by
 unfold y0 at hk;split at hk
 ·rename_i k hu;cases hk;exact⟨_,hu,k,rfl⟩
 ·rename_i hu;cases hk;exact⟨_,hu,rfl⟩
 ·rename_i hu;cases hk;exact⟨_,hu,rfl⟩
 ·cases hk
def Ae{kk}{d:TypeDesc}(hd:Br kk d){k k' ck ck' b}(hk:VR m k ck)(hk':VR m k' ck')(he:dz kk k k' =some b):
  Instr.sameNow d ck ck' =some b:=by
 unfold dz at he;split at he
 ·rw[VR]at hk hk';subst hk;subst hk';cases hd;cases he;rfl
 ·split at he
  ·rename_i hkk;rw[VR]at hk hk';subst hk;subst hk';subst hkk;obtain⟨i,rfl⟩:=hd;cases he;simp[Instr.sameNow]
  ·cases he
 ·rw[VR]at hk hk';subst hk;subst hk';cases hd;cases he;simp[Instr.sameNow,toList_mk,beq_toListBytes]
 ·cases he
def ng(m:cw):List (AV×AV)->List MapEntry->Prop
 |[],l=>l=[]
 |p::r,l=>∃q s,l=q::s/\VR m p.1 q.key/\VR m p.2 q.val/\ng m r s
theorem ng.iG:∀{es}{l},l.length=es.length->(∀(i:Nat) (p:AV×AV),es[i]? =some p->∃q,l[i]? =some q/\VR m p.1 q.key/\VR m p.2 q.val)->ng m es l
 |[],l,hl,_=>abg.1 (by simpa using hl)
 |p::r,[],hl,_=>by simp at hl
 |p::r,q::s,hl,h=>by
  obtain⟨q',hq,h1,h2⟩:=h 0 p Si;simp at hq;subst hq;exact⟨q,s,rfl,h1,h2,ng.iG (by simpa using hl) λi p hp=>by simpa using h (i+1) p (by simpa using hp)⟩
theorem ng.get:∀{es}{l},ng m es l->l.length=es.length/\∀(i:Nat) (p:AV×AV),es[i]? =some p->∃q,l[i]? =some q/\VR m p.1 q.key/\VR m p.2 q.val
 |[],l,h=>by cases h;exact⟨rfl,λi p hp=>by simp at hp⟩
 |p::r,l,h=>by
  obtain⟨q,s,rfl,h1,h2,h3⟩:=h;obtain⟨hl,hg⟩:=ng.get h3;refine⟨by simp[hl],λi p' hp=>?_⟩;cases i with
  |zero=>simp at hp;subst hp;exact⟨q,Si,h1,h2⟩
  |succ i=>simpa using hg i p' (by simpa using hp)
theorem sM{kk}{d:TypeDesc}(hd:Br kk d){k ck}(hk:VR m k ck):∀{es}{l}{r}(i:Nat),ng m es l->jO kk k es=some r->
  ∃cr,Instr.findNow d ck l i=some cr/\(match r,cr with|none,none=>True|some v,some (_,cv)=>VR m v cv|_,_=>False)
 |[],l,r,i,h,hf=>by cases h;cases hf;exact⟨none,rfl,trivial⟩
 |(a,v)::es,l,r,i,h,hf=>by
  obtain⟨q,s,rfl,h1,h2,h3⟩:=h;simp only[jO]at hf;cases he:dz kk k a with
  |none=>simp[he]at hf
  |some b=>
   have hs:=Ae hd hk h1 he;cases b with
   |true=>
    simp[he]at hf;subst hf;exact⟨some (i,q.val),by simp[Instr.findNow,hs],h2⟩
   |false=>
    simp only[he]at hf;obtain⟨cr,hcr,hm⟩:=sM hd hk (i+1) h3 hf;exact⟨cr,by simp[Instr.findNow,hs,hcr],hm⟩
def tz{t:TypeId}{d:TypeDesc}{kk}(hu:P.underlying t=some d)(hd:Br kk d)(b:Bool)(v:Value)(n:Nat):(Instr.checkKey b (n+1) t v).run P w=.ok () w:=by
 cases kk with
 |b=>cases hd;cases v<;>simp[Instr.checkKey,aaz hu]
 |i=>obtain⟨i,rfl⟩:=hd;cases v<;>simp[Instr.checkKey,aaz hu]
 |s=>cases hd;cases v<;>simp[Instr.checkKey,aaz hu]
def run_checkKey{t:TypeId}{d:TypeDesc}{kk}(hu:P.underlying t=some d)(hd:Br kk d)(b:Bool)(v:Value):(Instr.checkKey b 10000 t v).run P w=.ok () w:=tz hu hd b v 9999
def IU{t kt e:TypeId}{kk z ok x k cx ck}(hu:P.underlying t=some (.map kt e))(hkk:y0 P kt=some kk)(hz:jW P e=some z)(hr:HR P m h w)(hx:VR m (ρ x) cx)(hk:VR m (ρ k) ck)
  (hf:dE (.look kk z ok x k) ρ h=some (v,h')):∃cv,(Instr.lookup t cx ck ok).run P w=.ok cv w/\VR m v cv/\h' =h:=by
 obtain⟨d,hud,hd⟩:=uo hkk;obtain⟨cz,We,Xd⟩:=ku hz w m;simp only[dE]at hf;split at hf
 ·rename_i hρ;rw[hρ,VR]at hx;subst hx;cases hf;refine⟨if ok then .tuple #[cz,.bool false]else cz,?_,?_,rfl⟩
  ·simp only[Instr.lookup,aaA,aaz hu,aaq,aaU,run_checkKey hud hd,Instr.findKey,aaz hud];simp[Instr.findNow,We]
  ·exact z162
 ·rename_i r hρ;rw[hρ]at hx;obtain⟨en,T5,rfl⟩:=hx;split at hf
  case h_2=>cases hf
  rename_i es hb;obtain⟨_,Vv,clock,hheap,hlen,Ty⟩:=hr.dW r en _ T5 hb;have UF:ng m es Vv.toList:=ng.iG (by simpa using hlen) (λi p hp=>by obtain⟨q,hq,h1,h2⟩:=Ty i p hp;exact⟨q,by simpa using hq,h1,h2⟩);have hg:=kX (P:=P) hheap rfl;split at hf
  ·rename_i u VH;cases hf;obtain⟨cr,hcr,hm⟩:=sM hd hk 0 UF VH;cases cr with
   |none=>exact hm.elim
   |some p=>
    obtain⟨i,cu⟩:=p;refine⟨if ok then .tuple #[cu,.bool true]else cu,?_,?_,rfl⟩
    ·simp only[Instr.lookup,aaA,aaz hu,aaq,hg,aaU,run_checkKey hud hd,Instr.findKey,aaz hud,hcr]
    ·cases ok
     ·exact hm
     ·exact⟨_,rfl,_,_,rfl,hm,_,_,rfl,rfl,rfl⟩
  ·rename_i VH;cases hf;obtain⟨cr,hcr,hm⟩:=sM hd hk 0 UF VH;cases cr with
   |some p=>exact hm.elim
   |none=>
    refine⟨if ok then .tuple #[cz,.bool false]else cz,?_,?_,rfl⟩
    ·simp only[Instr.lookup,aaA,aaz hu,aaq,hg,aaU,run_checkKey hud hd,Instr.findKey,aaz hud,hcr,We]
    ·exact z162
  ·cases hf
 ·cases hf
theorem VR.sameBits{kk k k' ck ck'}(hk:VR m k ck)(hk':VR m k' ck')(he:dz kk k k' =some true)(n:Nat):Instr.sameBits n ck' ck=true:=by
 unfold dz at he;split at he
 ·rw[VR]at hk hk';subst hk;subst hk';simp at he;simp[Instr.sameBits,he]
 ·split at he
  ·rename_i hkk;rw[VR]at hk hk';subst hk;subst hk';subst hkk;simp at he;simp[Instr.sameBits,he]
  ·cases he
 ·rw[VR]at hk hk';subst hk;subst hk';simp at he;subst he;simp[Instr.sameBits,beq_toListBytes]
 ·cases he
theorem zy{kk}{d:TypeDesc}(hd:Br kk d){k x ck cx}(hk:VR m k ck)(hx:VR m x cx)(clock:Nat):∀{es es'}{l}(i:Nat),ng m es l->pR kk k x es=some es'->
  (∃j q,Instr.findNow d ck l i=some (some (i+j,q.val))/\l[j]? =some q/\Instr.sameBits 10000 q.key ck=true/\ng m es' (l.set j {q with key:=ck,val:=cx}))\/
  (Instr.findNow d ck l i=some none/\ng m es' (l++[{key:=ck,val:=cx,born:=clock}]))
 |[],es',l,i,h,hf=>by cases h;cases hf;exact .inr ⟨rfl,_,_,rfl,hk,hx,rfl⟩
 |(a,u)::es,es',l,i,h,hf=>by
  obtain⟨q,s,rfl,h1,h2,h3⟩:=h;simp only[pR]at hf;cases he:dz kk k a with
  |none=>simp[he]at hf
  |some b=>
   have hs:=Ae hd hk h1 he;cases b with
   |true=>
    simp[he]at hf;subst hf;exact .inl ⟨0,q,by simp[Instr.findNow,hs],Si,VR.sameBits hk h1 he 10000,_,_,rfl,hk,hx,h3⟩
   |false=>
    simp only[he,aaC]at hf;obtain⟨es2,hes2,rfl⟩:=hf;rcases zy hd hk hx clock (i+1) h3 hes2 with⟨j,q',hj,YZ,hb,hr⟩|⟨hj,hr⟩
    ·exact .inl ⟨j+1,q',by simp[Instr.findNow,hs,hj];omega,by simpa using YZ,hb,_,_,rfl,h1,h2,hr⟩
    ·exact .inr ⟨by simp[Instr.findNow,hs,hj],_,_,rfl,h1,h2,hr⟩
def IS{t kt e:TypeId}{kk x k u cx ck cu}(hu:P.underlying t=some (.map kt e))(hkk:y0 P kt=some kk)(hr:HR P m h w)(hx:VR m (ρ x) cx)(hk:VR m (ρ k) ck)(hv:VR m (ρ u) cu)
  (hf:dE (.fY kk x k u) ρ h=some (v,h')):∃w',(Instr.mapUpdate t cx ck cu).run P w=.ok () w'/\v=az/\HR P m h' w'/\Grow m h w m h' w':=by
 obtain⟨d,hud,hd⟩:=uo hkk;simp only[dE]at hf;split at hf
 case h_2=>cases hf
 rename_i r hρ;rw[hρ]at hx;obtain⟨en,T5,rfl⟩:=hx;split at hf
 case h_2=>cases hf
 rename_i es hb;split at hf
 case h_2=>cases hf
 rename_i es' hupd;cases hf;obtain⟨hown,Vv,clock,hheap,hlen,Ty⟩:=hr.dW r en _ T5 hb;have UF:ng m es Vv.toList:=ng.iG (by simpa using hlen) (λi p hp=>by obtain⟨q,hq,h1,h2⟩:=Ty i p hp;exact⟨q,by simpa using hq,h1,h2⟩);have hg:=kX (P:=P) hheap rfl;have hbl:en.cb<w.heap.size:=(aax.1 hheap).1;have done:∀(ces':Array MapEntry) (c:Nat),ng m es' ces'.toList->HR P m (h.set r (.bg es')) (w.putObj en.cb (.map ces' c))/\Grow m h w m (h.set r (.bg es')) (w.putObj en.cb (.map ces' c)):=by
  intro ces' c VI;obtain⟨TB,TN⟩:=VI.get;exact kB hr T5 hb rfl (.inl rfl) ⟨hown,ces',c,World.putObj_heap_same hbl,by simpa using TB,λi p hp=>by obtain⟨q,hq,h1,h2⟩:=TN i p hp;exact⟨q,by simpa using hq,h1,h2⟩⟩
 rcases zy hd hk hv clock 0 UF hupd with⟨j,q,hj,hq,hbits,VI⟩|⟨hj,VI⟩
 ·have YZ:Vv[j]? =some q:=by simpa using hq
  obtain⟨h1,h2⟩:=done (Vv.modify j λe=>{e with key:=ck,val:=cu}) clock (by
   have:(Vv.modify j λe=>{e with key:=ck,val:=cu}).toList=Vv.toList.set j {q with key:=ck,val:=cu}:=by
    apply acH
    intro i;rw[abI,Array.getElem?_modify,List.getElem?_set];by_cases hij:j=i
    ·subst hij;obtain⟨hlt,heq⟩:=aax.1 YZ;simp[YZ,hlt,heq]
    ·simp[hij]
   rw[this];exact VI)
  refine⟨_,?_,rfl,h1,h2⟩;simp only[Instr.mapUpdate,aaA,aaz hu,aaq,hg,run_checkKey hud hd,Instr.findKey,aaz hud,hj,aaU,aa4,YZ,aca,acz,Instr.keyThatStays,hbits,aaB,nJ hheap rfl]
 ·obtain⟨h1,h2⟩:=done (Vv.push {key:=ck,val:=cu,born:=clock}) (clock+1) (by simpa using VI);refine⟨_,?_,rfl,h1,h2⟩;simp only[Instr.mapUpdate,aaA,aaz hu,aaq,hg,run_checkKey hud hd,Instr.findKey,aaz hud,hj,aaU,nJ hheap rfl]
end
section
variable {P:Program}{m:cw}{h h':ah}{w:World}{ρ:cZ->AV}{v:AV}
theorem nM(m:cw):∀(s:By),cL m (s.map λb=>AV.int .u8 b.toNat) (s.map λb=>Value.int .u8 b.toNat)
 |[]=>bE.2 rfl
 |b::s=>aQ.2 ⟨_,_,rfl,rfl,nM m s⟩
def sg(s:By):(s.map λb=>AV.int .u8 b.toNat).all AV.one=true:=by
 rw[aaO];intro x hx;simp only[aaK]at hx;obtain⟨b,_,rfl⟩:=hx;rfl
def cN{es y cy ys k}(hr:HR P m h w)(hy:VR m y cy)(hc:cellsIn es h y=some (ys,k)):
  (Builtin.lenOf cy).run P w=.ok k w/\ys.length=k*es/\ys.all AV.one=true/\
   ∀n,n<=k->∃vs,(Builtin.firstCells es n cy).run P w=.ok ⟨vs⟩ w/\cL m (ys.take (n*es)) vs:=by
 unfold cellsIn at hc;split at hc
 ·rw[VR]at hy;subst hy;cases hc;exact⟨rfl,Si,rfl,λn hn=>⟨[],by simp[Builtin.firstCells],by simp[bE]⟩⟩
 ·rename_i b o n es';obtain⟨e,ca,cap,he,rfl,TO,T7,hroom⟩:=hy;split at hc
  case isFalse=>cases hc
  rename_i hes;subst hes;split at hc
  case h_2=>cases hc
  rename_i c mu tl hb;split at hc
  case isFalse=>cases hc
  rename_i hle;cases hc;obtain⟨_,_,_,hone⟩:=nP hr he hb o (k*es') hle;refine⟨rfl,by simp;omega,hone,λn hn=>?_⟩;have hmul:n*es'<=k*es':=abl _ hn;by_cases h0:cap=0
  ·have hk0:k=0:=Om
   have Yc:n=0:=Om
   subst Yc;exact⟨[],by simp[Builtin.firstCells,loadCells,loadCellsFrom],by simp[bE]⟩
  ·rw[T7 Om];obtain⟨vs,Tt,Um,_⟩:=nP hr he hb o (n*es') Om;refine⟨vs,by simp[Builtin.firstCells,Tt],?_⟩;rw[acN,abT hmul];exact Um
 ·rename_i s;rw[VR]at hy;subst hy;split at hc
  case isFalse=>cases hc
  rename_i hes;subst hes;cases hc;refine⟨rfl,Si,sg s,λn hn=>⟨(s.take n).map λb=>Value.int .u8 b.toNat,?_,?_⟩⟩
  ·simp only[Builtin.firstCells,aaU,extract_mk];simp
  ·rw[acu,<-acv];exact nM m _
 ·cases hc
theorem tP{cb}{el:TypeId}{fz}:∀(vs:List Value) (p j:Nat) (cc:Array Value) (w:World),w.heap[cb]? =some (.cells cc el fz)->p+j+vs.length<=cc.size->
  (∀i,i<cc.size->¬(fz.1<=i/\i<fz.2))->(∀v∈vs,v.oneCell' =true)->
  ∃w' T8,(storeCells ⟨cb,p,none⟩ vs j).run P w=.ok () w'/\w'.heap[cb]? =some (.cells T8 el fz)/\T8.size=cc.size/\
   (∀i,T8[i]? =if p+j<=i/\i<p+j+vs.length then vs[i-(p+j)]? else cc[i]?)/\(∀k,k≠cb->w'.heap[k]? =w.heap[k]?)/\w'.heap.size=w.heap.size/\w'.os=w.os/\w'.output=w.output/\w'.tape=w.tape
 |[],p,j,cc,w,hw,_,_,_=>⟨w,cc,rfl,hw,rfl,λi=>by simp;omega,λ_ _=>rfl,rfl,rfl,rfl,rfl⟩
 |v::vs,p,j,cc,w,hw,hlen,hfz,hone=>by
  simp only[aah]at hlen;have Uj:w.cell? ⟨cb,p+j,none⟩=some (cc[p+j]'Om):=by simp only[World.cell?,hw];exact aa6 Om
  have hfr:w.frozen? ⟨cb,p+j,none⟩=false:=pn hw (hfz _ Om);have Xt:=heap_setCell_same (i:=p+j) hw v;have Vc:(cc.setIfInBounds (p+j) v).size=cc.size:=Si
  obtain⟨w',T8,h1,h2,h3,h4,h5,h6,h7,h8,h9⟩:=tP vs p (j+1) (cc.setIfInBounds (p+j) v) (w.setCell ⟨cb,p+j,none⟩ v) Xt (by rw[Vc];omega) (by rw[Vc];exact hfz) (λu hu=>hone u (aaP _ hu));refine⟨w',T8,?_,h2,Om,?_,?_,by simpa using h6,h7,h8,h9⟩
  ·simp only[storeCells,aaA];rw[gY,run_store P w _ v .plain (hone v (aba ..)),Uj];simp only[hfr,aa2,aay,aaq];exact h1
  ·intro i;rw[h4 i];by_cases hi:i=p+j
   ·subst hi;rw[aao Om,aas (by simp only[aah];omega)];rw[abx Om];simp
   ·rw[ab5 (λx=>hi x.symm)];by_cases hin:p+(j+1)<=i/\i<p+(j+1)+vs.length
    ·rw[aas hin,aas (by simp only[aah];omega)];rw[show i-(p+j)=(i-(p+(j+1)))+1 from by omega];simp
    ·rw[aao hin,aao (by simp only[aah];omega)]
  ·intro k hk;rw[h5 k hk];exact Go.RowKit.Below.heap_setCell w _ v k hk
def FK(need cap:Nat)(hc:cap<need):Builtin.nextslicecap need cap<=2*need+192:=by
 unfold Builtin.nextslicecap;split
 ·omega
 ·split
  ·omega
  ·have grow:∀(r c:Nat),c<need+(need+768) / 4->Builtin.growBy need r c<=need+(need+768) / 4:=by
    intro r
    induction r with
    |zero=>intro c hcc;simp only[Builtin.growBy];omega
    |succ r ih=>
     intro c hcc;simp only[Builtin.growBy];split
     ·omega
     ·rename_i hlt;have h1:c<need:=Om
      by_cases hh:c+(c+768) / 4<need+(need+768) / 4
      ·exact ih _ hh
      ·have:c+(c+768) / 4<=need+(need+768) / 4:=Om
       have e:c+(c+768) / 4=need+(need+768) / 4:=Om
       rw[e];cases r with
       |zero=>simp[Builtin.growBy]
       |succ r=>simp only[Builtin.growBy];rw[aas Om];exact aar _
   have:=grow 4 cap Om;omega
theorem cL.wP:∀{l}{vs},cL m l vs->l.all AV.one=true->∀v∈vs,v.oneCell' =true
 |[],vs,h,_,v,hv=>by rw[bE]at h;subst h;cases hv
 |x::xs,vs,h,h1,v,hv=>by
  obtain⟨y,ys,rfl,hy,hys⟩:=aQ.1 h;simp only[abC,aaM]at h1;rcases aaN.1 hv with rfl|hv
  ·exact hy.uW h1.1
  ·exact cL.wP hys h1.2 v hv
def sK(hr:HR P m h w){b o q e c ys mu mu' k0}(he:m b=some e)(hb:h[b]? =some (.cells c mu true))(hoq:o+q<=c.length)
  (hk0:(k0=.cells c false false/\o+q=c.length/\mu' =false)\/(k0=.dead/\mu=true)) {vs}(hys:cL m ys vs) (h1:ys.all AV.one=true) (hroom:o+q+e.d+ys.length<=e.sz) (j:Nat):
  ∃w' m',(storeCells ⟨e.cb,o+e.d+q,none⟩ vs 0).run P w=.ok () w'/\m' h.length=some ⟨e.cb,e.d+o,e.sz,true⟩/\
   HR P m' (h.set b k0++[.cells ((c.drop o).take q++ys) mu' true]) w'/\Grow m h w m' (h.set b k0++[.cells ((c.drop o).take q++ys) mu' true]) w':=by
 have _:=j;obtain⟨cc,el,fz,hw,⟨hle,hle'⟩,Ty,hown,hmt⟩:=hr.dW b e _ he hb;have ho:e.own=true:=(hmt (.inr rfl)).1;obtain⟨dV,hfz⟩:=hown ho;have hlv:=hys.length;obtain⟨w',T8,Tt,hw',TG,hcc',hoth,hhs,hos,hout,htape⟩:=tP (P:=P) vs (o+e.d+q) 0 cc w hw Om hfz (hys.wP h1);have hbl:b<h.length:=hr.cM _ _ he
 let e':tJ:=⟨e.cb,e.d+o,e.sz,true⟩
 have Uu:m h.length=none:=by
  exact OJ
 have V6:m.le (m.add h.length e'):=cw.th e' Uu;have hlen:(h.set b k0).length=h.length:=Si
 have Xs:∀b2 e2 k2,b2≠b->m b2=some e2->h[b2]? =some k2->k2.live=true->e2.cb=e.cb->mu=false/\∃c2,k2=.cells c2 false false/\e2.d+c2.length<=e.d+c.length:=by
  intro b2 e2 k2 hne TA Tr hl hcb;have:=hr.sep b b2 e e2 _ k2 (λx=>hne x.symm) he TA hb Tr hcb.symm;cases k2 with
  |cells c2 mu2 tl2=>
   obtain⟨U8,Wp,ht⟩:=this;obtain⟨ht2,Vo⟩:=ht rfl;subst Wp;subst ht2;exact⟨U8,c2,rfl,Vo⟩
  |dead=>cases hl
  |bg _=>exact this.elim
  |iter _ _=>exact this.elim
  |loop _ _ _ _ _ _=>exact this.elim
 have Wu:∀i,i<e.d+o+q->T8[i]? =cc[i]? :=by
  intro i hi;rw[hcc' i,aao Om]
 have hnew:BR P (m.add h.length e') w' e' (.cells ((c.drop o).take q++ys) mu' true):=by
  refine⟨T8,el,fz,hw',⟨?_,?_,(by rw[TG,dV])⟩,?_,λ_=>⟨by rw[TG,dV],λi hi=>hfz i Om⟩,λ_=>⟨rfl,λx=>by cases x⟩⟩
  ·show e.d+o+((c.drop o).take q++ys).length<=T8.size;simp;omega
  ·show e.d+o+((c.drop o).take q++ys).length<=e.sz;simp;omega
  ·intro i x hx;by_cases hi:i<q
   ·rw[aag (by simp;omega),abY hi,acB]at hx;obtain⟨hone,v,hv,Ts⟩:=Ty (o+i) x hx;refine⟨hone,v,?_,VR.mono V6 _ _ Ts⟩;show T8[e.d+o+i]? =some v;rw[Wu _ Om,show e.d+o+i=e.d+(o+i)from by omega];exact hv
   ·have Xe:((c.drop o).take q).length=q:=by simp;omega
    rw[aan Om,Xe]at hx;obtain⟨v,hv,Ts⟩:=hys.get hx;have hlt:i-q<ys.length:=(aad.1 hx).1;refine⟨aaO.1 h1 x (aa8 hx),v,?_,VR.mono V6 _ _ Ts⟩;show T8[e.d+o+i]? =some v;rw[hcc',aas Om,show e.d+o+i-(o+e.d+q+0)=i-q from by omega];exact hv
 have hbr0:∀b2 e2 k2,m b2=some e2->(h.set b k0)[b2]? =some k2->BR P (m.add h.length e') w' e2 k2:=by
  intro b2 e2 k2 TA Tr;rw[bJ h b b2 _ hbl]at Tr;by_cases hbb:b2=b
  ·subst hbb;rw[aas rfl]at Tr;cases Tr;rw[he]at TA;cases TA;rcases hk0 with⟨rfl,hcl,_⟩|⟨rfl,_⟩
   ·refine⟨T8,el,fz,hw',⟨Om,Om⟩,?_,λ_=>⟨by rw[TG,dV],λi hi=>hfz i Om⟩,λx=>by rcases x with x|x<;>cases x⟩;intro i x hx;obtain⟨hone,v,hv,Ts⟩:=Ty i x hx;have hi:i<c.length:=(aad.1 hx).1;exact z164
   ·trivial
  ·rw[aao hbb]at Tr;have h0:=hr.dW b2 e2 k2 TA Tr;by_cases hl:k2.live=true
   ·by_cases hcb:e2.cb=e.cb
    ·obtain⟨hmf,c2,rfl,Vo⟩:=Xs b2 e2 k2 hbb TA Tr hl hcb;rcases hk0 with⟨_,hcl,_⟩|⟨_,XC⟩
     ·obtain⟨cc2,el2,fz2,hw2,⟨hle2a,hle2b⟩,hget2,hown2,hmt2⟩:=h0;rw[hcb,hw]at hw2;cases hw2;refine⟨T8,el,fz,by rw[hcb];exact hw',⟨Om,Om⟩,?_,λho2=>by have:=hown2 ho2;exact⟨Om,λi hi=>this.2 i Om⟩,hmt2⟩;intro i x hx;obtain⟨hone,v,hv,Ts⟩:=hget2 i x hx;have hi:i<c2.length:=(aad.1 hx).1;exact z164
     ·rw[hmf]at XC;cases XC
    ·exact(h0.mono V6).heap (hoth _ hcb)
   ·exact z139
 have hget0:∀b2 k2,b2<h.length->(h.set b k0++[.cells ((c.drop o).take q++ys) mu' true])[b2]? =some k2->(h.set b k0)[b2]? =some k2:=by
  intro b2 k2 hlt Tr
  rwa [aag Om]at Tr
 have hsep1:∀b2 e2 k2,m b2=some e2->(h.set b k0)[b2]? =some k2->e2.cb=e.cb->qt e' e2 (.cells ((c.drop o).take q++ys) mu' true) k2/\qt e2 e' k2 (.cells ((c.drop o).take q++ys) mu' true):=by
  intro b2 e2 k2 TA Tr hcb;rw[bJ h b b2 _ hbl]at Tr;by_cases hbb:b2=b
  ·subst hbb;rw[aas rfl]at Tr;cases Tr;rw[he]at TA;cases TA;rcases hk0 with⟨rfl,hcl,rfl⟩|⟨rfl,_⟩
   ·refine⟨⟨rfl,rfl,λ_=>⟨rfl,?_⟩⟩,⟨rfl,rfl,λx=>by cases x⟩⟩;show e.d+c.length<=e.d+o+((c.drop o).take q++ys).length;simp;omega
   ·exact⟨trivial,trivial⟩
  ·rw[aao hbb]at Tr;by_cases hl:k2.live=true
   ·obtain⟨hmf,c2,rfl,Vo⟩:=Xs b2 e2 k2 hbb TA Tr hl hcb;rcases hk0 with⟨_,hcl,rfl⟩|⟨_,XC⟩
    ·refine⟨⟨rfl,rfl,λ_=>⟨rfl,?_⟩⟩,⟨rfl,rfl,λx=>by cases x⟩⟩;show e2.d+c2.length<=e.d+o+((c.drop o).take q++ys).length;simp;omega
    ·rw[hmf]at XC;cases XC
   ·cases k2<;>first|exact⟨trivial,trivial⟩|exact absurd rfl hl
 have hsep2:∀b1 b2 e1 e2 k1 k2,b1≠b2->m b1=some e1->m b2=some e2->(h.set b k0)[b1]? =some k1->(h.set b k0)[b2]? =some k2->e1.cb=e2.cb->qt e1 e2 k1 k2:=by
  intro b1 b2 e1 e2 k1 k2 hne UM TA hk1 Tr hcb;rw[bJ h b _ _ hbl]at hk1 Tr;by_cases TV:b1=b
  ·subst TV;rw[aas rfl]at hk1;cases hk1;rw[aao (λx=>hne x.symm)]at Tr;have:=hr.sep b1 b2 e1 e2 _ k2 hne UM TA hb Tr hcb;rcases hk0 with⟨rfl,_⟩|⟨rfl,_⟩
   ·cases k2<;>first|exact⟨rfl,this.2.1,λx=>by cases x⟩|trivial|exact this
   ·trivial
  ·rw[aao TV]at hk1;by_cases T3:b2=b
   ·subst T3;rw[aas rfl]at Tr;cases Tr;have:=hr.sep b1 b2 e1 e2 k1 _ hne UM TA hk1 hb hcb;rcases hk0 with⟨rfl,_⟩|⟨rfl,_⟩
    ·cases k1<;>first|exact⟨this.1,rfl,λx=>absurd (this.2.2 x).1 Si⟩|trivial|exact this
    ·cases k1<;>trivial
   ·exact OI
 refine⟨w',m.add h.length e',by simpa using Tt,by simp[cw.add,e'],⟨?_,?_,?_,?_,?_⟩,⟨?_,Si,?_,?_,Om,hos,hout,htape,?_⟩⟩
 ·intro b2 e2 T3;unfold cw.add at T3;by_cases hx:b2=h.length
  ·subst hx;simp
  ·rw[aao hx]at T3;have:=hr.cM _ _ T3;simp;omega
 ·intro b2 e2 k2 TA Tr;unfold cw.add at TA;by_cases hx:b2=h.length
  ·subst hx;rw[aas rfl]at TA;cases TA;rw[aan Om]at Tr;simp at Tr;subst Tr;exact hnew
  ·rw[aao hx]at TA;exact hbr0 b2 e2 k2 TA (hget0 b2 k2 (hr.cM _ _ TA) Tr)
 ·intro b1 b2 e1 e2 k1 k2 hne UM TA hk1 Tr hcb;unfold cw.add at UM TA;by_cases hx1:b1=h.length
  ·subst hx1;rw[aas rfl]at UM;cases UM;rw[aao (λx=>hne x.symm)]at TA;rw[aan Om]at hk1;simp at hk1;subst hk1;exact(hsep1 b2 e2 k2 TA (hget0 b2 k2 (hr.cM _ _ TA) Tr) hcb.symm).1
  ·rw[aao hx1]at UM;have hk1':=hget0 b1 k1 (hr.cM _ _ UM) hk1;by_cases WD:b2=h.length
   ·subst WD;rw[aas rfl]at TA;cases TA;rw[aan Om]at Tr;simp at Tr;subst Tr;exact(hsep1 b1 e1 k1 UM hk1' hcb).2
   ·rw[aao WD]at TA;exact hsep2 b1 b2 e1 e2 k1 k2 hne UM TA hk1' (hget0 b2 k2 (hr.cM _ _ TA) Tr) hcb
 ·intro g hg;obtain⟨x,hx,h2⟩:=hr.fS g hg;exact⟨x,V6 _ _ hx,h2⟩
 ·intro b2 e2 TA;unfold cw.add at TA;by_cases hx:b2=h.length
  ·rw[aas hx]at TA;cases TA;have:=hr.lt _ _ he;show e.cb<_;omega
  ·rw[aao hx]at TA;have:=hr.lt _ _ TA;omega
 ·intro b2 T3;unfold cw.add;rw[aao Om]
 ·intro b2 e2 T3 TA;unfold cw.add at TA;by_cases hx:b2=h.length
  ·rw[aas hx]at TA;cases TA;refine⟨rfl,.inr ⟨b,e,he,rfl,ho,by simp[eI,hb],?_⟩⟩;unfold eI;rw[aag Om,bJ h b b _ hbl,aas rfl];rcases hk0 with⟨rfl,_⟩|⟨rfl,_⟩<;>rfl
  ·rw[aao hx]at TA;exact absurd (hr.cM _ _ TA) Om
 ·intro b2 T3 ht;unfold eI at ht ⊢;rw[aag Om,bJ h b b2 _ hbl]at ht;by_cases hbb:b2=b
  ·subst hbb;rw[aas rfl]at ht;rcases hk0 with⟨rfl,_⟩|⟨rfl,_⟩<;>cases ht
  ·exact EJ
 ·intro i hi hno;exact hoth i (λx=>hno b e he ho x.symm)
end
section
variable {P:Program}{m:cw}{h h':ah}{w:World}{ρ:cZ->AV}{v:AV}
def zl:ak->ak->Prop
 |.cells c mu tl,k=>k=.dead\/∃mu' tl',k=.cells c mu' tl'/\(mu' =true->mu=true/\(tl' =false->tl=false))/\(tl' =true->tl=true)
 |k,k'=>k' =.dead\/k' =k
def zl.PG{e1 e2 k k' k2}(hw:zl k k')(hs:qt e1 e2 k k2):qt e1 e2 k' k2:=by
 cases k with
 |cells c mu tl=>
  rcases hw with rfl|⟨mu',tl',rfl,hm,ht⟩
  ·trivial
  ·cases k2 with
   |cells c2 mu2 tl2=>
    refine⟨?_,hs.2.1,λx=>hs.2.2 (ht x)⟩;cases mu' with
    |false=>rfl
    |true=>have:=hs.1;rw[(hm rfl).1]at this;cases this
   |_=>first|trivial|exact hs
 |dead=>rcases hw with rfl|rfl<;>trivial
 |bg es=>rcases hw with rfl|rfl<;>first|trivial|exact hs
 |iter s p=>rcases hw with rfl|rfl<;>first|trivial|exact hs
 |loop a b c d e f=>rcases hw with rfl|rfl<;>first|trivial|exact hs
def zl.PF{e1 e2 k k' k1}(hw:zl k k')(hs:qt e1 e2 k1 k):qt e1 e2 k1 k':=by
 cases k with
 |cells c mu tl=>
  rcases hw with rfl|⟨mu',tl',rfl,hm,ht⟩
  ·cases k1<;>trivial
  ·cases k1 with
   |cells c1 mu1 tl1=>
    refine⟨hs.1,?_,λx=>⟨?_,(hs.2.2 x).2⟩⟩
    ·cases mu' with
     |false=>rfl
     |true=>have:=hs.2.1;rw[(hm rfl).1]at this;cases this
    ·cases tl' with
     |false=>rfl
     |true=>have:=(hs.2.2 x).1;rw[ht rfl]at this;cases this
   |_=>first|trivial|exact hs
 |dead=>rcases hw with rfl|rfl<;>cases k1<;>trivial
 |bg es=>rcases hw with rfl|rfl<;>first|exact hs|(cases k1<;>trivial)
 |iter s p=>rcases hw with rfl|rfl<;>first|exact hs|(cases k1<;>trivial)
 |loop a b c d e f=>rcases hw with rfl|rfl<;>first|exact hs|(cases k1<;>trivial)
def zl.br{e k k'}(hw:zl k k')(hb:BR P m w e k):BR P m w e k':=by
 cases k with
 |cells c mu tl=>
  rcases hw with rfl|⟨mu',tl',rfl,hm,ht⟩
  ·trivial
  ·obtain⟨cc,el,fz,h1,h2,h3,h4,h5⟩:=hb;refine⟨cc,el,fz,h1,h2,h3,h4,λx=>⟨(h5 (x.elim (λy=>.inl (hm y).1) (λy=>.inr (ht y)))).1,λy=>?_⟩⟩;rcases x with x|x
   ·exact(h5 (.inl (hm x).1)).2 ((hm x).2 y)
   ·rw[x]at y;cases y
 |dead=>rcases hw with rfl|rfl<;>trivial
 |bg es=>rcases hw with rfl|rfl<;>first|trivial|exact hb
 |iter s p=>rcases hw with rfl|rfl<;>first|trivial|exact hb
 |loop a b c d e f=>rcases hw with rfl|rfl<;>first|trivial|exact hb
def xL(hr:HR P m h w){b k k'}(hb:h[b]? =some k)(hk:zl k k'):HR P m (h.set b k') w/\Grow m h w m (h.set b k') w:=by
 have hbl:b<h.length:=(aad.1 hb).1;refine⟨⟨?_,?_,?_,hr.fS,hr.lt⟩,⟨λ_ _=>rfl,Si,?_,?_,aar _,rfl,rfl,rfl,λ_ _ _=>rfl⟩⟩
 ·intro b' e' hb';simpa using hr.cM b' e' hb'
 ·intro b' e' k2 Ue Tr;rw[bJ h b b' _ hbl]at Tr;by_cases hbb:b' =b
  ·subst hbb;rw[aas rfl]at Tr;cases Tr;exact hk.br (hr.dW b' e' k Ue hb)
  ·rw[aao hbb]at Tr;exact hr.dW b' e' k2 Ue Tr
 ·intro b1 b2 e1 e2 k1 k2 hne UM TA hk1 Tr hcb;rw[bJ h b _ _ hbl]at hk1 Tr;by_cases TV:b1=b
  ·subst TV;rw[aas rfl]at hk1;cases hk1;rw[aao (λx=>hne x.symm)]at Tr;exact hk.PG (hr.sep b1 b2 e1 e2 k k2 hne UM TA hb Tr hcb)
  ·rw[aao TV]at hk1;by_cases T3:b2=b
   ·subst T3;rw[aas rfl]at Tr;cases Tr;exact hk.PF (hr.sep b1 b2 e1 e2 k1 k hne UM TA hk1 hb hcb)
   ·exact OI
 ·intro b' e' hb' Ue;exact absurd (hr.cM _ _ Ue) Om
 ·intro b' hb' ht;unfold eI at ht ⊢;rw[bJ h b b' _ hbl]at ht;by_cases hbb:b' =b
  ·subst hbb;rw[aas rfl]at ht;rw[hb];cases k with
   |cells c mu tl=>
    rcases hk with rfl|⟨mu',tl',rfl,_,h2⟩
    ·cases ht
    ·exact h2 ht
   |dead=>rcases hk with rfl|rfl<;>cases ht
   |bg es=>rcases hk with rfl|rfl<;>cases ht
   |iter s p=>rcases hk with rfl|rfl<;>cases ht
   |loop a b c d e f=>rcases hk with rfl|rfl<;>cases ht
  ·exact EJ
def kO(hr:HR P m h w){c vs}(hc:cL m c vs)(h1:c.all AV.one=true)(rest:List Value)(el:TypeId)(mu tl:Bool)(hml:mu=true->tl=true):
  ∃m',m' h.length=some ⟨w.heap.size,0,vs.length+rest.length,true⟩/\HR P m' (h++[.cells c mu tl]) (w.alloc (.cells ⟨vs++rest⟩ el))/\Grow m h w m' (h++[.cells c mu tl]) (w.alloc (.cells ⟨vs++rest⟩ el)):=by
 have hl:=hc.length;refine⟨_,by simp[cw.add],kP hr (.cells ⟨vs++rest⟩ el) (.cells c mu tl) ⟨w.heap.size,0,vs.length+rest.length,true⟩ rfl rfl (λm' hm=>?_)⟩;refine⟨⟨vs++rest⟩,el,(0,0),World.alloc_heap_new w _,⟨by simp;omega,by refine⟨?_,Si⟩;show 0+c.length<=vs.length+rest.length;omega⟩,?_,λ_=>⟨Si,λi _=>by simp⟩,λx=>⟨rfl,λy=>by
  rcases x with x|x
  ·rw[hml x]at y;cases y
  ·rw[x]at y;cases y⟩⟩
 intro i x hx;obtain⟨v,hv,Ts⟩:=hc.get hx;have hi:i<c.length:=(aad.1 hx).1;refine⟨aaO.1 h1 x (aa8 hx),v,?_,VR.mono hm _ _ Ts⟩;show(⟨vs++rest⟩:Array Value)[0+i]? =some v;rw[aa4,abJ,aag Om];exact hv
def oE{sT xT e:TypeId}{i:TypeInfo}{y ts}(hts0:ts[0]? =some sT)(hts1:ts[1]? =some xT)(hs:eA P sT=some (e,i))(hbytes:0<i.bytes)(hbytes':i.bytes<=2^20)
  {d:TypeDesc}(hud:P.underlying xT=some d) (hdk:∀k,d≠.int k) {cz}(hz:(zeroValue e).run P w.drew=.ok cz w.drew) {base}{n cap k}(hcap:cap<n+k) (hb:(n+k)*i.bytes<=2^46)
  (hlen:(Builtin.lenOf y).run P w=.ok k w) {vo vn}(ho:(Builtin.firstCells i.size n (.slice base n cap)).run P w.drew=.ok ⟨vo⟩ w.drew) (hn:(Builtin.firstCells i.size k y).run P w.drew=.ok ⟨vn⟩ w.drew) (T:TypeId) (dV:i.size=cz.cells.size):
  ∃newCap rest,n+k<=newCap/\rest.length=(newCap-(n+k))*i.size/\
   (Builtin.append_ ts T #[.slice base n cap,y]).run P w=.ok (.slice (some ⟨w.heap.size,0,none⟩) (n+k) newCap) (w.drew.alloc (.cells ⟨vo++vn++rest⟩ e)):=by
 obtain⟨hu,hi⟩:=fF hs;have XA:=FK (n+k) cap hcap;have hno:¬(Builtin.nextslicecap (n+k) cap*i.bytes > 2^48):=by
  have h1:Builtin.nextslicecap (n+k) cap*i.bytes<=(2*(n+k)+192)*i.bytes:=abl _ XA;have h2:(2*(n+k)+192)*i.bytes=2*((n+k)*i.bytes)+192*i.bytes:=by rw[acC,Nat.mul_assoc]
  omega
 obtain⟨q,hq⟩:∃q:Question,q=.appendCap (n+k) cap e:=⟨_,rfl⟩;obtain⟨nc,XB⟩:∃nc:Nat,nc=q.cut (w.tape w.drawn q):=⟨_,rfl⟩;have Yb:n+k<=nc:=by rw[XB,hq];show n+k<=(n+k)+_;omega
 have Vg:(match d with|.int _=>true|_=>false)=false:=by
  cases d<;>first|rfl|exact absurd rfl (hdk _)
 have TH:∀w,(sizeOf e).run P w=.ok i.size w:=λw=>cB (by simp[ep,hi]) w
 have XJ:∀w,(typeInfo e).run P w=.ok i w:=λw=>by simp[typeInfo,hi]
 have UA:¬(i.bytes=0):=Om
 have Vr:(choose (.appendCap (n+k) cap e)).run P w=.ok nc w.drew:=by
  rw[run_choose,XB,hq];rfl
 refine⟨nc,(Builtin.zeroCells cz.cells (nc-(n+k))).toList,Yb,by simp[Builtin.zeroCells,dV],?_⟩;simp only[Builtin.append_,hts0,hts1,abJ,abp,abE,aaA,aaz hu,aaq,TH,aaz hud,aaU,Vg,
  aa2,aay,hlen,Nat.not_le.2 hcap]
 simp only[Sem.run_ite,aaA,XJ,aaq,hno,aay,UA,abP,and_false,aa2,Vr,run_askRoom,ho,hn,hz,aaI,aaB,newRow,run_newObj,aaU];have earr:((⟨vo⟩:Array Value)++⟨vn⟩++Builtin.zeroCells cz.cells (nc-(n+k)))=⟨vo++vn++(Builtin.zeroCells cz.cells (nc-(n+k))).toList⟩:=by
  apply acU
  simp
 rw[earr];rfl
def nq{c:List AV}{o q:Nat}(h:o+q=c.length):(c.drop o).take q=c.drop o:=aaV (by simp;omega)
def MF{sT xT e:TypeId}{i:TypeInfo}{ts:Array TypeId}(hts0:ts[0]? =some sT)(hts1:ts[1]? =some xT)(hs:eA P sT=some (e,i))(hspos:0<i.size)(hbytes:0<i.bytes)(hbytes':i.bytes<=2^20)
  {d:TypeDesc}(hud:P.underlying xT=some d) (hdk:∀k,d≠.int k) {z:AV}(hz:i.zero.bind (nf 4)=some z) (hzs:z.cells.length=i.size)
  (hr:HR P m h w) {x y:AV}{cx cy:Value}(hx:VR m x cx) (hy:VR m y cy) (hf:yj i.size i.bytes x y h v h') (T:TypeId):
  ∃cv w' m',(Builtin.append_ ts T #[cx,cy]).run P w=.ok cv w'/\VR m' v cv/\HR P m' h' w'/\Grow m h w m' h' w':=by
 obtain⟨hu,hi⟩:=fF hs;have hzA:jW P e=some z:=by simp[jW,hi,hz]
 obtain⟨cz,We,Xd⟩:=ku hzA w.drew m;have Yr:i.size=cz.cells.size:=by have:=Xd.cells.length;simp at this;omega
 have TH:∀w,(sizeOf e).run P w=.ok i.size w:=λw=>cB (by simp[ep,hi]) w
 have Vg:(match d with|.int _=>true|_=>false)=false:=by
  cases d<;>first|rfl|exact absurd rfl (hdk _)
 have room:∀{base:Option Addr}{n cap k:Nat}{vn:List Value}{w1:World},n+k<=cap->(Builtin.lenOf cy).run P w=.ok k w->(Builtin.firstCells i.size k cy).run P w=.ok ⟨vn⟩ w->
   (match base with|some a=>(storeCells (a.add (n*i.size)) vn).run P w=.ok () w1|none=>w1=w)->
   (Builtin.append_ ts T #[.slice base n cap,cy]).run P w=.ok (.slice base (n+k) cap) w1:=by
  intro base n cap k vn w1 hle hlen Tz bN;cases base with
  |none=>
   subst bN;simp only[Builtin.append_,hts0,hts1,abJ,abp,abE,aaA,aaz hu,aaq,TH,aaz hud,aaU,Vg,
    aa2,aay,hlen,hle,aaB,aaI,Tz]
  |some a=>
   simp only at bN;simp only[Builtin.append_,hts0,hts1,abJ,abp,abE,aaA,aaz hu,aaq,TH,aaz hud,aaU,Vg,
    aa2,aay,hlen,hle,aaB,aaI,Tz,bN]
 cases hf with
 |none U0 Ua=>
  obtain⟨hlen,_,_,Tz⟩:=cN hr hy U0;obtain⟨vn,Vy,Ts⟩:=Tz 0 (aar _);have ZS:vn=[]:=by simp[bE]at Ts;exact Ts
  subst ZS;rcases Ua with rfl|⟨b,o,n,rfl⟩
  ·rw[VR]at hx;subst hx;exact⟨.slice none 0 0,w,m,room Om hlen Vy rfl,rfl,hr,Grow.refl m h w hr.cM⟩
  ·have hx0:=hx;obtain⟨en,ca,cap,T5,rfl,TO,T7,hroom⟩:=hx;exact⟨.slice (some ca) n cap,w,m,room Om hlen Vy (by simp[storeCells]),hx0,hr,Grow.refl m h w hr.cM⟩
 |new ys k mu U0 hk hb Ua=>
  subst Ua;rw[VR]at hx;subst hx;obtain⟨hlen,Vi,hone,_⟩:=cN hr hy U0;obtain⟨_,_,_,Tz⟩:=cN hr.drew hy U0;obtain⟨vn,Vy,Ts⟩:=Tz k (aar _);rw[aaV Om]at Ts;obtain⟨nc,rest,Yb,Ut,Tt⟩:=oE (n:=0) (cap:=0) (base:=none) (vo:=[]) hts0 hts1 hs hbytes hbytes' hud hdk We Om (by rw[aa4];exact hb) hlen (by simp[Builtin.firstCells]) Vy T Yr;obtain⟨m',h0,h1,h2⟩:=kO hr.drew Ts hone rest e mu true (λ_=>rfl);have Ud:=Ts.length;refine⟨_,_,m',Tt,⟨_,_,nc,h0,by rw[aa4];rfl,Om,λ_=>rfl,?_⟩,by simpa using h1,by simpa using h2.DX⟩;show 0+0+nc*i.size<=vn.length+rest.length;rw[Ut,Ud,Vi];have:nc*i.size=k*i.size+(nc-(0+k))*i.size:=by rw[<-acC];congr 1;omega
  omega
 |on ys k b o n c mu U0 hk hb Ua hc hl=>
  subst Ua;obtain⟨en,ca,cap,T5,rfl,TO,T7,hroom⟩:=hx;obtain⟨hlen,Vi,hone,Tz⟩:=cN hr hy U0;have X7:cellsIn i.size h (.slice b o n i.size)=some ((c.drop o).take (n*i.size),n):=by simp[cellsIn,hc];omega
  have hdt:=nq hl;by_cases XN:n+k<=cap
  ·obtain⟨vn,Vy,Ts⟩:=Tz k (aar _);rw[aaV Om]at Ts;have XQ:=T7 Om;have hr1:(n+k)*i.size<=cap*i.size:=abl _ XN;rw[acC]at hr1;obtain⟨w',m',h0,h1,h2,h3⟩:=sK (mu':=false) (k0:=.cells c false false) (q:=n*i.size) hr T5 hc Om (.inl ⟨rfl,hl,rfl⟩) Ts hone Om 0;rw[hdt]at h2 h3;exact z51
  ·obtain⟨_,_,_,hfo⟩:=cN hr.drew (y:=.slice b o n i.size) ⟨en,ca,cap,T5,rfl,TO,T7,hroom⟩ X7;obtain⟨vo,hvo,UR⟩:=hfo n (aar _);obtain⟨_,_,UT,_⟩:=cN hr (y:=.slice b o n i.size) ⟨en,ca,cap,T5,rfl,TO,T7,hroom⟩ X7;obtain⟨_,_,_,Uy⟩:=cN hr.drew hy U0;obtain⟨vn,Vy,Ts⟩:=Uy k (aar _);rw[aaV Om]at Ts;rw[aaV (by simp;omega),hdt]at UR;rw[hdt]at UT;obtain⟨nc,rest,Yb,Ut,Tt⟩:=oE hts0 hts1 hs hbytes hbytes' hud hdk We Om hb hlen hvo Vy T Yr;obtain⟨g1,g2⟩:=xL (k':=.cells c false false) hr hc (.inr ⟨false,false,rfl,λx=>(by cases x),λx=>(by cases x)⟩);obtain⟨m',h0,h1,h2⟩:=kO g1.drew (UR.append Ts) (by simp[UT,hone]) rest e false true (λ_=>rfl)
   have TJ:(h.set b (.cells c false false)).length=h.length:=Si
   rw[TJ]at h0;have Ud:=Ts.length;have ZR:=UR.length;refine⟨_,_,m',Tt,⟨_,_,nc,h0,rfl,Yb,λ_=>rfl,?_⟩,h1,(g2.drew.trans h2 hr.cM)⟩;exact z28
 |over ys k b o n c mu U0 hk hb Ua hc hl=>
  subst Ua;obtain⟨en,ca,cap,T5,rfl,TO,T7,hroom⟩:=hx;obtain⟨hlen,Vi,hone,Tz⟩:=cN hr hy U0;have X7:cellsIn i.size h (.slice b o n i.size)=some ((c.drop o).take (n*i.size),n):=by simp[cellsIn,hc];omega
  by_cases XN:n+k<=cap
  ·obtain⟨vn,Vy,Ts⟩:=Tz k (aar _);rw[aaV Om]at Ts;have XQ:=T7 Om;have hr1:(n+k)*i.size<=cap*i.size:=abl _ XN;rw[acC]at hr1;obtain⟨w',m',h0,h1,h2,h3⟩:=sK (mu':=mu) (k0:=.dead) (q:=n*i.size) hr T5 hc Om (.inr ⟨rfl,rfl⟩) Ts hone Om 0;exact z51
  ·obtain⟨_,_,_,hfo⟩:=cN hr.drew (y:=.slice b o n i.size) ⟨en,ca,cap,T5,rfl,TO,T7,hroom⟩ X7;obtain⟨vo,hvo,UR⟩:=hfo n (aar _);obtain⟨_,_,UT,_⟩:=cN hr (y:=.slice b o n i.size) ⟨en,ca,cap,T5,rfl,TO,T7,hroom⟩ X7;obtain⟨_,_,_,Uy⟩:=cN hr.drew hy U0;obtain⟨vn,Vy,Ts⟩:=Uy k (aar _);rw[aaV Om]at Ts;rw[aaV (by simp;omega)]at UR;obtain⟨nc,rest,Yb,Ut,Tt⟩:=oE hts0 hts1 hs hbytes hbytes' hud hdk We Om hb hlen hvo Vy T Yr;obtain⟨g1,g2⟩:=xL (k':=.dead) hr hc (.inl rfl);obtain⟨m',h0,h1,h2⟩:=kO g1.drew (UR.append Ts) (by rw[acm,UT,hone];rfl) rest e mu true (λ_=>rfl);have TJ:(h.set b .dead).length=h.length:=Si
   rw[TJ]at h0;have Ud:=Ts.length;have ZR:=UR.length;refine⟨_,_,m',Tt,⟨_,_,nc,h0,rfl,Yb,λ_=>rfl,?_⟩,h1,(g2.drew.trans h2 hr.cM)⟩;exact z28
 |full ys k b o n c U0 hk hb Ua hc hl=>
  subst Ua;obtain⟨en,ca,cap,T5,rfl,TO,T7,hroom⟩:=hx;obtain⟨hlen,Vi,hone,Tz⟩:=cN hr hy U0;have X7:cellsIn i.size h (.slice b o n i.size)=some ((c.drop o).take (n*i.size),n):=by simp[cellsIn,hc];omega
  have hdt:=nq hl;have hfull:cap<=n:=by
   obtain⟨_,_,_,_,_,_,_,hex⟩:=hr.dW b en _ T5 hc;have he:=(hex (.inl rfl)).2 rfl;by_cases hle:cap<=n
   ·exact hle
   ·have h2:(n+1)*i.size<=cap*i.size:=abl _ Om;rw[aby]at h2;omega
  obtain⟨_,_,_,hfo⟩:=cN hr.drew (y:=.slice b o n i.size) ⟨en,ca,cap,T5,rfl,TO,T7,hroom⟩ X7;obtain⟨vo,hvo,UR⟩:=hfo n (aar _);obtain⟨_,_,UT,_⟩:=cN hr (y:=.slice b o n i.size) ⟨en,ca,cap,T5,rfl,TO,T7,hroom⟩ X7;obtain⟨_,_,_,Uy⟩:=cN hr.drew hy U0;obtain⟨vn,Vy,Ts⟩:=Uy k (aar _);rw[aaV Om]at Ts;rw[aaV (by simp;omega),hdt]at UR;rw[hdt]at UT;obtain⟨nc,rest,Yb,Ut,Tt⟩:=oE hts0 hts1 hs hbytes hbytes' hud hdk We Om hb hlen hvo Vy T Yr;obtain⟨m',h0,h1,h2⟩:=kO hr.drew (UR.append Ts) (by simp[UT,hone]) rest e true true (λ_=>rfl);have Ud:=Ts.length;have ZR:=UR.length;refine⟨_,_,m',Tt,⟨_,_,nc,h0,rfl,Yb,λ_=>rfl,?_⟩,h1,h2.DX⟩
  exact z28
def Fe(n es cap:Nat)(h:n<=cap):n*es<=cap*es:=abl _ h
def MD{dT e:TypeId}{i:TypeInfo}{ts}(hts0:ts[0]? =some dT)(hs:eA P dT=some (e,i))(hspos:0<i.size)
  (hr:HR P m h w) {x y}{cx cy}(hx:VR m (ρ x) cx) (hy:VR m (ρ y) cy) (hf:dE (.Au i.size x y) ρ h=some (v,h')) (T:TypeId):
  ∃cv w' m',(Builtin.copy_ ts T #[cx,cy]).run P w=.ok cv w'/\VR m' v cv/\HR P m' h' w'/\Grow m h w m' h' w':=by
 obtain⟨hu,hi⟩:=fF hs;have TH:∀w,(sizeOf e).run P w=.ok i.size w:=λw=>cB (by simp[ep,hi]) w
 simp only[dE]at hf;split at hf
 ·rename_i b o n es' ys k Ul U0;rw[Ul]at hx;obtain⟨en,ca,cap,T5,rfl,TO,T7,hroom⟩:=hx;obtain⟨hlen,Vi,hone,Tz⟩:=cN hr hy U0;obtain⟨vn,Vy,Ts⟩:=Tz (min k n) (Nat.min_le_left _ _);split at hf
  case isFalse=>cases hf
  rename_i hes;subst hes;have WT:Nat.min k n=min k n:=rfl;split at hf
  ·rename_i h0;cases hf;have ZS:vn=[]:=by rw[h0]at Ts;simp[bE]at Ts;exact Ts
   subst ZS;refine⟨.int .i64 0,w,m,?_,rfl,hr,Grow.refl m h w hr.cM⟩;simp only[Builtin.copy_,hts0,abJ,abp,abE,aaA,aaz hu,aaq,hlen,TH,WT,Vy,aaU,storeCells];simp[goInt,h0]
  ·rename_i h0;split at hf
   case h_2=>cases hf
   rename_i c tl hb;split at hf
   case isFalse=>cases hf
   rename_i hle;cases hf;have WA:(ys.take (min k n*i.size)).all AV.one=true:=by
    rw[aaO]at hone ⊢
    exactλa ha=>hone a (abc ha)
   have Wt:(ys.take (min k n*i.size)).length=min k n*i.size:=by
    have:=Fe (min k n) i.size k (Nat.min_le_left _ _);simp;omega
   obtain⟨w',bN,h1,h2⟩:=pS (ys.take (min k n*i.size)) vn hr T5 hb o 0 Om WA Ts;refine⟨.int .i64 (min k n:Nat),w',m,?_,rfl,h1,h2⟩;have XQ:=T7 Om;subst XQ;simp only[Builtin.copy_,hts0,abJ,abp,abE,aaA,aaz hu,aaq,hlen,TH,WT,Vy,aaU,bN,goInt]
 ·rename_i Ul U0;rename_i p;obtain⟨ys,k⟩:=p;rw[Ul,VR]at hx;subst hx;cases hf;obtain⟨hlen,Vi,hone,Tz⟩:=cN hr hy U0;obtain⟨vn,Vy,Ts⟩:=Tz 0 (aaQ _);have WT:Nat.min k 0=0:=Nat.min_zero k;refine⟨.int .i64 0,w,m,?_,rfl,hr,Grow.refl m h w hr.cM⟩;simp only[Builtin.copy_,hts0,abJ,abp,abE,aaA,aaz hu,aaq,hlen,TH,WT,Vy,aaU,goInt];rfl
 ·cases hf
end
section
variable {P:Program}{m:cw}{h h':ah}{w:World}{ρ:cZ->AV}{v:AV}
theorem yb:∀{l}{vs}{bs},cL m l vs->l.mapM byteOf=some bs->
  ∀(acc:ByteArray),(forIn (m:=Sem) vs acc λc s=>
    match c with
    |.int .u8 n=>pure (ForInStep.yield (s.push (UInt8.ofNat n.toNat)))
    |_=>do
     (stuck "bytesToString: byte expected" :Sem PUnit)
     pure (ForInStep.yield s)).run P w=.ok ⟨⟨acc.data.toList++bs⟩⟩ w
 |[],vs,bs,hv,hb,acc=>by
  rw[bE]at hv;subst hv;simp at hb;subst hb;simp
 |x::xs,vs,bs,hv,hb,acc=>by
  obtain⟨y,ys,rfl,hy,hys⟩:=aQ.1 hv;simp only[acL,acs,acZ]at hb;cases hx:byteOf x with
  |none=>simp[hx]at hb
  |some b=>
   cases hl:xs.mapM byteOf with
   |none=>simp[hx,hl]at hb
   |some bs'=>
    simp[hx,hl]at hb;subst hb;unfold byteOf at hx;split at hx
    case h_2=>cases hx
    rename_i n;cases hx;rw[VR]at hy;subst hy;have:=yb hys hl (acc.push (UInt8.ofNat n.toNat));simp only[List.forIn_cons,aaA,aaU,aaq];rw[this];simp[ByteArray.push]
def Af{e:TypeId}(h:F5 P e=true):P.underlying e=some (.int .u8):=by
 unfold F5 at h;split at h
 ·assumption
 ·cases h
def IY{s d:TypeId}{k x cx}(hk:D2 P s d=some k)(hr:HR P m h w)(hx:VR m (ρ x) cx)(hf:dE (.conv k x) ρ h=some (v,h')):
  ∃cv w' m',(convert s d cx).run P w=.ok cv w'/\VR m' v cv/\HR P m' h' w'/\Grow m h w m' h' w':=by
 simp only[dE]at hf;have same:∀{cv:Value},(convert s d cx).run P w=.ok cv w->VR m v cv->h' =h->∃cv w' m',(convert s d cx).run P w=.ok cv w'/\VR m' v cv/\HR P m' h' w'/\Grow m h w m' h' w':=by
  intro cv h1 h2 h3;exact Lc
 unfold D2 at hk;split at hk
 ·rename_i k1 k2 hs hd;cases hk;simp only[kN]at hf;split at hf
  case h_2=>cases hf
  rename_i hρ;rw[hρ,VR]at hx;subst hx;cases hf;exact same (by simp[convert,aaz hs,aaz hd,Conv.intToInt]) rfl rfl
 ·rename_i k1 k2 hs hd;cases hk;simp only[kN]at hf;split at hf
  case h_2=>cases hf
  rename_i hρ;rw[hρ,VR]at hx;subst hx;cases hf;exact same (by simp[convert,aaz hs,aaz hd,Conv.intToFloat]) ⟨_,rfl,.inl rfl⟩ rfl
 ·rename_i k1 k2 hs hd;cases hk;simp only[kN]at hf;split at hf
  case h_2=>cases hf
  rename_i sk b hρ;rw[hρ]at hx;obtain⟨b',rfl,hfr⟩:=hx;split at hf
  case h_2=>cases hf
  rename_i n hn;split at hf
  case isFalse=>cases hf
  rename_i hc;cases hf;have hbb:b' =b:=by
   rcases hfr with h1|⟨h1,_⟩
   ·exact h1
   ·rw[hc.1]at h1;cases h1
  subst hbb;exact same (by simp[convert,aaz hs,aaz hd,Conv.floatToInt,hn,hc.2]) rfl rfl
 ·rename_i k1 k2 hs hd;cases hk;simp only[kN]at hf;split at hf
  case h_2=>cases hf
  rename_i sk b hρ;rw[hρ]at hx;obtain⟨b',rfl,hfr⟩:=hx;split at hf
  case isFalse=>cases hf
  rename_i hc;cases hf;subst hc;exact same (by simp[convert,aaz hs,aaz hd,Conv.floatToFloat]) ⟨_,rfl,hfr⟩ rfl
 ·rename_i hs hd;cases hk;simp only[kN]at hf;split at hf
  case h_2=>cases hf
  rename_i hρ;rw[hρ,VR]at hx;subst hx;cases hf;exact same (by simp[convert,aaz hs,aaz hd]) rfl rfl
 ·rename_i e hs hd;split at hk
  case isFalse=>cases hk
  rename_i he;have hue:P.underlying e=some (.int .u8):=Af he;cases hk;simp only[kN]at hf;split at hf
  case h_2=>cases hf
  rename_i s hρ;rw[hρ,VR]at hx;subst hx;cases hf;obtain⟨q,hq⟩:∃q:Question,q=.appendCap s.length 0 e:=⟨_,rfl⟩;obtain⟨nc,XB⟩:∃nc:Nat,nc=q.cut (w.tape w.drawn q):=⟨_,rfl⟩;have Yb:s.length<=nc:=by rw[XB,hq];show s.length<=s.length+_;omega
  have Vr:(choose (.appendCap s.length 0 e)).run P w=.ok nc w.drew:=by
   rw[run_choose,XB,hq];rfl
  let vs:List Value:=s.map λb=>.int .u8 b.toNat
  let rest:List Value:=List.replicate (nc-s.length) (.int .u8 0)
  have Ud:vs.length=s.length:=by simp[vs]
  have UC:rest.length=nc-s.length:=by simp[rest]
  let W:World:=(w.drew.alloc (.cells ⟨vs++rest⟩ e))
  let W':World:=W.freeze ⟨w.heap.size,nc,none⟩ 1
  have hWh:W.heap[w.heap.size]? =some (.cells ⟨vs++rest⟩ e):=World.alloc_heap_new w.drew _;have hlt:w.heap.size<W.heap.size:=(aax.1 hWh).1;have hW':W'.heap[w.heap.size]? =some (.cells ⟨vs++rest⟩ e (nc,nc+1)):=by
   have hk:W.heap[w.heap.size]=.cells ⟨vs++rest⟩ e:=(aax.1 hWh).2;show((if(1:Nat)=0 then W else {W with heap:=W.heap.modify w.heap.size _}).heap)[w.heap.size]? =_;rw[aao Om];show(W.heap.modify w.heap.size _)[w.heap.size]? =_;rw[aa6 (by rw[Array.size_modify];exact hlt),Array.getElem_modify_self,hk];rfl
  have hother:∀i,i≠w.heap.size->W'.heap[i]? =W.heap[i]? :=by
   intro i hi;show((if(1:Nat)=0 then W else {W with heap:=W.heap.modify w.heap.size _}).heap)[i]? =_;rw[aao Om];show(W.heap.modify w.heap.size _)[i]? =_;rw[Array.getElem?_modify,aao (λx=>hi x.symm)]
  have TH:W'.heap.size=W.heap.size:=by
   show((if(1:Nat)=0 then W else {W with heap:=W.heap.modify w.heap.size _}).heap).size=_;rw[aao Om];simp
  obtain⟨m',h0,h1,h2⟩:=kO hr.drew (nM m s) (sg s) rest e true true (λ_=>rfl);have h0':m' h.length=some ⟨w.heap.size,0,vs.length+rest.length,true⟩:=h0;have hne:∀b e2 k2,m' b=some e2->b≠h.length->(h++[.cells (s.map λb=>.int .u8 b.toNat) true true])[b]? =some k2->k2.live=true->e2.cb≠w.heap.size:=by
   intro b e2 k2 hb hbl Tr hl hcb;have:=h1.sep h.length b _ e2 (.cells (s.map λb=>.int .u8 b.toNat) true true) k2 (λx=>hbl x.symm) h0' hb Si Tr hcb.symm;cases k2<;>first|exact absurd this.1 Si|exact this|(cases hl;done)
  have hgrow:Grow m h w m' (h++[.cells (s.map λb=>.int .u8 b.toNat) true true]) W':=by
   have g:=h2.DX;refine⟨g.ext,g.len,g.new,g.tl,by rw[TH];exact g.size,?_,?_,?_,?_⟩
   ·exact g.os
   ·exact g.out
   ·exact g.tape
   ·intro i hi hno;rw[hother i Om];exact g.frame i hi hno
  refine⟨.slice (some ⟨w.heap.size,0,none⟩) s.length nc,W',m',?_,⟨_,_,nc,h0',rfl,Yb,λ_=>rfl,by show 0+0+nc*1<=vs.length+rest.length;omega⟩,⟨h1.cM,?_,h1.sep,h1.fS,λb' e' hb'=>by have:=h1.lt b' e' hb';rw[TH];exact this⟩,hgrow⟩
  ·have dV:(⟨⟨s⟩⟩:ByteArray).size=s.length:=rfl;have XF:(⟨s⟩:Array UInt8).map (λb=>Value.int .u8 b.toNat)=⟨vs⟩:=by apply acU;simp[vs]
   have Uf:(⟨vs⟩:Array Value)++Array.replicate (nc-s.length) (.int .u8 0)=⟨vs++rest⟩:=by apply acU;simp[rest]
   have ZV:W.shape? w.heap.size=some (e,nc):=by
    simp only[World.shape?,hWh];simp[Ud,UC];omega
   simp only[convert,aaA,aaz hs,aaz hd,aaq,aaz hue,Conv.stringToBytes,dV,Vr,XF,Uf,newRow,run_newObj,aaU];simp only[markStringish,aaA,run_shape];have TZ:World.shape? {heap:=w.drew.heap.push (Obj.cells ⟨vs++rest⟩ e),tape:=w.drew.tape,drawn:=w.drew.drawn,os:=w.drew.os,output:=w.drew.output} w.drew.heap.size=some (e,nc):=ZV;simp only[TZ,aaq,run_freeze];rfl
  ·intro b e2 k2 hb Tr;have UA:=h1.dW b e2 k2 hb Tr;by_cases hbl:b=h.length
   ·subst hbl;rw[h0']at hb;cases hb;simp at Tr;subst Tr;obtain⟨cc,el,fz,hh,h3,h4,h5,h6⟩:=UA;have hWh':W.heap[w.heap.size]? =some (.cells cc el fz):=hh;rw[hWh]at hWh';cases hWh';refine⟨⟨vs++rest⟩,e,(nc,nc+1),hW',h3,h4,λ_=>⟨(h5 rfl).1,λi hi=>?_⟩,h6⟩;have:(⟨vs++rest⟩:Array Value).size=nc:=by simp[Ud,UC];omega
    simp only;omega
   ·by_cases hl:k2.live=true
    ·exact UA.heap (hother _ (hne b e2 k2 hb hbl Tr hl))
    ·exact z139
 ·rename_i e hs hd;split at hk
  case isFalse=>cases hk
  rename_i he;have hue:P.underlying e=some (.int .u8):=Af he;cases hk;simp only[kN]at hf;split at hf
  ·rename_i hρ;rw[hρ,VR]at hx;subst hx;cases hf;exact same (by simp[convert,aaz hs,aaz hd,aaz hue,Conv.bytesToString];rfl) rfl rfl
  ·rename_i b o n es hρ;rw[hρ]at hx;split at hf
   case h_2=>cases hf
   rename_i l k hc;split at hf
   case h_2=>cases hf
   rename_i r hl;cases hf;obtain⟨hlen,Vi,hone,Tz⟩:=cN hr hx hc;obtain⟨vs,Um,Ts⟩:=Tz k (aar _);rw[aaV Om]at Ts;have hkn:k=n:=by
    unfold cellsIn at hc;simp only at hc;split at hc
    ·split at hc
     ·split at hc
      ·cases hc;rfl
      ·cases hc
     ·cases hc
    ·cases hc
   subst hkn;obtain⟨en,ca,cap,T5,rfl,TO,T7,hroom⟩:=hx;simp only[Builtin.firstCells,acu]at Um;refine same (cv:=.string ⟨⟨r⟩⟩) ?_ rfl rfl;have hb:=yb (P:=P) (w:=w) Ts hl ByteArray.empty;simp only[convert,aaA,aaz hs,aaz hd,aaq,aaz hue,Conv.bytesToString,Um];rw[<-Array.forIn_toList]
   erw [hb]
   simp
  ·cases hf
 ·cases hk
theorem xP:∀{l}{vs}{x v}{cx},VR m x cx->cL m l vs->iW qA x l=some v->∃cv,(vs.foldlM (m:=Sem) Builtin.max2 cx).run P w=.ok cv w/\VR m v cv
 |[],vs,x,v,cx,hx,hl,hf=>by
  exact K7
 |y::l,vs,x,v,cx,hx,hl,hf=>by
  obtain⟨cy,vs',rfl,hy,TB⟩:=aQ.1 hl;simp only[iW]at hf;split at hf
  case h_2=>cases hf
  rename_i z hz;unfold qA at hz;split at hz
  case h_2=>cases hz
  rename_i k a k' b;split at hz
  case isFalse=>cases hz
  cases hz;rw[VR]at hx hy;subst hx;subst hy;obtain⟨cv,h1,h2⟩:=xP (x:=.int k (if b > a then b else a)) (cx:=.int k (if b > a then b else a)) rfl TB hf;exact⟨cv,by simp only[List.foldlM_cons,aaA,Builtin.max2,aaU,aaq];exact h1,h2⟩
theorem xO:∀{l}{vs}{x v}{cx},VR m x cx->cL m l vs->iW qz x l=some v->∃cv,(vs.foldlM (m:=Sem) Builtin.min2 cx).run P w=.ok cv w/\VR m v cv
 |[],vs,x,v,cx,hx,hl,hf=>by
  exact K7
 |y::l,vs,x,v,cx,hx,hl,hf=>by
  obtain⟨cy,vs',rfl,hy,TB⟩:=aQ.1 hl;simp only[iW]at hf;split at hf
  case h_2=>cases hf
  rename_i z hz;unfold qz at hz;split at hz
  case h_2=>cases hz
  rename_i k a k' b;split at hz
  case isFalse=>cases hz
  cases hz;rw[VR]at hx hy;subst hx;subst hy;obtain⟨cv,h1,h2⟩:=xO (x:=.int k (if b<a then b else a)) (cx:=.int k (if b<a then b else a)) rfl TB hf;exact⟨cv,by simp only[List.foldlM_cons,aaA,Builtin.min2,aaU,aaq];exact h1,h2⟩
def CW{t e:TypeId}{i:TypeInfo}{n:Nat}{z:AV}{ps:Array (Nat×Operand)}{l:List (Nat×cZ)}{σ:Operand->Value}(hs:eA P t=some (e,i))(hz:jW P e=some z)
  (hl:ps.toList.mapM (λp=>(cW p.2).map λy=>(p.1*i.size,y))=some l) (hspos:0<i.size) (hzs:z.cells.length=i.size) (h1:z.cells.all AV.one=true) (hn:n*i.size<=2^24)
  (hr:HR P m h w) (hρ:∀p∈ps.toList,∀y,cW p.2=some y->VR m (ρ y) (σ p.2)) {c:List AV}(hf:eT (dX n z.cells) (l.map λp=>(p.1,i.size,ρ p.2))=some c) (hc1:c.all AV.one=true) (hcl:c.length=n*i.size) (mu tl:Bool):
  ∃cv w' m',(Instr.buildSlice t n (ps.map λ(i,x)=>(i,σ x))).run P w=.ok cv w'/\VR m' (.slice h.length 0 n i.size) cv/\HR P m' (h++[.cells c mu tl]) w'/\Grow m h w m' (h++[.cells c mu tl]) w':=by
 have _:=h1;obtain⟨hu,hi⟩:=fF hs;obtain⟨cz,We,Xd⟩:=ku hz w m;have hzc:=Xd.cells;have dV:cz.cells.size=z.cells.length:=by have:=hzc.length;simpa using this
 have hzero:∀(row:Array Value),row=(Array.range (n*cz.cells.size)).map (cz.cells[·% cz.cells.size]!)->cL m (dX n z.cells) row.toList:=by
  intro row hrow;have:=tK hzc Om n n (aar _);rw[<-hrow,aaV]at this
  ·exact this
  ·rw[hrow];simp[dV]
 have ZZ:∀(qs:List (Nat×Operand)) (l:List (Nat×cZ)),qs.mapM (λp=>(cW p.2).map λy=>(p.1*i.size,y))=some l->qs.length=l.length/\∀(j:Nat) p q,qs[j]? =some p->l[j]? =some q->q.1=p.1*i.size/\cW p.2=some q.2:=by
  intro qs
  induction qs with
  |nil=>intro l hl;simp at hl;subst hl;exact⟨rfl,λj p q hp=>by simp at hp⟩
  |cons p qs ih=>
   intro l hl;simp only[acL,acs,acZ]at hl;cases ho:cW p.2 with
   |none=>simp[ho]at hl
   |some y=>
    cases hr':qs.mapM (λp=>(cW p.2).map λy=>(p.1*i.size,y))with
    |none=>simp[ho,hr']at hl
    |some l'=>
     simp[ho,hr']at hl;subst hl;obtain⟨h2,h3⟩:=ih l' hr';refine⟨by simp[h2],λj a b ha hb=>?_⟩;cases j with
     |zero=>simp at ha hb;subst ha;subst hb;exact⟨rfl,ho⟩
     |succ j=>exact h3 j a b (by simpa using ha) (by simpa using hb)
 obtain⟨VD,hpq⟩:=ZZ _ _ hl;by_cases Yc:n*i.size=0
 ·have hnz:n=0:=by
   rcases Nat.mul_eq_zero.1 Yc with h|h
   ·exact h
   ·omega
  obtain⟨T8,UI,Um⟩:=rk (m:=m) (λj=>some (j*i.size,i.size)) (ps.toList.map λp=>(p.1,σ p.2)) (l.map λp=>(p.1,i.size,ρ p.2)) (dX n z.cells) #[] c (by simp[VD])
   (λj p q hp hq=>by
    simp only[abz,aaC]at hp hq;obtain⟨p0,hp0,rfl⟩:=hp;obtain⟨q0,hq0,rfl⟩:=hq;obtain⟨h2,h3⟩:=hpq j p0 q0 hp0 hq0;exact⟨by simp[h2],hρ p0 (aa8 hp0) _ h3⟩) (by subst hnz;simp[dX,bE]) hf
  obtain⟨m',h2,h3,h4⟩:=mC hr Um hc1 e mu tl;have Ud:=Um.length;refine⟨.slice (some ⟨w.heap.size,0,none⟩) n n,_,m',?_,⟨_,_,n,h2,rfl,aar _,λ_=>rfl,by show 0+0+n*i.size<=T8.toList.length;omega⟩,h3,h4⟩;have TF:¬(n*i.size > 2^24):=Om
  have TH:(sizeOf e).run P w=.ok i.size w:=cB (by simp[ep,hi]) w;have e0:(Array.range 0).map (λx=>(#[] :Array Value)[x%(#[] :Array Value).size]!)=#[]:=Si
  simp only[Instr.buildSlice,aaA,aaz hu,aaq,TH,TF,aay];simp only[Yc,aaB,aaA,aaq,aaU,e0];exact LU
 ·obtain⟨T8,UI,Um⟩:=rk (m:=m) (λj=>some (j*i.size,i.size)) (ps.toList.map λp=>(p.1,σ p.2)) (l.map λp=>(p.1,i.size,ρ p.2)) (dX n z.cells) ((Array.range (n*i.size)).map (cz.cells[·% cz.cells.size]!)) c (by simp[VD])
   (λj p q hp hq=>by
    simp only[abz,aaC]at hp hq;obtain⟨p0,hp0,rfl⟩:=hp;obtain⟨q0,hq0,rfl⟩:=hq;obtain⟨h2,h3⟩:=hpq j p0 q0 hp0 hq0;exact⟨by simp[h2],hρ p0 (aa8 hp0) _ h3⟩) (hzero _ (by rw[dV,hzs])) hf
  obtain⟨m',h2,h3,h4⟩:=mC hr Um hc1 e mu tl;have Ud:=Um.length;refine⟨.slice (some ⟨w.heap.size,0,none⟩) n n,_,m',?_,⟨_,_,n,h2,rfl,aar _,λ_=>rfl,by show 0+0+n*i.size<=T8.toList.length;omega⟩,h3,h4⟩;have TF:¬(n*i.size > 2^24):=Om
  have TH:(sizeOf e).run P w=.ok i.size w:=cB (by simp[ep,hi]) w;simp only[Instr.buildSlice,aaA,aaz hu,aaq,TH,TF,aay,Yc,aaU,We];exact LU
def xV{op}{t:TypeId}{x y xs ys}(hm:P.eqGuardType P.depth t=false):(eqGuard op t x y (.agg xs) (.agg ys)).run P w=.ok () w:=by
 cases op<;>simp[eqGuard,run_program,hm]
def lh{op}{t:TypeId}{x y a b}(h1:∀l,a≠.agg l)(h2:a≠.nilIface):(eqGuard op t x y a b).run P w=.ok () w:=by
 cases op<;>cases a<;>first
  |rfl
  |exact absurd rfl h2
  |exact absurd rfl (h1 _)
def VR.M1{x cx}(hx:VR m x cx)(h1:x.one=true):(∀l,cx≠.agg l)/\cx≠.nilIface:=by
 have hc:=hx.uW h1;refine⟨λl e=>?_,λe=>?_⟩
 ·subst e;cases hc
 ·subst e;cases x<;>simp[VR,AV.one]at hx h1
def Fq{t:TypeId}{e:TypeId}(hu:P.underlying t=some (.slice e)){x y cx cy b}(hx:VR m x cx)(hy:VR m y cy)(hb:Q5 x y=some b)(d:Nat):
  (Op.equalIn (d+1) t cx cy).run P w=.ok b w/\(∀l,cx≠.agg l)/\cx≠.nilIface/\(binOp .eql t cx cy=do pure (.bool (<-Op.equal t cx cy)))/\(binOp .neq t cx cy=do pure (.bool (!(<-Op.equal t cx cy)))):=by
 unfold Q5 at hb;split at hb
 ·rw[VR]at hx hy;subst hx;subst hy;cases hb;exact B6
 ·rw[VR]at hx;obtain⟨_,ca,cap,_,rfl,_⟩:=hy;subst hx;cases hb;exact B6
 ·rw[VR]at hy;obtain⟨_,ca,cap,_,rfl,_⟩:=hx;subst hy;cases hb;exact B6
 ·cases hb
def Fs{t:TypeId}{e:TypeId}(hu:P.underlying t=some (.pointer e)){x y cx cy b}(hx:VR m x cx)(hy:VR m y cy)(hb:Q6 x y=some b)(d:Nat):
  (Op.equalIn (d+1) t cx cy).run P w=.ok b w/\(∀l,cx≠.agg l)/\cx≠.nilIface/\(binOp .eql t cx cy=do pure (.bool (<-Op.equal t cx cy)))/\(binOp .neq t cx cy=do pure (.bool (!(<-Op.equal t cx cy)))):=by
 unfold Q6 at hb;split at hb
 ·rw[VR]at hx hy;subst hx;subst hy;cases hb;exact B6
 ·rw[VR]at hx;obtain⟨_,_,rfl⟩:=hy;subst hx;cases hb;exact B6
 ·rw[VR]at hy;obtain⟨_,_,rfl⟩:=hx;subst hy;cases hb;exact B6
 ·cases hb
def Fu{t:TypeId}{e f g}(hu:P.underlying t=some (.func e f g)){x y cx cy b}(hx:VR m x cx)(hy:VR m y cy)(hb:Q8 x y=some b)(d:Nat):
  (Op.equalIn (d+1) t cx cy).run P w=.ok b w/\(∀l,cx≠.agg l)/\cx≠.nilIface/\(binOp .eql t cx cy=do pure (.bool (<-Op.equal t cx cy)))/\(binOp .neq t cx cy=do pure (.bool (!(<-Op.equal t cx cy)))):=by
 unfold Q8 at hb;split at hb
 ·rw[VR]at hx hy;subst hx;subst hy;cases hb;exact B6
 ·rw[VR]at hx;obtain⟨_,_,_,rfl,_⟩:=hy;subst hx;cases hb;exact B6
 ·rw[VR]at hy;obtain⟨_,_,_,rfl,_⟩:=hx;subst hy;cases hb;exact B6
 ·cases hb
def Ft{t:TypeId}{e f:TypeId}(hu:P.underlying t=some (.map e f)){x y cx cy b}(hx:VR m x cx)(hy:VR m y cy)(hb:Q7 x y=some b)(d:Nat):
  (Op.equalIn (d+1) t cx cy).run P w=.ok b w/\(∀l,cx≠.agg l)/\cx≠.nilIface/\(binOp .eql t cx cy=do pure (.bool (<-Op.equal t cx cy)))/\(binOp .neq t cx cy=do pure (.bool (!(<-Op.equal t cx cy)))):=by
 unfold Q7 at hb;split at hb
 ·rw[VR]at hx hy;subst hx;subst hy;cases hb;exact B6
 ·rw[VR]at hx;obtain⟨_,_,rfl⟩:=hy;subst hx;cases hb;exact B6
 ·rw[VR]at hy;obtain⟨_,_,rfl⟩:=hx;subst hy;cases hb;exact B6
 ·cases hb
def HL{t:TypeId}{neg k x y ox oy cx cy}(hk:JT P neg t x y=some (.eqv neg k x y))(hx:VR m (ρ x) cx)(hy:VR m (ρ y) cy)(hf:dE (.eqv neg k x y) ρ h=some (v,h')):
  ∃cv,(do eqGuard (if neg then .neq else .eql) t ox oy cx cy;binOp (if neg then .neq else .eql) t cx cy:Sem Value).run P w=.ok cv w/\VR m v cv/\h' =h:=by
 simp only[dE]at hf;split at hf
 case h_2=>cases hf
 rename_i b hb;cases hf;have fin:(eqGuard (if neg then .neq else .eql) t ox oy cx cy).run P w=.ok () w->(Op.equalIn 10000 t cx cy).run P w=.ok b w->(binOp .eql t cx cy=do pure (.bool (<-Op.equal t cx cy)))->(binOp .neq t cx cy=do pure (.bool (!(<-Op.equal t cx cy))))->
   ∃cv,(do eqGuard (if neg then .neq else .eql) t ox oy cx cy;binOp (if neg then .neq else .eql) t cx cy:Sem Value).run P w=.ok cv w/\VR m (.bool (if neg then !b else b)) cv/\h=h:=by
  intro h1 h2 h3 h4;refine⟨.bool (if neg then !b else b),?_,rfl,rfl⟩;simp only[aaA,h1,aaq];cases neg
  ·simp only[aa2,aay,h3,aaA,Op.equal,Op.maxDepth,h2,aaq,aaU]
  ·simp only[aaB,h4,aaA,Op.equal,Op.maxDepth,h2,aaq,aaU]
 unfold JT at hk;split at hk<;>first
  |(cases hk;done)
  |skip
 ·rename_i hu;cases hk;have hb':dz .b (ρ x) (ρ y)=some b:=hb;have hone:(ρ x).one=true:=by unfold dz at hb';split at hb'<;>first|(cases hb';done)|simp_all [AV.one]
  obtain⟨n1,n2⟩:=hx.M1 hone;obtain⟨a,c,hxa,U0⟩:∃a c,ρ x=.bool a/\ρ y=.bool c:=by unfold dz at hb';split at hb'<;>first|(cases hb';done)|simp_all
  rw[hxa,VR]at hx;rw[U0,VR]at hy;subst hx;subst hy;refine fin (lh n1 n2) ?_ rfl rfl;exact rN (m:=m) (t:=t) (k:=.b) hu (x:=.bool a) (y:=.bool c) rfl rfl (by rw[<-hxa,<-U0];exact hb') 9999
 ·rename_i fs hu;exact Sz
 ·rename_i n e hu;exact Sz
 ·rename_i e hu;cases hk;obtain⟨h1,h2,h3,h4,h5⟩:=Fq (w:=w) hu hx hy hb 9999;exact EK
 ·rename_i e hu;cases hk;obtain⟨h1,h2,h3,h4,h5⟩:=Fs (w:=w) hu hx hy hb 9999;exact EK
 ·rename_i hu;cases hk;obtain⟨h1,h2,h3,h4,h5⟩:=Fu (w:=w) hu hx hy hb 9999;exact EK
 ·rename_i hu;cases hk;obtain⟨h1,h2,h3,h4,h5⟩:=Ft (w:=w) hu hx hy hb 9999;exact EK
end
def nA(k:pN)(ρ:cZ->AV)(h:ah)(v:AV)(h':ah):Prop:=
 match k with
 |.call _ _=>False
 |.app es w x y=>yj es w (ρ x) (ρ y) h v h'
 |.a8 es n z ps=>∃c mu tl,eT (dX n z) (ps.map λp=>(p.1,es,ρ p.2))=some c/\c.all AV.one=true/\c.length=n*es/\v=.slice h.length 0 n es/\h' =h++[.cells c mu tl]
 |k=>dE k ρ h=some (v,h')
section
variable {P:Program}{m:cw}{h h':ah}{w:World}{ρ:cZ->AV}{v:AV}{σ:Operand->Value}
def fc.n8{r:Result Value}(hr:HR P m h w)(hx:∃cv,r=.ok cv w/\VR m v cv/\h' =h){R:Result Next}(hR:∀cv,r=.ok cv w->R=.ok (.value cv) w):fc P m h w v h' R:=by
 obtain⟨cv,h1,h2,rfl⟩:=hx;exact fc.same hr h2 (hR cv h1)
def fc.AN{r:Result Value}(hx:∃cv w' m',r=.ok cv w'/\VR m' v cv/\HR P m' h' w'/\Grow m h w m' h' w'){R:Result Next}(hR:∀cv w',r=.ok cv w'->R=.ok (.value cv) w'):fc P m h w v h' R:=by
 obtain⟨cv,w',m',h1,h2,h3,h4⟩:=hx;exact⟨cv,w',m',.inl (hR cv w' h1),h2,h3,h4⟩
def oO{l l'}(hl:zW l=some l')(hρ:∀x∈l,∀x',cW x=some x'->VR m (ρ x') (σ x)):cL m (l'.map ρ) (l.map σ).toList:=by
 have key:∀(l:List Operand) (l':List cZ),l.mapM cW=some l'->(∀x∈l,∀x',cW x=some x'->VR m (ρ x') (σ x))->cL m (l'.map ρ) (l.map σ):=by
  intro l
  induction l with
  |nil=>intro l' h _;simp at h;subst h;exact bE.2 rfl
  |cons x l ih=>
   intro l' h hρ;simp only[acL,acs,acZ]at h;cases hx:cW x with
   |none=>simp[hx]at h
   |some y=>
    cases hl:l.mapM cW with
    |none=>simp[hx,hl]at h
    |some l2=>
     simp[hx,hl]at h;subst h;exact aQ.2 ⟨_,_,rfl,hρ x Si y hx,ih l2 hl (λx' Tu=>hρ x' (by simp[Tu]))⟩
 have:=key l.toList l' hl (λx hx=>hρ x (by simpa using hx))
 simpa using this
def rW{lo lo'}(hl:wL lo=some lo')(hρ:∀x∈lo,∀x',cW x=some x'->VR m (ρ x') (σ x)):
  pM m ρ lo' (lo.map σ):=by
 cases lo with
 |none=>simp[wL]at hl;subst hl;trivial
 |some x=>
  simp only[wL,aaC]at hl;obtain⟨y,hy,rfl⟩:=hl;exact hρ x rfl y hy
def ME{op}{t:TypeId}{x y ox oy cx cy}(hr:HR P m h w)(hx:VR m (ρ x) cx)(hy:VR m (ρ y) cy)(hf:dE (.bin op x y) ρ h=some (v,h')):
  ∃cv w' m',(do eqGuard op t ox oy cx cy;binOp op t cx cy:Sem Value).run P w=.ok cv w'/\VR m' v cv/\HR P m' h' w'/\Grow m h w m' h' w':=by
 simp only[dE]at hf;split at hf
 case h_2=>cases hf
 rename_i u hu;cases hf;have fin:∀{cv:Value},(eqGuard op t ox oy cx cy).run P w=.ok () w->(binOp op t cx cy).run P w=.ok cv w->VR m v cv->
   ∃cv w' m',(do eqGuard op t ox oy cx cy;binOp op t cx cy:Sem Value).run P w=.ok cv w'/\VR m' v cv/\HR P m' h w'/\Grow m h w m' h w':=by
  intro cv h1 h2 h3;exact⟨cv,w,m,by simp only[aaA,h1,aaq,h2],h3,hr,Grow.refl m h w hr.cM⟩
 unfold eG at hu;split at hu
 ·rename_i k a k' b Ul ZJ;rw[Ul,VR]at hx;rw[ZJ,VR]at hy;subst hx;subst hy;have hg:(eqGuard op t ox oy (.int k a) (.int k' b)).run P w=.ok () w:=lh (λl=>by simp) Si;split at hu
  ·rename_i hs;obtain⟨cv,h1,h2⟩:=yC (P:=P) (m:=m) (w:=w) (k':=k') hs hu t;exact fin hg h1 h2
  ·rename_i hs;split at hu
   case isFalse=>cases hu
   rename_i hk;subst hk;obtain⟨cv,h1,h2⟩:=yE (P:=P) (m:=m) (w:=w) (by simpa using hs) hu t;exact fin hg h1 h2
 ·rename_i a b Ul ZJ;rw[Ul,VR]at hx;rw[ZJ,VR]at hy;subst hx;subst hy;obtain⟨cv,h1,h2⟩:=yB (P:=P) (m:=m) (w:=w) hu t;exact fin (lh (λl=>by simp) Si) h1 h2
 ·cases hu
def tE{b ts l k UJ}(hk:pq P b ts l=some k)(hargs:cL m (l.map ρ) UJ.toList)(hr:HR P m h w)(hs:nA k ρ h v h')(T:TypeId)(cs:Array Bool):
  ∃cv w' m',(builtin b ts T cs UJ).run P w=.ok (.value cv) w'/\VR m' v cv/\HR P m' h' w'/\Grow m h w m' h' w':=by
 have same:∀{cv:Value},(builtin b ts T cs UJ).run P w=.ok (.value cv) w->VR m v cv->h' =h->∃cv w' m',(builtin b ts T cs UJ).run P w=.ok (.value cv) w'/\VR m' v cv/\HR P m' h' w'/\Grow m h w m' h' w':=by
  intro cv h1 h2 h3;exact Lc
 have args1:∀{x:cZ},cL m [ρ x] UJ.toList->∃cx,UJ=#[cx]/\VR m (ρ x) cx:=by
  intro x h1;obtain⟨cx,r,YF,WH,VB⟩:=aQ.1 h1;rw[bE]at VB;subst VB;exact⟨cx,by apply acU;rw[YF],WH⟩
 have Zr:∀{x y:cZ},cL m [ρ x,ρ y] UJ.toList->∃cx cy,UJ=#[cx,cy]/\VR m (ρ x) cx/\VR m (ρ y) cy:=by
  intro x y h1;obtain⟨cx,r,YF,WH,VB⟩:=aQ.1 h1;obtain⟨cy,r',hcy,hvy,hr1⟩:=aQ.1 VB;rw[bE]at hr1;subst hr1;subst hcy;exact⟨cx,cy,by apply acU;rw[YF],WH,hvy⟩
 unfold pq at hk;split at hk
 ·
  rename_i x;obtain⟨cx,rfl,hx⟩:=args1 hargs;have vh:∀(lk:LK) (t0:TypeId) (d:TypeDesc),ts[0]? =some t0->P.underlying t0=some d->(match lk with|.sl=>∃e,d=.slice e|.st=>d=.string|.mp=>∃a b,d=.map a b)->dE (.len lk x) ρ h=some (v,h')->
    ∃cv w' m',(builtin .len ts T cs #[cx]).run P w=.ok (.value cv) w'/\VR m' v cv/\HR P m' h' w'/\Grow m h w m' h' w':=by
   intro lk t0 d Vz hu hd Tq;simp only[dE]at Tq;split at Tq
   case h_2=>cases Tq
   rename_i n hn;cases Tq;have go:(Builtin.len_ ts T #[cx]).run P w=.ok (.int .i64 n) w:=by
    unfold Bq at hn;split at hn
    ·rename_i s hρ;rw[hρ,VR]at hx;subst hx;split at hn
     case isFalse=>cases hn
     rename_i VE;subst VE;cases hn;cases hd;have:(⟨⟨s⟩⟩:ByteArray).size=s.length:=rfl;simp[Builtin.len_,Vz,aaz hu,goInt,this]
    ·rename_i b o n' es hρ;rw[hρ]at hx;obtain⟨_,ca,cap,_,rfl,_⟩:=hx;exact LY
    ·rename_i hρ;rw[hρ,VR]at hx;subst hx;exact LY
    ·rename_i r hρ;rw[hρ]at hx;obtain⟨e,he,rfl⟩:=hx;split at hn
     case h_2=>cases hn
     rename_i es hb;split at hn
     case isFalse=>cases hn
     rename_i VE;subst VE;cases hn;obtain⟨a,b,rfl⟩:=hd;obtain⟨_,Vv,clock,hheap,hlen,_⟩:=hr.dW r e _ he hb;simp[Builtin.len_,Vz,aaz hu,goInt,kX hheap rfl,hlen]
    ·rename_i hρ;rw[hρ,VR]at hx;subst hx;split at hn
     case isFalse=>cases hn
     rename_i VE;subst VE;cases hn;obtain⟨a,b,rfl⟩:=hd;simp[Builtin.len_,Vz,aaz hu,goInt]
    ·cases hn
   exact⟨.int .i64 n,w,m,by simp only[builtin,aaA,go,aaq,aaU],rfl,hr,Grow.refl m h w hr.cM⟩
  split at hk
  ·rename_i e hd;cases hk;obtain⟨t0,Vz,Wo⟩:=abk.1 hd;exact vh .sl t0 _ Vz Wo ⟨e,rfl⟩ hs
  ·rename_i hd;cases hk;obtain⟨t0,Vz,Wo⟩:=abk.1 hd;exact vh .st t0 _ Vz Wo rfl hs
  ·rename_i a b hd;cases hk;obtain⟨t0,Vz,Wo⟩:=abk.1 hd;exact vh .mp t0 _ Vz Wo ⟨a,b,rfl⟩ hs
  ·rename_i n e hd;cases hk;obtain⟨t0,Vz,Wo⟩:=abk.1 hd;have Tq:dE (.Bp n) ρ h=some (v,h'):=hs;simp only[dE,aaL,acG]at Tq;obtain⟨rfl,rfl⟩:=Tq;exact same (cv:=.int .i64 n) (by simp[builtin,Builtin.len_,Vz,aaz Wo,goInt]) rfl rfl
  ·cases hk
 ·
  rename_i x y;obtain⟨cx,cy,rfl,hx,hy⟩:=Zr hargs;have appF:∀(e:TypeId) (i:TypeInfo) (d:TypeDesc),(ts[0]?).bind (eA P)=some (e,i)->(ts[1]?).bind P.underlying=some d->(∀k,d≠.int k)->
    (if 0<i.size/\0<i.bytes/\i.bytes<=2^20 then(i.zero.bind (nf 4)).bind λz=>if z.cells.length=i.size then some (pN.app i.size i.bytes x y)else none else none)=some k->
    ∃cv w' m',(builtin .append ts T cs #[cx,cy]).run P w=.ok (.value cv) w'/\VR m' v cv/\HR P m' h' w'/\Grow m h w m' h' w':=by
   intro e i d h0 h1 hd hk;obtain⟨sT,hts0,hsl⟩:=abk.1 h0;obtain⟨xT,hts1,hud⟩:=abk.1 h1;split at hk
   case isFalse=>cases hk
   rename_i hc;obtain⟨c1,c2,c3⟩:=hc;obtain⟨z,hz,hk⟩:=abk.1 hk;split at hk
   case isFalse=>cases hk
   rename_i hzl;cases hk;obtain⟨cv,w',m',h2,h3,h4,h5⟩:=MF (w:=w) hts0 hts1 hsl c1 c2 c3 hud hd hz hzl hr hx hy hs T;exact⟨cv,w',m',by simp only[builtin,aaA,h2,aaq,aaU],h3,h4,h5⟩
  split at hk
  ·rename_i e i e2 h0 h1;exact appF e i _ h0 h1 (λk=>by simp) hk
  ·rename_i e i h0 h1;exact appF e i _ h0 h1 (λk=>by simp) hk
  ·cases hk
 ·
  rename_i x y;obtain⟨cx,cy,rfl,hx,hy⟩:=Zr hargs;split at hk
  case h_2=>cases hk
  rename_i e i h0;split at hk
  case isFalse=>cases hk
  rename_i hpos;cases hk;obtain⟨dT,hts0,hsl⟩:=abk.1 h0;obtain⟨cv,w',m',h2,h3,h4,h5⟩:=MD (w:=w) hts0 hsl hpos hr hx hy hs T;exact⟨cv,w',m',by simp only[builtin,aaA,h2,aaq,aaU],h3,h4,h5⟩
 ·
  rename_i x l;cases hk;have Tq:dE (.mx x l) ρ h=some (v,h'):=hs;simp only[dE]at Tq;split at Tq
  case h_2=>cases Tq
  rename_i u hu;cases Tq;obtain⟨cx,r,YF,WH,Ts⟩:=aQ.1 hargs;obtain⟨cv,h1,h2⟩:=xP (P:=P) (w:=w) WH Ts hu;exact same (by simp only[builtin,Builtin.max_,YF,aaA,h1,aaq,aaU]) h2 rfl
 ·
  rename_i x l;cases hk;have Tq:dE (.mn x l) ρ h=some (v,h'):=hs;simp only[dE]at Tq;split at Tq
  case h_2=>cases Tq
  rename_i u hu;cases Tq;obtain⟨cx,r,YF,WH,Ts⟩:=aQ.1 hargs;obtain⟨cv,h1,h2⟩:=xO (P:=P) (w:=w) WH Ts hu;exact same (by simp only[builtin,Builtin.min_,YF,aaA,h1,aaq,aaU]) h2 rfl
 ·cases hk
def yx{o:Oper}{k:pN}(hc:eF P o=some k)(hρ:∀x∈o.op.operands,∀x',cW x=some x'->VR m (ρ x') (σ x))(hcst:∀z,ρ (.c z)=z)(hr:HR P m h w)(hs:nA k ρ h v h'):
  fc P m h w v h' ((execOp σ o).run P w):=by
 unfold eF at hc;cases hop:o.op with
 |move x=>
  exact Sp
 |assign x=>
  exact Sp
 |pick c a b=>
  simp only[hop]at hc;split at hc
  case h_2=>cases hc
  rename_i c' a' b' UN YH hb';cases hc;have Tq:dE (.pick c' a' b') ρ h=some (v,h'):=hs;simp only[dE]at Tq;split at Tq
  case h_2=>cases Tq
  rename_i t ht;cases Tq;have h1:=hρ c (by simp[hop,Op.operands]) c' UN;rw[ht,VR]at h1;refine fc.same (cv:=if t then σ a else σ b) hr ?_ (by simp[execOp,hop,h1,asBool]);cases t
  ·exact hρ b (by simp[hop,Op.operands]) b' hb'
  ·exact hρ a (by simp[hop,Op.operands]) a' YH
 |alloc e=>
  simp only[hop]at hc;split at hc
  case h_2=>cases hc
  rename_i z hz;split at hc
  case isFalse=>cases hc
  rename_i h1;cases hc;have Tq:dE (.box (.c z)) ρ h=some (v,h'):=hs;simp only[dE,hcst,h1,aaB,aaL,acG]at Tq;obtain⟨rfl,rfl⟩:=Tq;obtain⟨cz,We,Xd⟩:=ku hz w m;obtain⟨m',h2,h3,h4,h5⟩:=uf hr Xd h1 e true false;exact⟨_,_,m',.inl (by simp only[execOp,hop,Instr.alloc,aaA,We,aaq,h2,aaU]),h3,h4,h5⟩
 |box e x=>
  simp only[hop,aaC]at hc;obtain⟨x',Tu,rfl⟩:=hc;have Tq:dE (.box x') ρ h=some (v,h'):=hs;simp only[dE]at Tq;split at Tq
  case isFalse=>cases Tq
  rename_i h1;cases Tq;obtain⟨m',h2,h3,h4,h5⟩:=uf hr (hρ x (by simp[hop,Op.operands]) x' Tu) h1 e true false;exact⟨_,_,m',.inl (by simp only[execOp,hop,Instr.box,aaA,aaq,h2,aaU]),h3,h4,h5⟩
 |build t ps=>
  simp only[hop]at hc;split at hc
  case h_2=>cases hc
  rename_i z l hz hl;split at hc
  case isFalse=>cases hc
  rename_i hp;cases hc;have Tq:dE (.build z.cells l) ρ h=some (v,h'):=hs;exact fc.n8 hr (Fo (w:=w) (σ:=σ) hz hl hp (λp hp y hy=>hρ p.2 (by simp only[hop,Op.operands];simp only[List.mem_toArray,aaK];exact⟨p,hp,rfl⟩) y hy) Tq) (λcv h=>by simp[execOp,hop,h])
 |buildSlice t n ps=>
  simp only[hop]at hc;split at hc
  case h_2=>cases hc
  rename_i e i hsl;split at hc
  case h_2=>cases hc
  rename_i z l hz hl;split at hc
  case isFalse=>cases hc
  rename_i TK;obtain⟨h1,h2,h3,h4⟩:=TK;cases hc;obtain⟨c,mu,tl,UI,hc1,hcl,rfl,rfl⟩:=hs;exact fc.AN (CW (w:=w) (σ:=σ) hsl hz hl h1 h2 h3 h4 hr (λp hp y hy=>hρ p.2 (by simp only[hop,Op.operands];simp only[List.mem_toArray,aaK];exact⟨p,hp,rfl⟩) y hy) UI hc1 hcl mu tl) (λcv w' h=>by simp[execOp,hop,h])
 |load t a=>
  simp only[hop]at hc;split at hc
  case h_2=>cases hc
  rename_i n a' hn YH;cases hc;exact fc.n8 hr (CV hn hr (hρ a (by simp[hop,Op.operands]) a' YH) hs) (λcv h=>by simp[execOp,hop,h])
 |store t a x=>
  simp only[hop]at hc;split at hc
  case h_2=>cases hc
  rename_i n a' x' hn YH Tu;cases hc;obtain⟨w',h1,rfl,h2,h3⟩:=Fk (w:=w) hn hr (hρ a (by simp[hop,Op.operands]) a' YH) (hρ x (by simp[hop,Op.operands]) x' Tu) hs;exact⟨undef,w',m,.inr ⟨by simp[execOp,hop,h1],rfl⟩,kv m,h2,h3⟩
 |nilCheck x=>
  simp only[hop,aaC]at hc;obtain⟨x',Tu,rfl⟩:=hc;have Tq:dE (.bT x') ρ h=some (v,h'):=hs;have h1:=hρ x (by simp[hop,Op.operands]) x' Tu;simp only[dE]at Tq;split at Tq
  ·rename_i b o hv;cases Tq;rw[hv]at h1;have h1':=h1;obtain⟨e,he,h2⟩:=h1;exact fc.same hr h1' (by simp[execOp,hop,h2])
  ·rename_i f a c hv;exact O8
  ·rename_i f a c hv;cases Tq;rw[hv]at h1;have h1':=h1;obtain⟨f',a',c',h2,h3,_⟩:=h1;obtain⟨e,he,rfl⟩:=h3;exact fc.same hr h1' (by simp[execOp,hop,h2])
  ·rename_i t' n a c hv;exact O8
  ·rename_i t' p f q a c hv;exact O8
  ·cases Tq
 |binOp op t x y ty=>
  simp only[hop]at hc;split at hc
  case h_2=>cases hc
  rename_i x' y' Tu hy';have hx:=hρ x (by simp[hop,Op.operands]) x' Tu;have hy:=hρ y (by simp[hop,Op.operands]) y' hy';have bin:∀{op':BinOp},o.op=.binOp op' t x y ty->k=.bin op' x' y'->fc P m h w v h' ((execOp σ o).run P w):=by
   intro op' ho hk;subst hk;exact fc.AN (ME (op:=op') (t:=t) (ox:=x) (oy:=y) hr hx hy hs) (λcv w' h=>by simp only[execOp,ho];rw[aaA,h];rfl)
  have eqv:∀(neg:Bool),o.op=.binOp (if neg then .neq else .eql) t x y ty->JT P neg t x' y' =some k->fc P m h w v h' ((execOp σ o).run P w):=by
   intro neg ho hk;have hk0:=hk;unfold JT at hk;split at hk
   ·cases hk;exact bin ho rfl
   ·cases hk;exact bin ho rfl
   ·cases hk;exact bin ho rfl
   ·exact K6
   ·exact Sj
   ·exact Sj
   ·exact K6
   ·exact K6
   ·exact K6
   ·exact K6
   ·cases hk
  split at hc
  ·exact eqv false hop hc
  ·exact eqv true hop hc
  ·cases hc;exact bin hop rfl
 |unOp op t x=>
  simp only[hop,aaC]at hc;obtain⟨x',Tu,rfl⟩:=hc;have Tq:dE (.un op x') ρ h=some (v,h'):=hs;simp only[dE]at Tq;split at Tq
  case h_2=>cases Tq
  rename_i u hu;cases Tq;obtain⟨cv,h1,h2⟩:=Fp (P:=P) (w:=w) (hρ x (by simp[hop,Op.operands]) x' Tu) hu;exact fc.same hr h2 (by simp[execOp,hop,h1])
 |convert s d x=>
  simp only[hop]at hc;split at hc
  case h_2=>cases hc
  rename_i ck x' UG Tu;cases hc;exact fc.AN (IY UG hr (hρ x (by simp[hop,Op.operands]) x' Tu) hs) (λcv w' h=>by simp[execOp,hop,h])
 |makeInterface u x=>
  simp only[hop]at hc;split at hc
  ·cases hc
  ·rename_i d x' hni hd Tu;cases hc;have Tq:dE (.conv (.vU u) x') ρ h=some (v,h'):=hs;simp only[dE,kN,aaL,acG]at Tq;obtain⟨rfl,rfl⟩:=Tq;have WD:=hρ x (by simp[hop,Op.operands]) x' Tu;refine fc.same (cv:=.iface u (σ x)) hr ⟨_,rfl,WD⟩ ?_;simp only[execOp,hop,Instr.makeInterface,aaA,aaz hd,aaq];cases d<;>first|rfl|exact absurd rfl (hni _)
  ·cases hc
 |makeFunc fn a c=>
  simp only[hop]at hc;split at hc
  case isFalse=>cases hc
  rename_i hfn;split at hc
  case h_2=>cases hc
  rename_i a' c' YH UN;cases hc;have Tq:dE (.ve fn a' c') ρ h=some (v,h'):=hs;simp only[dE,aaL,acG]at Tq;obtain⟨rfl,rfl⟩:=Tq;have h1:=oO (m:=m) (ρ:=ρ) (σ:=σ) YH (λx hx=>hρ x (by simp only[hop,Op.operands];exact Array.mem_append.2 (.inl hx)));have h2:=oO (m:=m) (ρ:=ρ) (σ:=σ) UN (λx hx=>hρ x (by simp only[hop,Op.operands];exact Array.mem_append.2 (.inr hx)));refine fc.same (cv:=.func fn (a.map σ) (c.map σ)) hr ⟨fn,(a.map σ).toList,(c.map σ).toList,rfl,?_,h1,h2⟩ (by simp[execOp,hop,Instr.makeFunc]);cases fn<;>first
   |rfl
   |(cases hfn;done)
 |makeMap t r=>
  simp only[hop]at hc;cases r with
  |some _=>simp at hc
  |none=>
   simp only[aaL]at hc;subst hc;have Tq:dE .oZ ρ h=some (v,h'):=hs;simp only[dE,aaL,acG]at Tq;obtain⟨rfl,rfl⟩:=Tq;have Ze:=kP hr (.map #[] 0) (.bg []) ⟨w.heap.size,0,0,true⟩ rfl rfl (λm' _=>⟨rfl,#[],0,World.alloc_heap_new w _,rfl,λi p hp=>by simp at hp⟩);exact⟨.map (some w.heap.size),_,_,.inl (by simp[execOp,hop,Instr.makeMap]),⟨⟨w.heap.size,0,0,true⟩,by simp[cw.add],rfl⟩,Ze.1,Ze.2⟩
 |makeSlice t l c=>
  simp only[hop]at hc;split at hc
  case h_2=>cases hc
  rename_i e i l' c' hsl TB UN;split at hc
  case h_2=>cases hc
  rename_i z hz;split at hc
  case isFalse=>cases hc
  rename_i TK;obtain⟨h1,h2,h3⟩:=TK;cases hc;exact fc.AN (IT hsl hz h1 h2 h3 hr (hρ l (by simp[hop,Op.operands]) l' TB) (hρ c (by simp[hop,Op.operands]) c' UN) hs) (λcv w' h=>by simp[execOp,hop,h])
 |slice t x lo hi mx=>
  simp only[hop]at hc;cases mx with
  |some _=>simp at hc
  |none=>
   simp only at hc;split at hc
   case h_2=>cases hc
   rename_i x' lo' hi' Tu hlo' hhi';have hx:=hρ x (by simp[hop,Op.operands]) x' Tu;have hlo:=rW (m:=m) (ρ:=ρ) (σ:=σ) hlo' (λy hy=>hρ y (by simp only[hop,Op.operands];cases hy;simp));have hhi:=rW (m:=m) (ρ:=ρ) (σ:=σ) hhi' (λy hy=>hρ y (by simp only[hop,Op.operands];cases hy;simp));split at hc
   ·rename_i hu;cases hc;exact fc.n8 hr (Mz hu hx hlo hhi hs) (λcv h=>by simp only[execOp,hop,acE];rw[aaA,h];rfl)
   ·rename_i e hu;simp only[aaC]at hc;obtain⟨n,hn,rfl⟩:=hc;exact fc.n8 hr (PH hu hn hx hlo hhi hs) (λcv h=>by simp only[execOp,hop,acE];rw[aaA,h];rfl)
   ·rename_i n e hu;simp only[aaC]at hc;obtain⟨es,hes,rfl⟩:=hc;exact fc.n8 hr (MA hu hes hr hx hlo hhi hs) (λcv h=>by simp only[execOp,hop,acE];rw[aaA,h];rfl)
   ·cases hc
 |fieldAddr t x i=>
  simp only[hop]at hc;split at hc
  case h_2=>cases hc
  rename_i f x' hf Tu;split at hc
  case h_2=>cases hc
  rename_i n hn;split at hc
  case isFalse=>cases hc
  rename_i hpos;cases hc;exact fc.n8 hr (IX hf hn hpos (hρ x (by simp[hop,Op.operands]) x' Tu) hs) (λcv h=>by simp[execOp,hop,h])
 |indexAddr t x i=>
  simp only[hop]at hc;split at hc
  case h_2=>cases hc
  rename_i x' i' Tu hi';have hx:=hρ x (by simp[hop,Op.operands]) x' Tu;have hi:=hρ i (by simp[hop,Op.operands]) i' hi';split at hc
  ·rename_i e hu;simp only[aaC]at hc;obtain⟨n,hn,rfl⟩:=hc;exact fc.n8 hr (IV hu hn hx hi hs) (λcv h=>by simp[execOp,hop,h])
  ·rename_i len e hu;simp only[aaC]at hc;obtain⟨n,hn,rfl⟩:=hc;exact fc.n8 hr (IW hu hn hx hi hs) (λcv h=>by simp[execOp,hop,h])
  ·cases hc
 |field t x i=>
  simp only[hop]at hc;split at hc
  case h_2=>cases hc
  rename_i f x' hf Tu;simp only[aaC]at hc;obtain⟨n,hn,rfl⟩:=hc;exact fc.n8 hr (Fl hf hn (hρ x (by simp[hop,Op.operands]) x' Tu) hs) (λcv h=>by simp[execOp,hop,h])
 |index t x i=>
  simp only[hop]at hc;split at hc
  case h_2=>cases hc
  rename_i x' i' Tu hi';have hx:=hρ x (by simp[hop,Op.operands]) x' Tu;have hi:=hρ i (by simp[hop,Op.operands]) i' hi';split at hc
  ·rename_i hu;cases hc;exact fc.n8 hr (MB hu hx hi hs) (λcv h=>by simp[execOp,hop,h])
  ·rename_i len e hu;split at hc
   case h_2=>cases hc
   rename_i n q hn hq;cases hc;exact fc.n8 hr (MC hu hn hq hx hi hs) (λcv h=>by simp[execOp,hop,h])
  ·cases hc
 |lookup t x i ok=>
  simp only[hop]at hc;split at hc
  case h_2=>cases hc
  rename_i kt e x' i' hu Tu hi';split at hc
  case h_2=>cases hc
  rename_i kk z hkk hz;cases hc;exact fc.n8 hr (IU hu hkk hz hr (hρ x (by simp[hop,Op.operands]) x' Tu) (hρ i (by simp[hop,Op.operands]) i' hi') hs) (λcv h=>by simp[execOp,hop,h])
 |mapUpdate t x i y=>
  exact Sv
 |insert t x i y=>
  exact Sv
 |range t x=>
  simp only[hop]at hc;split at hc
  case h_2=>cases hc
  rename_i hu;simp only[aaC]at hc;obtain⟨x',Tu,rfl⟩:=hc;exact fc.AN (IQ hu hr (hρ x (by simp[hop,Op.operands]) x' Tu) hs) (λcv w' h=>by simp[execOp,hop,h])
 |next x isS=>
  simp only[hop]at hc;cases isS with
  |false=>simp at hc
  |true=>
   simp only[aaC]at hc;obtain⟨x',Tu,rfl⟩:=hc;exact fc.AN (Fm (t:=o.type) hr (hρ x (by simp[hop,Op.operands]) x' Tu) hs) (λcv w' h=>by simp[execOp,hop,h])
 |extract x i=>
  simp only[hop,aaC]at hc;obtain⟨x',Tu,rfl⟩:=hc;have Tq:dE (.ext x' i) ρ h=some (v,h'):=hs;simp only[dE]at Tq;split at Tq
  case h_2=>cases Tq
  rename_i l hl;split at Tq
  case h_2=>cases Tq
  rename_i u hu;cases Tq;have h1:=hρ x (by simp[hop,Op.operands]) x' Tu;rw[hl]at h1;obtain⟨l',h2,h3⟩:=h1;obtain⟨cv,Vp,Ts⟩:=h3.get hu;exact fc.same hr Ts (by simp[execOp,hop,Instr.extract,h2,Vp])
 |call c=>
  simp only[hop]at hc;split at hc
  case h_2=>cases hc
  rename_i l hl;have hargs:=oO (m:=m) (ρ:=ρ) (σ:=σ) hl (λx hx=>hρ x (by simp only[hop,Op.operands,Call.operands];exact Array.mem_append.2 (.inr hx)));split at hc
  ·exact LB
  ·exact LB
  ·rename_i b hb;obtain⟨cv,w',m',h1,h2,h3,h4⟩:=tE (w:=w) hc hargs hr hs o.type (c.args.map λ|.const _=>true|_=>false);refine⟨cv,w',m',.inl ?_,h2,h3,h4⟩;simp only[execOp,hop,resolve,hb,aaA,aaU,aaq,invoke];exact h1
 |_=>simp[hop]at hc
end
def Rel(P:Program)(m:cw)(h:ah)(w:World)(v:AV)(h':ah)(e:Ending)(w':World):Prop:=
 ∃cv m',e=.returned cv/\VR m' v cv/\HR P m' h' w'/\Grow m h w m' h' w'
def jQ(P:Program)(f:FuncId)(args:List AV)(h:ah)(v:AV)(h':ah):Prop:=
 ∀(m:cw) (w:World) (vs:List Value),HR P m h w->cL m args vs->Calls P f ⟨vs⟩ w (Rel P m h w v h')
def EF(P:Program)(R:Ending->World->Prop):Result Next->Prop
 |.ok (.value cv) w'=>R (.returned cv) w'
 |.ok (.enter f args) w'=>CallsIn Fence.wide 0 P f args w' R
 |.ok (.round l f tmps asg body) w'=>RoundIn Fence.wide 0 P l f tmps asg body w' R
 |_=>False
def fq(P:Program)(fv:AV)(args:List AV)(h:ah)(v:AV)(h':ah):Prop:=
 ∀(m:cw) (w:World) (cv:Value) (vs:List Value),HR P m h w->VR m fv cv->cL m args vs->
  ∃d,(∀w,(Deferred.ofValue cv ⟨vs⟩).run P w=.ok d w)/\EF P (Rel P m h w v h') ((invoke d.target d.args).run P w)
def qo(P:Program)(k:pN)(ρ:cZ->AV)(h:ah)(v:AV)(h':ah):Prop:=
 match k with
 |.call f args=>fq P (ρ f) (args.map ρ) h v h'
 |k=>nA k ρ h v h'
abbrev Fd(ro:Option Nat):Fence:={Fence.wide with round:=ro}
def kY{P f fn args w}(hf:P.funcs[f]? =some fn)(hb:fn.body.isSome=true)(hn:(fn.name == "runtime.NumGoroutine")=false):
  (callFunc f args).run P w=.ok (.enter f args) w:=by
 have hb':fn.body≠none:=by cases h:fn.body<;>simp_all
 have Yd:fn.name≠ "runtime.NumGoroutine":=by simpa using hn
 simp[callFunc,aaA,run_program,hf,Yd,hb',Result.andThen]
section
variable {P:Program}{m:cw}{h h':ah}{w:World}{v:AV}
def rB{ro:Option Nat}{o:Oper}{a:Act}{next:Act->World->Prop}{Q:Exit->Act->World->Prop}{r:Result Next}
  (hr:EF P (Rel P m h w v h') r) (hn:∀cv m' w',VR m' v cv->HR P m' h' w'->Grow m h w m' h' w'->next (a.put o.dst cv) w'):o.uponIn (Fd ro) 0 P a next Q r:=by
 cases r with
 |halt x w'=>exact hr.elim
 |ok x w'=>
  cases x<;>first
   |exact hr.elim
   |skip
  case value cv=>
   obtain⟨cv',m',he,h1,h2,h3⟩:=hr;cases he;exact hn cv m' w' h1 h2 h3
  case enter f args=>
   rw[Oper.uponIn_enter];refine⟨λhd=>by simp[Fd,Fence.wide]at hd,CallsIn.mono (F:=Fd ro) (show CallsIn (Fd ro) (0-1) P f args w' (Rel P m h w v h')from hr) λe w'' he=>?_⟩;exact z173
  case round l f tmps asg body=>
   rw[Oper.uponIn_round];refine⟨λhd=>by simp[Fd,Fence.wide]at hd,RoundIn.mono (F:=Fd ro) (show RoundIn (Fd ro) (0-1) P l f tmps asg body w' (Rel P m h w v h')from hr) λe w'' he=>?_⟩;exact z173
def wM{o:Oper}{k:pN}{ρ:cZ->AV}(hc:eF P o=some k){a:Act}(hρ:∀x∈o.op.operands,∀x',cW x=some x'->VR m (ρ x') (a.eval x))(hcst:∀z,ρ (.c z)=z)
  (hr:HR P m h w) (hs:qo P k ρ h v h') (ro:Option Nat) (next:Act->World->Prop) (Q:Exit->Act->World->Prop)
  (hn:∀cv m' w',VR m' v cv->HR P m' h' w'->Grow m h w m' h' w'->next (a.put o.dst cv) w'):o.wpIn (Fd ro) 0 P a w next Q:=by
 refine⟨λ_ _=>trivial,?_⟩;have hdef:∀c,o.op≠.defer c:=by
  intro c hop;simp[eF,hop]at hc
 rw[Oper.semAt_eq _ _ _ hdef];by_cases VK:∃f args,k=.call f args
 ·obtain⟨f,args,rfl⟩:=VK;have Tq:fq P (ρ f) (args.map ρ) h v h':=hs;cases hop:o.op with
  |call c=>
   have UN:=hc;simp only[eF,hop]at UN;split at UN
   case h_2=>cases UN
   rename_i l hl;have hargs:=oO (m:=m) (ρ:=ρ) (σ:=a.eval) hl (λx hx=>hρ x (by simp only[hop,Op.operands,Call.operands];exact Array.mem_append.2 (.inr hx)));split at UN
   ·rename_i g hg;simp only[aaC]at UN;obtain⟨g',TN,he⟩:=UN;cases he;have hf:=hρ g (by simp[hop,Op.operands,Call.operands,hg]) _ TN;obtain⟨d,hd,haf⟩:=Tq m w _ _ hr hf hargs;refine rB (m:=m) (h:=h) (w:=w) (v:=v) (h':=h') ?_ hn;simp only[execOp,hop,resolve,hg,aaA];have TW:(Deferred.ofValue (a.eval g) (c.args.map a.eval)).run P w=.ok d w:=hd w;rw[TW];exact haf
   ·rename_i r name hg;simp only[aaC]at UN;obtain⟨r',hr',he⟩:=UN;cases he;have hrv:=hρ r (by simp[hop,Op.operands,Call.operands,hg]) _ hr';have hf:VR m (ρ (.c (.func (.method name) [] []))) (.func (.method name) #[] #[]):=by
     rw[hcst,VR];exact⟨_,[],[],rfl,rfl,rfl,rfl⟩
    obtain⟨d,hd,haf⟩:=Tq m w _ (a.eval r:: (c.args.map a.eval).toList) hr hf (aQ.2 ⟨_,_,rfl,hrv,hargs⟩);refine rB (m:=m) (h:=h) (w:=w) (v:=v) (h':=h') ?_ hn;simp only[execOp,hop,resolve,hg,aaA];have TW:=hd w;have:(#[]++(⟨a.eval r:: (c.args.map a.eval).toList⟩:Array Value))=#[a.eval r]++c.args.map a.eval:=by
     apply acU;simp
    simp only[Deferred.ofValue,this]at TW;cases TW;exact haf
   ·rename_i b hb;exfalso;unfold pq at UN
    repeat' split at UN
    all_goals first|(cases UN;done)|(simp only[abk]at UN;obtain⟨z,_,hz⟩:=UN;split at hz<;>cases hz)
  |makeMap t r=>cases r<;>simp[eF,hop]at hc
  |next x b=>
   cases b
   ·simp[eF,hop]at hc
   ·simp[eF,hop,aaC]at hc
  |slice t x lo hi mx=>
   cases mx with
   |some _=>simp[eF,hop]at hc
   |none=>
    exfalso;simp only[eF,hop]at hc
    repeat' split at hc
    all_goals first
     |(cases hc;done)
     |(simp[aaC]at hc;done)
  |_=>
   exfalso;simp only[eF,hop]at hc
   repeat' split at hc
   all_goals first
    |(cases hc;done)
    |(simp[aaC,abk]at hc;done)
    |(unfold JT at hc;repeat' split at hc;all_goals first|(cases hc;done)|(simp[aaC]at hc;done))
 ·have Tq:nA k ρ h v h':=by
   cases k<;>first|exact hs|exact absurd ⟨_,_,rfl⟩ VK
  obtain⟨cv,w',m',he,h1,h2,h3⟩:=yx (w:=w) hc hρ hcst hr Tq;rcases he with he|⟨he,rfl⟩
  ·rw[he];exact hn cv m' w' h1 h2 h3
  ·rw[he];exact hn undef m' w' h1 h2 h3
def GV(P:Program)(m:cw):Prop:=∀g,g<P.globals.size->∃e,m g=some e/\e.cb=g/\e.d=0
def HR.gv(hr:HR P m h w):GV P m:=λg hg=>by obtain⟨e,h1,h2,h3,_⟩:=hr.fS g hg;exact⟨e,h1,h2,h3⟩
def Am(hg:GV P m){ts:TS}{a:Act}{x:Operand}{x':cZ}(hx:cW x=some x')(hok:OR P x=true)(ht:∀t,x=.tmp t->VR m (ts.getD t az) (a.tmps.getD t undef)):VR m (val ts x') (a.eval x):=by
 cases x with
 |tmp t=>cases hx;exact ht t rfl
 |const c=>
  simp only[cW,aaC]at hx;obtain⟨y,hy,rfl⟩:=hx;exact rn m 4 _ _ hy
 |global g=>
  cases hx;simp only[OR,aaX]at hok;obtain⟨e,he,hcb,hd⟩:=hg g hok;exact⟨e,he,by rw[hcb,hd];rfl⟩
 |func f=>cases hx;exact⟨.func f,[],[],rfl,rfl,rfl,rfl⟩
def om{ts:TS}{vs:Array Value}(h:cL m ts vs.toList)(t:Nat):VR m (ts.getD t az) (vs.getD t undef):=by
 have hl:=h.length;by_cases ht:t<ts.length
 ·have hx:ts[t]? =some ts[t]:=aai ht;obtain⟨y,hy,hr⟩:=h.get hx;have e1:ts.getD t az=ts[t]:=by simp[List.getD,hx]
  have e2:vs.getD t undef=y:=by
   simp only[abI]at hy;simp[aa3,hy]
  rw[e1,e2];exact hr
 ·have e1:ts.getD t az=az:=by simp[List.getD,abZ (by omega:ts.length<=t)]
  have e2:vs.getD t undef=undef:=by
   have:vs.size<=t:=by simp at hl;omega
   simp[aa3,abS this]
  rw[e1,e2];exact kv m
def FD{ts:TS}{a:Act}(h:cL m ts a.tmps.toList){x:AV}{cv:Value}(hx:VR m x cv)(d:Option Nat):cL m (put ts d x) (a.put d cv).tmps.toList:=by
 cases d with
 |none=>exact h
 |some d=>simp only[put,Act.put,Array.toList_setIfInBounds];exact h.set d hx
def put_defers(a:Act)(d:Option Nat)(cv:Value):(a.put d cv).defers=a.defers:=by cases d<;>rfl
def rA{ts:TS}{a:Act}{ops:Array Oper}{o:Oper}{g:Option (Nat×Bool)}(hg:vi ops o.guard=some g)
  (ht:∀t b,g=some (t,b)->(t<ts.length↔t<a.tmps.size)/\VR m (ts.getD t az) (a.tmps.getD t undef)):Region.wanted o (yielded ops a.tmps)=true↔wanted g ts:=by
 unfold vi at hg;unfold Region.wanted wanted;cases Xf:o.guard with
 |none=>rw[Xf]at hg;cases hg;simp
 |some p=>
  obtain⟨j,b⟩:=p;rw[Xf]at hg;simp only[aaC]at hg;obtain⟨d,hd,rfl⟩:=hg;simp only[yielded,hd,Option.bind_some,beq_iff_eq];obtain⟨hlt,Ts⟩:=ht d b rfl;by_cases hdl:d<ts.length
  ·have Xh:=hlt.1 hdl;have e1:ts.getD d az=ts[d]:=by simp[List.getD,aai hdl]
   have e2:a.tmps.getD d undef=a.tmps[d]:=by simp[aa3,aa6 Xh]
   rw[e1,e2]at Ts;rw[aa6 Xh,aai hdl];generalize a.tmps[d]=cv at Ts;generalize ts[d]=av at Ts;cases av with
   |bool t=>rw[VR]at Ts;subst Ts;simp
   |int k n=>rw[VR]at Ts;subst Ts;simp
   |yl k n=>rw[VR]at Ts;obtain⟨_,rfl,_⟩:=Ts;simp
   |ya k x y=>rw[VR]at Ts;obtain⟨_,_,rfl,_⟩:=Ts;simp
   |str s=>rw[VR]at Ts;subst Ts;simp
   |ptr b o=>rw[VR]at Ts;obtain⟨_,_,rfl⟩:=Ts;simp
   |nilPtr=>rw[VR]at Ts;subst Ts;simp
   |slice b o n e=>rw[VR]at Ts;obtain⟨_,_,_,_,rfl,_⟩:=Ts;simp
   |af=>rw[VR]at Ts;subst Ts;simp
   |map r=>rw[VR]at Ts;obtain⟨_,_,rfl⟩:=Ts;simp
   |dq=>rw[VR]at Ts;subst Ts;simp
   |func f x y=>rw[VR]at Ts;obtain⟨_,_,_,rfl,_⟩:=Ts;simp
   |nilFunc=>rw[VR]at Ts;subst Ts;simp
   |agg l=>rw[VR]at Ts;obtain⟨_,rfl,_⟩:=Ts;simp
   |dQ l=>rw[VR]at Ts;obtain⟨_,rfl,_⟩:=Ts;simp
   |vU u l=>rw[VR]at Ts;obtain⟨_,rfl,_⟩:=Ts;simp
   |k8=>rw[VR]at Ts;subst Ts;simp
  ·have Xh:¬d<a.tmps.size:=λx=>hdl (hlt.2 x)
   rw[abS Om,abZ Om];simp
inductive dI (P:Program) (o:bO) (ts:TS) (h:ah):TS->ah->Prop
 |run {v:AV}{h':ah}(hw:wanted o.gd ts) (hb:Ai o.dst o.k ts.length) (hs:qo P o.k (val ts) h v h'):dI P o ts h (put ts o.dst v) h'
 |skip (hw:¬wanted o.gd ts):dI P o ts h (put ts o.dst az) h
def zo(P:Program):List bO->TS->ah->TS->ah->Prop
 |[],ts,h,ts',h'=>ts' =ts/\h' =h
 |o::r,ts,h,ts',h'=>∃U1 h1,dI P o ts h U1 h1/\(o.q=true->∃g,h1=h++g)/\zo P r U1 h1 ts' h'
structure St(P:Program)(m:cw)(ts:TS)(h:ah)(a:Act)(w:World):Prop where
 hr:HR P m h w
 ts:cL m ts a.tmps.toList
def pA{ρ}:¬qo P .bad ρ h v h':=λhs=>by
 have Tq:dE .bad ρ h=some (v,h'):=hs;simp[dE]at Tq
def fH{ops:Array Oper}{i:Nat}{o:Oper}(ho:ops[i]? =some o){q:Bool}{io:bO}(hc:bW P ops q o=some io){ts ts':TS}{a:Act}
  (hg:GV P m) (hr:HR P m h w) (hlen:a.tmps.size=ts.length)
  (ht:∀t,t∈o.looksAt ops->VR m (ts.getD t az) (a.tmps.getD t undef)) (hs:dI P io ts h ts' h') (ro:Option Nat) (K:Act->World->Prop) (Q:Exit->Act->World->Prop)
  (hn:∀cv v m' w',ts' =put ts o.dst v->VR m' v cv->HR P m' h' w'->Grow m h w m' h' w'->K (a.put o.dst cv) w'):wpOpIn (Fd ro) 0 P ops Q i K a w:=by
 unfold bW at hc;split at hc
 case h_2=>cases hc
 rename_i g Xf;cases hc;have hw:=rA (m:=m) (ts:=ts) (a:=a) Xf (λt b Wv=>⟨Om,ht t (by
  unfold Oper.looksAt;refine List.mem_append_right _ ?_;unfold vi at Xf;cases hog:o.guard with
  |none=>rw[hog]at Xf;cases Xf;cases Wv
  |some p=>
   obtain⟨j,b'⟩:=p;rw[hog]at Xf;simp only[aaC]at Xf;obtain⟨d,hd,rfl⟩:=Xf;cases Wv;simp[hd])⟩)
 unfold wpOpIn;rw[ho];cases hs with
 |run hwa hb hs=>
  clear hb;simp only;rw[aas (hw.2 hwa)];simp only at hs;split at hs
  case isFalse=>exact absurd hs pA
  rename_i hgok;cases hk:eF P o with
  |none=>rw[hk]at hs;exact absurd hs pA
  |some k=>
   rw[hk]at hs;refine wM hk (λx hx x' Tu=>?_) (λz=>rfl) hr hs ro K Q (λcv m' w' h1 h2 h3=>hn cv _ m' w' rfl h1 h2 h3);exact Se
 |skip hwa=>
  simp only;rw[aao (λx=>hwa (hw.1 x))];exact⟨λ_ _=>trivial,hn undef _ m w rfl (kv m) hr (Grow.refl m h w hr.cM)⟩
theorem gF{α β:Type}{f:Nat->α->Option β}:∀{l:List α}{i:Nat}{r:List β},eU f l i=some r->r.length=l.length/\∀(j:Nat) (x:α),l[j]? =some x->∃y,r[j]? =some y/\f (i+j) x=some y
 |[],i,r,h=>by cases h;exact⟨rfl,λj x hx=>by simp at hx⟩
 |x::xs,i,r,h=>by
  unfold eU at h;split at h
  case h_2=>cases h
  rename_i y ys hy hys;cases h;obtain⟨h1,h2⟩:=gF hys;refine⟨by simp[h1],λj z hz=>?_⟩;cases j with
  |zero=>simp at hz;subst hz;exact⟨y,Si,hy⟩
  |succ j=>
   simp at hz;obtain⟨u,hu,hf⟩:=h2 j z hz;exact⟨u,by simpa using hu,by rw[show i+(j+1)=i+1+j from by omega];exact hf⟩
structure Row(P:Program)(l:List bO)(T:Nat->TS)(H:Nat->ah):Prop where
 step:∀i o,l[i]? =some o->dI P o (T i) (H i) (T (i+1)) (H (i+1))/\(o.q=true->∃g,H (i+1)=H i++g)
theorem zo.row:∀{l}{ts ts'}{h h'},zo P l ts h ts' h'->∃T H,T 0=ts/\H 0=h/\T l.length=ts'/\H l.length=h'/\Row P l T H
 |[],ts,ts',h,h',hs=>by
  obtain⟨rfl,rfl⟩:=hs;exact⟨λ_=>ts',λ_=>h',rfl,rfl,rfl,rfl,⟨λi o ho=>by simp at ho⟩⟩
 |o::r,ts,ts',h,h',hs=>by
  obtain⟨U1,h1,bN,hq,hr⟩:=hs;obtain⟨T,H,hT,hH,UQ,hH',hrow⟩:=hr.row;refine⟨λi=>match i with| 0=>ts|i+1=>T i,λi=>match i with| 0=>h|i+1=>H i,rfl,rfl,UQ,hH',⟨λi x hx=>?_⟩⟩;cases i with
  |zero=>
   simp at hx;subst hx;show dI P o ts h (T 0) (H 0)/\_;rw[hT,hH];exact⟨bN,λq=>by show ∃g,H 0=h++g;rw[hH];exact hq q⟩
  |succ i=>exact hrow.step i x (by simpa using hx)
def nL(ts:TS)(d:Option Nat)(v:AV):(put ts d v).length=ts.length:=by cases d<;>simp[put]
theorem dI.put{o ts ts'}(hs:dI P o ts h ts' h'):∃v,ts' =put ts o.dst v:=by
 cases hs with
 |run=>exact⟨_,rfl⟩
 |skip=>exact⟨_,rfl⟩
def dC{ops q o io}(hc:bW P ops q o=some io):io.dst=o.dst/\io.q=q:=by
 unfold bW at hc;split at hc
 ·cases hc;exact⟨rfl,rfl⟩
 ·cases hc
def yQ{ops:Array Oper}{l:List bO}(hc:cP P ops false=some l){ts ts':TS}{h h':ah}(hs:zo P l ts h ts' h'){m:cw}{a:Act}{w:World}(st:St P m ts h a w)(ro:Option Nat)
  (Q:Exit->Act->World->Prop) (hQ:∀m' a' w',St P m' ts' h' a' w'->Grow m h w m' h' w'->a'.defers=a.defers->Q .normal a' w') (id:Nat):(Code.region id ops false).wpIn (Fd ro) 0 P Q a w:=by
 refine wpIn_region ?_;obtain⟨T,H,rfl,rfl,rfl,rfl,hrow⟩:=hs.row;obtain⟨hlen,Ty⟩:=gF (show eU (λ_ o=>bW P ops false o) ops.toList 0=some l from hc);simp only[acw]at hlen;have key:∀(k j:Nat),j+k=ops.size->∀(m1:cw) (a1:Act) (w1:World),St P m1 (T j) (H j) a1 w1->Grow m (H 0) w m1 (H j) w1->a1.defers=a.defers->
   wpOpsIn (Fd ro) 0 P ops Q (List.range' j k) a1 w1:=by
  intro k
  induction k with
  |zero=>
   intro j hj m1 a1 w1 s1 g1 hd;have:j=l.length:=Om
   subst this;exact hQ m1 a1 w1 s1 g1 hd
  |succ k ih=>
   intro j hj m1 a1 w1 s1 g1 hd;rw[List.range'_succ,wpOpsIn_cons];have Z7:j<ops.size:=Om
   have ho:ops[j]? =some ops[j]:=aa6 Z7;obtain⟨io,hio,TC⟩:=Ty j ops[j] Si;obtain⟨bN,_⟩:=hrow.step j io hio;refine fH ho TC s1.hr.gv s1.hr (by simpa using s1.ts.length) (λt _=>om s1.ts t) bN ro _ Q ?_;intro cv v m' w' Tp h1 h2 h3;have hle:=h3.le s1.hr.cM;exact ih (j+1) Om m' _ w' ⟨h2,by rw[Tp];exact FD (cL.mono hle _ _ s1.ts) h1 _⟩ (g1.trans h3 st.hr.cM) (by rw[put_defers];exact hd)
 have:=key ops.size 0 Om m a w st (Grow.refl m _ w st.hr.cM) rfl
 rwa [<-List.range_eq_range']at this
end
end Go.Abs
