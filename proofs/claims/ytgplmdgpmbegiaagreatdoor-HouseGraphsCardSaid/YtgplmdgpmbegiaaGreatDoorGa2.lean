/- A part of the proof that HouseGraphs holds. No condition. -/
import Derived.Shelf.Strings.Builder1
import Derived.Shelf.Strings.Builder2
import Derived.Shelf.Strings.OnBuilder
import Derived.Test.YtgplmdgpmbegiaaGreatDoorProg
import Derived.Shelf.Strings.Repeat
import Derived.Tactics
import Derived.OrdersIn
import Derived.RangeFuncLeaves
import Derived.RangeFuncIn
import Derived.RangeFuncOwn
import Derived.Laws.Sem
import Derived.Laws.World
import Derived.Laws.Cells
import Derived.Laws.Entries
import Derived.Below
import Derived.MapKept
import Derived.Laws.Tables
import Derived.Laws.StructEq
import Derived.Test.YtgplmdgpmbegiaaGreatDoorGa0
set_option linter.all false
namespace Go.Proofs
open Go.Shelf
def Tryz.pZ:Go.Shelf.Ren:=⟨λ| 156=>114| 165=>210| 166=>211| 169=>212| 240=>257| 241=>258| 276=>282| 277=>283|n=>n,λ| 31=>28| 9=>9| 3=>3| 4=>4| 0=>0| 20=>20| 72=>271| 76=>275| 70=>269| 37=>119| 75=>274| 127=>308| 164=>332| 5=>5| 80=>97|n=>n,λn=>n⟩
def Tryz.yN:Go.Proofs.Lays.n156 Tryz.prog Tryz.pZ:={
 mixed:=by kernel_rfl
 f156:=Tryz.func114.trans (congrArg some (by kernel_rfl))
 f165:=Tryz.func210.trans (congrArg some (by kernel_rfl))
 f166:=Tryz.func211.trans (congrArg some (by kernel_rfl))
 f169:=Tryz.func212.trans (congrArg some (by kernel_rfl))
 f240:=Tryz.func257.trans (congrArg some (by kernel_rfl))
 f241:=Tryz.func258.trans (congrArg some (by kernel_rfl))
 f276:=Tryz.func282.trans (congrArg some (by kernel_rfl))
 f277:=Tryz.func283.trans (congrArg some (by kernel_rfl))
 t0:=Tryz.underlying0
 a0:=Tryz.isAgg0
 z0:=Tryz.sizeOf0
 v0:=Tryz.zeroValue0
 t3:=Tryz.underlying3
 a3:=Tryz.isAgg3
 z3:=Tryz.sizeOf3
 v3:=Tryz.zeroValue3
 t4:=Tryz.underlying4
 a4:=Tryz.isAgg4
 z4:=Tryz.sizeOf4
 v4:=Tryz.zeroValue4
 t9:=Tryz.underlying9
 a9:=Tryz.isAgg9
 z9:=Tryz.sizeOf9
 v9:=Tryz.zeroValue9
 t20:=Tryz.underlying20
 a20:=Tryz.isAgg20
 z20:=Tryz.sizeOf20
 v20:=Tryz.zeroValue20
 t31:=Tryz.underlying28
 a31:=Tryz.isAgg28
 z31:=Tryz.sizeOf28
 v31:=Tryz.zeroValue28
 t37:=Tryz.underlying119
 a37:=Tryz.isAgg119
 z37:=Tryz.sizeOf119
 v37:=Tryz.zeroValue119
 t70:=Tryz.underlying269
 a70:=Tryz.isAgg269
 z70:=Tryz.sizeOf269
 v70:=Tryz.zeroValue269
 t72:=Tryz.underlying271
 a72:=Tryz.isAgg271
 z72:=Tryz.sizeOf271
 v72:=Tryz.zeroValue271
 t75:=Tryz.underlying274
 a75:=Tryz.isAgg274
 z75:=Tryz.sizeOf274
 v75:=Tryz.zeroValue274
 t76:=Tryz.underlying275
 a76:=Tryz.isAgg275
 z76:=Tryz.sizeOf275
 v76:=Tryz.zeroValue275
 t127:=Tryz.underlying308
 a127:=Tryz.isAgg308
 z127:=Tryz.sizeOf308
 v127:=Tryz.zeroValue308
 t164:=Tryz.underlying332
 a164:=Tryz.isAgg332
 z164:=Tryz.sizeOf332
 v164:=Tryz.zeroValue332}
def Tryz.jJ:Builder.Extra Tryz.prog Tryz.pZ:={
 sizeBuilder:=by kernel_rfl
 liesBuilder:=by kernel_rfl
 t5:=Tryz.underlying5
 a5:=Tryz.isAgg5
 z5:=Tryz.sizeOf5
 v5:=Tryz.zeroValue5
 infoByte:=by kernel_rfl
 cellsByte:=by kernel_rfl
 sizeByte:=by kernel_rfl
 neB5:=by decide}
open Go.RowKit in
theorem Tryz.strings_Join_none(a:Option Addr)(c:Nat)(sep:ByteArray)(w:World):
  Calls Tryz.prog 114 #[.slice a 0 c,.string sep] w λe w'=>e=.returned (.string ⟨#[]⟩)/\w' =w:=Any.strings_Join_none Tryz.yN Tryz.jJ a c sep w
open Go.RowKit in
theorem Tryz.strings_Join(bk o c:Nat)(xs:List ByteArray)(sep:ByteArray)(w:World)(hcells:∀(j:Nat) x,xs[j]? =some x->w.cell? ⟨bk,o+j,none⟩=some (.string x))(hbk:bk<w.heap.size)(hN:xs.length<=140737488355328)(hcap:xs.length<=c)(hlen:(Lib.join (xs.map (·.data.toList)) sep.data.toList).length<=140737488355328):
  Calls Tryz.prog 114 #[.slice (some ⟨bk,o,none⟩) xs.length c,.string sep] w λe w'=>e=.returned (.string ⟨(Lib.join (xs.map (·.data.toList)) sep.data.toList).toArray⟩)/\Below w.heap.size w w':=Any.strings_Join Tryz.yN Tryz.jJ bk o c xs sep w hcells hbk hN hcap hlen
end Go.Proofs
namespace Go.Proofs
open Go.Shelf
def Tryz.p6:Go.Shelf.Ren:=⟨λ| 105=>252| 212=>267| 99=>270| 165=>210| 166=>211| 170=>271| 169=>212| 263=>285| 264=>286| 206=>287| 240=>257| 241=>258| 276=>282| 277=>283|n=>n,λ| 9=>9| 3=>3| 4=>4| 20=>20| 0=>0| 46=>319| 109=>320| 5=>5| 72=>271| 76=>275| 51=>335| 146=>336| 53=>327| 148=>338| 70=>269| 37=>119| 75=>274| 127=>308| 164=>332| 80=>97|n=>n,λn=>n⟩
def Tryz.D3:Go.Proofs.Lays.n105 Tryz.prog Tryz.p6:={
 mixed:=by kernel_rfl
 f99:=Tryz.func270.trans (congrArg some (by kernel_rfl))
 f105:=Tryz.func252.trans (congrArg some (by kernel_rfl))
 f165:=Tryz.func210.trans (congrArg some (by kernel_rfl))
 f166:=Tryz.func211.trans (congrArg some (by kernel_rfl))
 f169:=Tryz.func212.trans (congrArg some (by kernel_rfl))
 f170:=Tryz.func271.trans (congrArg some (by kernel_rfl))
 f206:=Tryz.func287.trans (congrArg some (by kernel_rfl))
 f212:=Tryz.func267.trans (congrArg some (by kernel_rfl))
 f240:=Tryz.func257.trans (congrArg some (by kernel_rfl))
 f241:=Tryz.func258.trans (congrArg some (by kernel_rfl))
 f263:=Tryz.func285.trans (congrArg some (by kernel_rfl))
 f264:=Tryz.func286.trans (congrArg some (by kernel_rfl))
 f276:=Tryz.func282.trans (congrArg some (by kernel_rfl))
 f277:=Tryz.func283.trans (congrArg some (by kernel_rfl))
 t0:=Tryz.underlying0
 a0:=Tryz.isAgg0
 z0:=Tryz.sizeOf0
 v0:=Tryz.zeroValue0
 t3:=Tryz.underlying3
 a3:=Tryz.isAgg3
 z3:=Tryz.sizeOf3
 v3:=Tryz.zeroValue3
 t4:=Tryz.underlying4
 a4:=Tryz.isAgg4
 z4:=Tryz.sizeOf4
 v4:=Tryz.zeroValue4
 t5:=Tryz.underlying5
 a5:=Tryz.isAgg5
 z5:=Tryz.sizeOf5
 v5:=Tryz.zeroValue5
 t9:=Tryz.underlying9
 a9:=Tryz.isAgg9
 z9:=Tryz.sizeOf9
 v9:=Tryz.zeroValue9
 t20:=Tryz.underlying20
 a20:=Tryz.isAgg20
 z20:=Tryz.sizeOf20
 v20:=Tryz.zeroValue20
 t37:=Tryz.underlying119
 a37:=Tryz.isAgg119
 z37:=Tryz.sizeOf119
 v37:=Tryz.zeroValue119
 t46:=Tryz.underlying319
 a46:=Tryz.isAgg319
 z46:=Tryz.sizeOf319
 v46:=Tryz.zeroValue319
 t51:=Tryz.underlying335
 a51:=Tryz.isAgg335
 z51:=Tryz.sizeOf335
 v51:=Tryz.zeroValue335
 t53:=Tryz.underlying327
 a53:=Tryz.isAgg327
 z53:=Tryz.sizeOf327
 v53:=Tryz.zeroValue327
 t70:=Tryz.underlying269
 a70:=Tryz.isAgg269
 z70:=Tryz.sizeOf269
 v70:=Tryz.zeroValue269
 t72:=Tryz.underlying271
 a72:=Tryz.isAgg271
 z72:=Tryz.sizeOf271
 v72:=Tryz.zeroValue271
 t75:=Tryz.underlying274
 a75:=Tryz.isAgg274
 z75:=Tryz.sizeOf274
 v75:=Tryz.zeroValue274
 t76:=Tryz.underlying275
 a76:=Tryz.isAgg275
 z76:=Tryz.sizeOf275
 v76:=Tryz.zeroValue275
 t109:=Tryz.underlying320
 a109:=Tryz.isAgg320
 z109:=Tryz.sizeOf320
 v109:=Tryz.zeroValue320
 t127:=Tryz.underlying308
 a127:=Tryz.isAgg308
 z127:=Tryz.sizeOf308
 v127:=Tryz.zeroValue308
 t146:=Tryz.underlying336
 a146:=Tryz.isAgg336
 z146:=Tryz.sizeOf336
 v146:=Tryz.zeroValue336
 t148:=Tryz.underlying338
 a148:=Tryz.isAgg338
 z148:=Tryz.sizeOf338
 v148:=Tryz.zeroValue338
 t164:=Tryz.underlying332
 a164:=Tryz.isAgg332
 z164:=Tryz.sizeOf332
 v164:=Tryz.zeroValue332}
def Tryz.o7:Builder.Extra Tryz.prog Tryz.p6:={
 sizeBuilder:=by kernel_rfl
 liesBuilder:=by kernel_rfl
 t5:=Tryz.underlying5
 a5:=Tryz.isAgg5
 z5:=Tryz.sizeOf5
 v5:=Tryz.zeroValue5
 infoByte:=by kernel_rfl
 cellsByte:=by kernel_rfl
 sizeByte:=by kernel_rfl
 neB5:=by decide}
end Go.Proofs
namespace Go.Abs
inductive AV where
 |bool (b:Bool)
 |int (k:IntKind) (n:Int)
 |wG (k:FloatKind) (b:Nat)
 |wm (k:FloatKind) (re im:Nat)
 |str (s:By)
 |ptr (b o:Nat)
 |nilPtr
 |slice (b o n e:Nat)
 |af
 |map (r:Nat)
 |cY
 |func (f:Fn) (a c:List AV)
 |nilFunc
 |agg (l:List AV)
 |dN (l:List AV)
 |qn (u:TypeId) (v:AV)
 |km
 deriving Inhabited
def az:AV:=.dN []
def AV.cells:AV->List AV
 |.agg l=>l
 |v=>[v]
def AV.one:AV->Bool
 |.agg _=>false
 |.dN _=>false
 |.km=>false
 |_=>true
inductive c6 where
 |t (i:Nat)
 |c (v:AV)
 |g (i:Nat)
 |f (i:Nat)
 deriving Inhabited
inductive CK where
 |b
 |i
 |s
 deriving DecidableEq,Inhabited
inductive Pz where
 |one (k:CK)
 |agg (ks:List CK)
 |xM
 |xN
 |po
 |KN
 deriving Inhabited
inductive zj where
 |ub (k:IntKind)
 |Nc
 |IW
 |same
 |Od (k:FloatKind)
 |Oy (k:IntKind)
 |Oz (k:FloatKind)
 |qn (u:TypeId)
 deriving Inhabited
inductive LK where
 |sl
 |st
 |mp
 deriving DecidableEq,Inhabited
inductive o6 where
 |aI (x:c6)
 |pick (c a b:c6)
 |box (x:c6)
 |nw (n:Nat) (x:c6)
 |build (z:List AV) (ps:List (Nat×Nat×c6))
 |aF (es:Nat) (n:Nat) (z:List AV) (ps:List (Nat×c6))
 |load (n:Option Nat) (a:c6)
 |store (n:Nat) (a x:c6)
 |bz (x:c6)
 |bin (op:BinOp) (x y:c6)
 |eqv (neg:Bool) (t:Pz) (x y:c6)
 |un (op:UnOp) (x:c6)
 |conv (k:zj) (x:c6)
 |kY (f:Fn) (a c:List c6)
 |lF
 |si (es w:Nat) (z:List AV) (l c:c6)
 |sl (es:Nat) (x:c6) (lo hi:Option c6)
 |pO (x:c6) (lo hi:Option c6)
 |Mx (n es:Nat) (x:c6) (lo hi:Option c6)
 |aR (off:Nat) (x:c6)
 |bf (es:Nat) (x i:c6)
 |iX (len es:Nat) (x i:c6)
 |part (n:Option Nat) (off:Nat) (x:c6)
 |IU (len es:Nat) (n:Option Nat) (x i:c6)
 |qm (x i:c6)
 |look (kk:CK) (z:AV) (ok:Bool) (m k:c6)
 |fu (kk:CK) (m k x:c6)
 |wX (x:c6)
 |nV (x:c6)
 |ext (x:c6) (i:Nat)
 |call (f:c6) (args:List c6)
 |len (lk:LK) (x:c6)
 |zM (n:Nat)
 |app (es w:Nat) (x y:c6)
 |wI (es:Nat) (x y:c6)
 |mx (x:c6) (l:List c6)
 |mn (x:c6) (l:List c6)
 |bad
 deriving Inhabited
structure bI where
 dst:Option Nat
 k:o6
 gd:Option (Nat×Bool)
 q:Bool
 deriving Inhabited
def yT(d:Option Nat)(k:o6)(n:Nat):Prop:=
 match k,d with
 |.nw _ _,some d=>d<n
 |_,_=>True
inductive ai where
 |skip
 |ops (l:List bI)
 |sf (l:List bI)
 |lD (l:List bI)
 |seq (a b:ai)
 |cond (c:c6) (a b:ai)
 |block (id:Nat) (a:ai)
 |loop (a:ai)
 |exit (id:Nat)
 |ret
 |eQ (g:c6) (ps:List Nat) (asg body:ai)
 |bad
 deriving Inhabited
inductive Ex where
 |normal
 |exit (id:Nat)
 |ret
 deriving DecidableEq,Inhabited
def Ex.Cy:Ex->Exit
 |.normal=>.normal
 |.exit id=>.exit id
 |.ret=>.ret
def Ex.jump:Ex->Option Code
 |.normal=>none
 |.exit id=>some (.exit id)
 |.ret=>some .ret
inductive ak where
 |cells (c:List AV) (mu tl:Bool)
 |dead
 |bo (es:List (AV×AV))
 |iter (s:By) (pos:Nat)
 |loop (st:LoopState) (ex:Ex) (ts:List AV) (ps:List Nat) (asg body:ai)
 deriving Inhabited
abbrev ah:=List ak
abbrev TS:=List AV
structure sK where
 cb:Nat
 d:Nat
 sz:Nat
 own:Bool
abbrev cp:=Nat->Option sK
def cp.le(m m':cp):Prop:=∀b e,m b=some e->m' b=some e
def cp.le_trans{a b c:cp}(h:a.le b)(k:b.le c):a.le c:=λx e hx=>k x e (h x e hx)
def DY(k:FloatKind)(b:Nat):Bool:=(k.format.order b b).isNone
def FR(k:FloatKind)(b b':Nat):Prop:=b' =b\/(DY k b=true/\DY k b' =true)
def AF(m:cp):Fn->Fn->Prop
 |.yield l,g=>∃e,m l=some e/\g=.yield e.cb
 |f,g=>g=f
mutual
def VR(m:cp):AV->Value->Prop
 |.bool b,v=>v=.bool b
 |.int k n,v=>v=.int k n
 |.wG k b,v=>∃b',v=.float k b'/\FR k b b'
 |.wm k x y,v=>∃x' y',v=.complex k x' y'/\FR k x x'/\FR k y y'
 |.str s,v=>v=.string ⟨⟨s⟩⟩
 |.ptr b o,v=>∃e,m b=some e/\v=.pointer (some ⟨e.cb,o+e.d,none⟩)
 |.nilPtr,v=>v=.pointer none
 |.slice b o n es,v=>∃e ca cap,m b=some e/\v=.slice (some ca) n cap/\n<=cap/\(0<cap->ca=⟨e.cb,o+e.d,none⟩)/\o+e.d+cap*es<=e.sz
 |.af,v=>v=.slice none 0 0
 |.map r,v=>∃e,m r=some e/\v=.map (some e.cb)
 |.cY,v=>v=.map none
 |.func f a c,v=>∃f' a' c',v=.func f' ⟨a'⟩ ⟨c'⟩/\AF m f f'/\cL m a a'/\cL m c c'
 |.nilFunc,v=>v=.nilFunc
 |.agg l,v=>∃l',v=.agg ⟨l'⟩/\cL m l l'
 |.dN l,v=>∃l',v=.tuple ⟨l'⟩/\cL m l l'
 |.qn u a,v=>∃v',v=.iface u v'/\VR m a v'
 |.km,v=>v=.nilIface
def cL(m:cp):List AV->List Value->Prop
 |[],vs=>vs=[]
 |x::xs,vs=>∃y ys,vs=y::ys/\VR m x y/\cL m xs ys
end
def AF.mono{m m'}(h:m.le m'):∀{f g},AF m f g->AF m' f g:=by
 intro f g hf;cases f<;>simp only[AF]at hf ⊢<;>try exact hf
 obtain⟨e,he,hg⟩:=hf;exact⟨e,h _ _ he,hg⟩
mutual
theorem VR.mono{m m'}(h:m.le m'):∀(a:AV) (v:Value),VR m a v->VR m' a v
 |.bool _,v,hv=>hv
 |.int _ _,v,hv=>hv
 |.wG _ _,v,hv=>hv
 |.wm _ _ _,v,hv=>hv
 |.str _,v,hv=>hv
 |.ptr b o,v,hv=>by
  obtain⟨e,he,hv⟩:=(show ∃e,m b=some e/\v=.pointer (some ⟨e.cb,o+e.d,none⟩)from hv);exact⟨e,h _ _ he,hv⟩
 |.nilPtr,v,hv=>hv
 |.slice b o n es,v,hv=>by
  obtain⟨e,ca,cap,he,hr⟩:=(show ∃e ca cap,m b=some e/\v=.slice (some ca) n cap/\n<=cap/\(0<cap->ca=⟨e.cb,o+e.d,none⟩)/\o+e.d+cap*es<=e.sz from hv);exact⟨e,ca,cap,h _ _ he,hr⟩
 |.af,v,hv=>hv
 |.map r,v,hv=>by
  obtain⟨e,he,hv⟩:=(show ∃e,m r=some e/\v=.map (some e.cb)from hv);exact⟨e,h _ _ he,hv⟩
 |.cY,v,hv=>hv
 |.func f a c,v,hv=>by
  obtain⟨f',a',c',hv,hf,ha,hc⟩:=(show ∃f' a' c',v=.func f' ⟨a'⟩ ⟨c'⟩/\AF m f f'/\cL m a a'/\cL m c c' from hv);exact⟨f',a',c',hv,hf.mono h,cL.mono h a a' ha,cL.mono h c c' hc⟩
 |.nilFunc,v,hv=>hv
 |.agg l,v,hv=>by
  obtain⟨l',hv,hl⟩:=(show ∃l',v=.agg ⟨l'⟩/\cL m l l' from hv);exact⟨l',hv,cL.mono h l l' hl⟩
 |.dN l,v,hv=>by
  obtain⟨l',hv,hl⟩:=(show ∃l',v=.tuple ⟨l'⟩/\cL m l l' from hv);exact⟨l',hv,cL.mono h l l' hl⟩
 |.qn u a,v,hv=>by
  obtain⟨v',hv,ha⟩:=(show ∃v',v=.iface u v'/\VR m a v' from hv);exact⟨v',hv,VR.mono h a v' ha⟩
 |.km,v,hv=>hv
theorem cL.mono{m m'}(h:m.le m'):∀(l:List AV) (vs:List Value),cL m l vs->cL m' l vs
 |[],_,hv=>hv
 |x::xs,vs,hv=>by
  obtain⟨y,ys,hv,hx,To⟩:=(show ∃y ys,vs=y::ys/\VR m x y/\cL m xs ys from hv);exact⟨y,ys,hv,VR.mono h x y hx,cL.mono h xs ys To⟩
end
def bD{m vs}:cL m [] vs↔vs=[]:=Iff.rfl
def aS{m x xs vs}:cL m (x::xs) vs↔∃y ys,vs=y::ys/\VR m x y/\cL m xs ys:=Iff.rfl
theorem cL.length{m}:∀{l}{vs},cL m l vs->vs.length=l.length
 |[],_,h=>by rw[bD]at h;simp[h]
 |x::xs,vs,h=>by
  obtain⟨y,ys,rfl,_,To⟩:=aS.1 h;simp[cL.length To]
theorem cL.get{m:cp}:∀{l:List AV}{vs:List Value},cL m l vs->∀{i:Nat}{x:AV},l[i]? =some x->∃y,vs[i]? =some y/\VR m x y
 |[],_,_,i,x,h=>by simp at h
 |z::zs,vs,h,i,x,hx=>by
  obtain⟨y,ys,rfl,hy,hys⟩:=aS.1 h;cases i with
  |zero=>simp at hx;subst hx;exact⟨y,Si,hy⟩
  |succ i=>simp at hx;simpa using cL.get hys hx
theorem cL.gZ{m}:∀{l}{vs},vs.length=l.length->(∀(i:Nat) (x:AV),l[i]? =some x->∃y,vs[i]? =some y/\VR m x y)->cL m l vs
 |[],vs,hl,_=>by rw[bD];exact YW.1 (by simpa using hl)
 |x::xs,[],hl,_=>by simp at hl
 |x::xs,v::vs,hl,h=>by
  refine aS.2 ⟨v,vs,rfl,?_,cL.gZ (by simpa using hl) λi z hz=>?_⟩
  ·obtain⟨y,hy,hr⟩:=h 0 x Si;simp at hy;subst hy;exact hr
  ·obtain⟨y,hy,hr⟩:=h (i+1) z (by simpa using hz);exact⟨y,by simpa using hy,hr⟩
theorem cL.append{m}:∀{a b}{va vb},cL m a va->cL m b vb->cL m (a++b) (va++vb)
 |[],b,va,vb,ha,hb=>by rw[bD]at ha;subst ha;simpa using hb
 |x::xs,b,va,vb,ha,hb=>by
  obtain⟨y,ys,rfl,hy,hys⟩:=aS.1 ha;exact aS.2 ⟨y,ys++vb,Si,hy,cL.append hys hb⟩
theorem cL.set{m:cp}{l:List AV}{vs:List Value}(h:cL m l vs)(i:Nat){x:AV}{v:Value}(hx:VR m x v):cL m (l.set i x) (vs.set i v):=by
 refine cL.gZ (by simp[h.length]) λj z hz=>?_
 rw[List.getElem?_set]at hz ⊢;by_cases hij:i=j
 ·simp only[hij,Yf]at hz ⊢;split at hz
  ·simp only[Yq]at hz;subst hz;rename_i hlt;exact⟨v,by simp[h.length,hlt],hx⟩
  ·simp at hz
 ·simp only[hij,Yb]at hz ⊢;exact h.get hz
theorem cL.take{m}:∀{l}{vs}(n:Nat),cL m l vs->cL m (l.take n) (vs.take n)
 |[],vs,n,h=>by rw[bD]at h;subst h;simp[bD]
 |x::xs,vs,0,h=>by simp[bD]
 |x::xs,vs,n+1,h=>by
  obtain⟨y,ys,rfl,hy,hys⟩:=aS.1 h;exact aS.2 ⟨y,ys.take n,Si,hy,cL.take n hys⟩
theorem cL.drop{m}:∀{l}{vs}(n:Nat),cL m l vs->cL m (l.drop n) (vs.drop n)
 |[],vs,n,h=>by rw[bD]at h;subst h;simp[bD]
 |x::xs,vs,0,h=>by simpa using h
 |x::xs,vs,n+1,h=>by
  obtain⟨y,ys,rfl,hy,hys⟩:=aS.1 h
  simpa using cL.drop n hys
theorem VR.one{m x v}(h:VR m x v)(hx:x.one=true):v.cells=#[v]:=by
 exact P5
def VR.tS{m x v}(h:VR m x v)(hx:x.one=true):v.oneCell' =true:=by
 exact P5
theorem VR.cells{m x v}(h:VR m x v):cL m x.cells v.cells.toList:=by
 by_cases hx:x.one=true
 ·have hc:x.cells=[x]:=by cases x<;>first|rfl|cases hx
  rw[h.one hx,hc];exact aS.2 ⟨v,[],rfl,h,bD.2 rfl⟩
 ·cases x with
  |agg l=>rw[VR]at h;obtain⟨l',rfl,hl⟩:=h;exact hl
  |dN l=>exact aS.2 ⟨v,[],by rw[VR]at h;obtain⟨l',rfl,hl⟩:=h;rfl,h,bD.2 rfl⟩
  |km=>exact aS.2 ⟨v,[],by rw[VR]at h;subst h;rfl,h,bD.2 rfl⟩
  |_=>exact absurd rfl hx
def val(ts:TS):c6->AV
 |.t i=>ts.getD i az
 |.c v=>v
 |.g i=>.ptr i 0
 |.f i=>.func (.func i) [] []
def put(ts:TS)(d:Option Nat)(v:AV):TS:=
 match d with
 |some d=>ts.set d v
 |none=>ts
def wanted(g:Option (Nat×Bool))(ts:TS):Prop:=
 match g with
 |none=>True
 |some (t,b)=>ts[t]? =some (.bool b)
def eD(h:ah)(b:Nat):Bool:=
 match h[b]? with
 |some (.cells _ _ tl)=>tl
 |_=>false
def mE:Nat->Value->Option AV
 | 0,_=>none
 |n+1,v=>
  match v with
  |.bool b=>some (.bool b)
  |.int k i=>some (.int k i)
  |.float k b=>some (.wG k b)
  |.complex k x y=>some (.wm k x y)
  |.string s=>some (.str s.data.toList)
  |.pointer none=>some .nilPtr
  |.slice none 0 0=>some .af
  |.map none=>some .cY
  |.nilFunc=>some .nilFunc
  |.agg cs=>(cs.toList.mapM (mE n)).map .agg
  |.tuple cs=>(cs.toList.mapM (mE n)).map .dN
  |_=>none
def cX:Operand->Option c6
 |.tmp t=>some (.t t)
 |.const v=>(mE 4 v).map .c
 |.global g=>some (.g g)
 |.func f=>some (.f f)
def DT:Operand->Option c6
 |.global _=>none
 |x=>cX x
def yH(l:Array Operand):Option (List c6):=l.toList.mapM cX
def vj:Option Operand->Option (Option c6)
 |none=>some none
 |some x=>(cX x).map some
def jM:TypeDesc->Bool
 |.struct _=>true
 |.array _ _=>true
 |_=>false
def AL(P:Program)(t:TypeId):Option (Option Nat):=
 match P.underlying t with
 |some d=>if jM d then(P.info? t).map λi=>some i.size else some none
 |none=>none
def dW(P:Program)(t:TypeId):Option Nat:=(P.info? t).map (·.size)
def jy(P:Program)(t:TypeId):Option AV:=(P.info? t).bind λi=>i.zero.bind (mE 4)
def wb(P:Program)(F:TypeId->Option (List CK)):List Field->Nat->Option (List CK)
 |[],_=>some []
 |f::fs,off=>
  match F f.type,P.info? f.type with
  |some ks,some i=>
   if f.name≠ "_"/\f.offset=off/\i.size=ks.length/\0<ks.length then
    match wb P F fs (off+ks.length)with
    |some r=>some (ks++r)
    |none=>none
   else none
  |_,_=>none
def flat(P:Program):Nat->TypeId->Option (List CK)
 | 0,_=>none
 |d+1,t=>
  match P.underlying t with
  |some .bool=>some [.b]
  |some (.int _)=>some [.i]
  |some .string=>some [.s]
  |some (.struct fs)=>if P.stoodInHeld t=false then wb P (flat P d) fs.toList 0 else none
  |some (.array len e)=>
   match flat P d e,P.info? e with
   |some ks,some i=>if i.size=ks.length/\0<ks.length then some (List.replicate len ks).flatten else none
   |_,_=>none
  |_=>none
def HO(P:Program)(neg:Bool)(t:TypeId)(x y:c6):Option o6:=
 match P.underlying t with
 |some (.int _)=>some (.bin (if neg then .neq else .eql) x y)
 |some .string=>some (.bin (if neg then .neq else .eql) x y)
 |some (.float _)=>some (.bin (if neg then .neq else .eql) x y)
 |some .bool=>some (.eqv neg (.one .b) x y)
 |some (.struct _)=>if P.eqGuardType P.depth t=false then(flat P 20 t).map λks=>.eqv neg (.agg ks) x y else none
 |some (.array _ _)=>if P.eqGuardType P.depth t=false then(flat P 20 t).map λks=>.eqv neg (.agg ks) x y else none
 |some (.slice _)=>some (.eqv neg .xM x y)
 |some (.pointer _)=>some (.eqv neg .xN x y)
 |some (.func _ _ _)=>some (.eqv neg .po x y)
 |some (.map _ _)=>some (.eqv neg .KN x y)
 |_=>none
def Ed(P:Program)(e:TypeId):Bool:=
 match P.underlying e with
 |some (.int .u8)=>true
 |_=>false
def Cw(P:Program)(s d:TypeId):Option zj:=
 match P.underlying s,P.underlying d with
 |some (.int _),some (.int k)=>some (.ub k)
 |some (.int _),some (.float k)=>some (.Od k)
 |some (.float _),some (.int k)=>some (.Oy k)
 |some (.float _),some (.float k)=>some (.Oz k)
 |some .string,some .string=>some .same
 |some .string,some (.slice e)=>if Ed P e=true then some .Nc else none
 |some (.slice e),some .string=>if Ed P e=true then some .IW else none
 |_,_=>none
def fieldAt(P:Program)(t:TypeId)(i:Nat):Option Field:=
 match P.underlying t with
 |some (.struct fs)=>fs[i]?
 |_=>none
def jB(P:Program)(t:TypeId)(i:Nat):Option (Nat×Nat):=
 match P.underlying t with
 |some (.struct fs)=>
  match fs.toList.mapM (λf=>(P.info? f.type).map λi=>(f.offset,i.size))with
  |some places=>places[i]?
  |none=>none
 |some (.array _ e)=>(P.info? e).map λie=>(i*ie.size,ie.size)
 |_=>none
def nT(P:Program)(t:TypeId):Bool:=
 match P.underlying t with
 |some (.struct fs)=>(fs.toList.mapM (λf=>(P.info? f.type).map λi=>(f.offset,i.size))).isSome
 |some (.array _ e)=>(P.info? e).isSome
 |_=>false
def my(P:Program)(t:TypeId):List (Nat×Operand)->Option (List (Nat×Nat×c6))
 |[]=>some []
 |(i,x)::r=>
  match jB P t i,cX x,my P t r with
  |some (off,n),some y,some r=>some ((off,n,y)::r)
  |_,_,_=>none
def dX(P:Program)(t:TypeId):Option (TypeId×TypeInfo):=
 match P.underlying t with
 |some (.slice e)=>(P.info? e).map λi=>(e,i)
 |_=>none
def oh(P:Program)(b:Builtin)(ts:Array TypeId)(args:List c6):Option o6:=
 match b,args with
 |.len,[x]=>
  match (ts[0]?).bind P.underlying with
  |some (.slice _)=>some (.len .sl x)
  |some .string=>some (.len .st x)
  |some (.map _ _)=>some (.len .mp x)
  |some (.array n _)=>some (.zM n)
  |_=>none
 |.append,[x,y]=>
  match (ts[0]?).bind (dX P),(ts[1]?).bind P.underlying with
  |some (_,i),some (.slice _)=>if 0<i.size/\0<i.bytes/\i.bytes<=2^20 then(i.zero.bind (mE 4)).bind λz=>if z.cells.length=i.size then some (.app i.size i.bytes x y)else none else none
  |some (_,i),some .string=>if 0<i.size/\0<i.bytes/\i.bytes<=2^20 then(i.zero.bind (mE 4)).bind λz=>if z.cells.length=i.size then some (.app i.size i.bytes x y)else none else none
  |_,_=>none
 |.copy,[x,y]=>
  match (ts[0]?).bind (dX P)with
  |some (_,i)=>if 0<i.size then some (.wI i.size x y)else none
  |_=>none
 |.max,x::l=>some (.mx x l)
 |.min,x::l=>some (.mn x l)
 |_,_=>none
def xO(P:Program)(t:TypeId):Option CK:=
 match P.underlying t with
 |some (.int _)=>some .i
 |some .string=>some .s
 |some .bool=>some .b
 |_=>none
def BW:Fn->Bool
 |.yield _=>false
 |_=>true
def ee(P:Program)(o:Oper):Option o6:=
 match o.op with
 |.move x=>(cX x).map .aI
 |.assign x=>(cX x).map .aI
 |.pick c a b=>
  match cX c,cX a,cX b with
  |some c,some a,some b=>some (.pick c a b)
  |_,_,_=>none
 |.alloc e=>
  match jy P e with
  |some z=>if z.cells.all AV.one then some (.box (.c z))else none
  |none=>none
 |.box _ x=>(cX x).map .box
 |.build t ps=>
  match jy P t,my P t ps.toList with
  |some z,some l=>if nT P t=true then some (.build z.cells l)else none
  |_,_=>none
 |.buildSlice t n ps=>
  match dX P t with
  |some (e,i)=>
   match jy P e,ps.toList.mapM λp=>(cX p.2).map λy=>(p.1*i.size,y)with
   |some z,some l=>if 0<i.size/\z.cells.length=i.size/\z.cells.all AV.one/\n*i.size<=2^24 then some (.aF i.size n z.cells l)else none
   |_,_=>none
  |none=>none
 |.load t a=>
  match AL P t,cX a with
  |some n,some a=>some (.load n a)
  |_,_=>none
 |.store t a x=>
  match dW P t,cX a,cX x with
  |some n,some a,some x=>some (.store n a x)
  |_,_,_=>none
 |.nilCheck x=>(cX x).map .bz
 |.binOp op t x y _=>
  match cX x,cX y with
  |some x,some y=>
   match op with
   |.eql=>HO P false t x y
   |.neq=>HO P true t x y
   |_=>some (.bin op x y)
  |_,_=>none
 |.unOp op _ x=>(cX x).map (.un op)
 |.convert s d x=>
  match Cw P s d,cX x with
  |some k,some x=>some (.conv k x)
  |_,_=>none
 |.makeInterface t x=>
  match P.underlying t,cX x with
  |some (.interface _),_=>none
  |some _,some x=>some (.conv (.qn t) x)
  |_,_=>none
 |.makeFunc fn a c=>
  if BW fn=true then
   match yH a,yH c with
   |some a,some c=>some (.kY fn a c)
   |_,_=>none
  else none
 |.makeMap _ none=>some .lF
 |.makeSlice t l c=>
  match dX P t,cX l,cX c with
  |some (e,i),some l,some c=>
   match jy P e with
   |some z=>if 0<i.size/\z.cells.length=i.size/\z.cells.all AV.one then some (.si i.size i.bytes z.cells l c)else none
   |none=>none
  |_,_,_=>none
 |.slice t x lo hi none=>
  match cX x,vj lo,vj hi with
  |some x,some lo,some hi=>
   match P.underlying t with
   |some .string=>some (.pO x lo hi)
   |some (.slice e)=>(dW P e).map λn=>.sl n x lo hi
   |some (.array k e)=>(dW P e).map λn=>.Mx k n x lo hi
   |_=>none
  |_,_,_=>none
 |.fieldAddr t x i=>
  match fieldAt P t i,cX x with
  |some f,some x=>
   match dW P f.type with
   |some n=>if 0<n then some (.aR f.offset x)else none
   |none=>none
  |_,_=>none
 |.indexAddr t x i=>
  match cX x,cX i with
  |some x,some i=>
   match P.underlying t with
   |some (.slice e)=>(dW P e).map λn=>.bf n x i
   |some (.array k e)=>(dW P e).map λn=>.iX k n x i
   |_=>none
  |_,_=>none
 |.field t x i=>
  match fieldAt P t i,cX x with
  |some f,some x=>(AL P f.type).map λn=>.part n f.offset x
  |_,_=>none
 |.index t x i=>
  match cX x,cX i with
  |some x,some i=>
   match P.underlying t with
   |some .string=>some (.qm x i)
   |some (.array k e)=>
    match dW P e,AL P e with
    |some n,some q=>some (.IU k n q x i)
    |_,_=>none
   |_=>none
  |_,_=>none
 |.lookup t m k ok=>
  match P.underlying t,cX m,cX k with
  |some (.map kt e),some m,some k=>
   match xO P kt,jy P e with
   |some kk,some z=>some (.look kk z ok m k)
   |_,_=>none
  |_,_,_=>none
 |.mapUpdate t m k x=>
  match P.underlying t,cX m,cX k,cX x with
  |some (.map kt _),some m,some k,some x=>(xO P kt).map λkk=>.fu kk m k x
  |_,_,_,_=>none
 |.insert t m k x=>
  match P.underlying t,cX m,cX k,cX x with
  |some (.map kt _),some m,some k,some x=>(xO P kt).map λkk=>.fu kk m k x
  |_,_,_,_=>none
 |.range t x=>
  match P.underlying t with
  |some .string=>(cX x).map .wX
  |_=>none
 |.next x true=>(cX x).map .nV
 |.extract x i=>(cX x).map λx=>.ext x i
 |.call c=>
  match yH c.args with
  |some l=>
   match c.callee with
   |.value f=>(cX f).map λf=>.call f l
   |.invoke r name=>(cX r).map λr=>.call (.c (.func (.method name) [] [])) (r::l)
   |.builtin b=>oh P b c.argTypes l
  |none=>none
 |_=>none
def uc(ops:Array Oper)(g:Option (Nat×Bool)):Option (Option (Nat×Bool)):=
 match g with
 |none=>some none
 |some (j,b)=>((ops[j]?).bind (·.dst)).map λd=>some (d,b)
def Mz(P:Program):Operand->Bool
 |.global g=>decide (g<P.globals.size)
 |_=>true
def bU(P:Program)(ops:Array Oper)(q:Bool)(o:Oper):Option bI:=
 match uc ops o.guard with
 |some g=>some {dst:=o.dst,k:=if o.op.operands.all (Mz P)then(ee P o).getD .bad else .bad,gd:=g,q:=q}
 |none=>none
def ahead(M:Array Nat)(i j:Nat):Bool:=(M.getD j 0).testBit i
def kv(M:Array Nat)(ops:Array Oper):Bool:=
 (List.range ops.size).all λj=>
  match ops[j]? with
  |none=>true
  |some o=>
   (o.after.toList.all λe=>!Region.binds .any e||decide (e.on<j)) &&
   ((List.range ops.size).all λi=>!ahead M i j||o.after.toList.any λe=>Region.binds .any e&&(e.on==i||ahead M i e.on))
def lX(M:Array Nat)(ops:Array Oper):Bool:=
 (List.range ops.size).all λj=>
  (List.range j).all λi=>
   match ops[i]?,ops[j]? with
   |some x,some y=>
    (match x.dst with
     |some d=>y.dst !=some d&&(!(y.looksAt ops).contains d||ahead M i j)
     |none=>true) &&
    (match y.dst with
     |some d=>!(x.looksAt ops).contains d||ahead M i j
     |none=>true)
   |_,_=>true
def gM(M:Array Nat)(n j:Nat):Bool:=
 (List.range n).all λi=>i==j||(if i<j then ahead M i j else ahead M j i)
def eO{α β:Type}(f:Nat->α->Option β):List α->Nat->Option (List β)
 |[],_=>some []
 |x::xs,i=>
  match f i x,eO f xs (i+1)with
  |some y,some ys=>some (y::ys)
  |_,_=>none
def xX:AV->Bool
 |.bool _=>true
 |.int _ _=>true
 |.wG _ _=>true
 |.wm _ _ _=>true
 |.str _=>true
 |.nilPtr=>true
 |.af=>true
 |.cY=>true
 |.nilFunc=>true
 |_=>false
def lU(o:bI):Option (Nat×Nat×c6):=
 match o.dst,o.k,o.gd,o.q with
 |none,.store n (.t t) x,none,true=>some (n,t,x)
 |_,_,_,_=>none
def tE(o:bI):Option (Nat×AV):=
 match o.dst,o.k,o.gd,o.q with
 |some t,.box (.c z),none,true=>some (t,z)
 |_,_,_,_=>none
def fE(ops:Array Oper)(j t:Nat):Bool:=
 match ops[j]? with
 |some o=>(o.looksAt ops).contains t
 |none=>false
def pn(ops:Array Oper)(l:List bI)(k s:Nat):Bool:=
 match (l[k]?).bind tE,(l[s]?).bind lU with
 |some (t,z),some (n,t',x)=>
  t==t'&&z.cells.length==n&&z.cells.all xX&&(match x with|.t u=>u !=t&&fE ops s u|_=>true)&&fE ops s t&&(List.range ops.size).all λj=>j==s || !fE ops j t
 |_,_=>false
def Ob(ops:Array Oper)(l:List bI)(s:Nat):Option Nat:=(List.range s).find? λk=>pn ops l k s
def Na(ops:Array Oper)(l:List bI)(k:Nat):Option Nat:=(List.range l.length).find? λs=>decide (k<s)&&pn ops l k s
def tw(ops:Array Oper)(l:List bI)(j:Nat)(o:bI):bI:=
 match lU o with
 |some (n,t,x)=>
  match Ob ops l j with
  |some _=>{dst:=some t,k:=.nw n x,gd:=none,q:=true}
  |none=>o
 |none=>
  match tE o with
  |some _=>
   match Na ops l j with
   |some _=>{dst:=none,k:=.aI (.c (.bool false)),gd:=none,q:=true}
   |none=>o
  |none=>o
def p9(ops:Array Oper)(l:List bI):Nat->List bI->List bI
 |_,[]=>[]
 |j,o::r=>tw ops l j o::p9 ops l (j+1) r
def cQ(P:Program)(ops:Array Oper)(draw:Bool):Option (List bI):=
 if draw then
  let M:=Region.before ops
  if kv M ops&&lX M ops then
   (eO (λi o=>bU P ops (!gM M ops.size i) o) ops.toList 0).map λl=>p9 ops l 0 l
  else none
 else eO (λ_ o=>bU P ops false o) ops.toList 0
def fA:o6->Bool
 |.aI _=>true
 |.pick _ _ _=>true
 |.bin _ _ _=>true
 |.eqv _ _ _ _=>true
 |.un _ _=>true
 |.conv (.ub _) _=>true
 |.aR _ _=>true
 |.iX _ _ _ _=>true
 |.bf _ _ _=>true
 |.part _ _ _=>true
 |.IU _ _ _ _ _=>true
 |.qm _ _=>true
 |.ext _ _=>true
 |.bz _=>true
 |.mx _ _=>true
 |.mn _ _=>true
 |.build _ _=>true
 |.pO _ _ _=>true
 |.sl _ _ _ _=>true
 |.zM _=>true
 |.kY _ _ _=>true
 |.len .sl _=>true
 |.len .st _=>true
 |_=>false
def cG:o6->Bool
 |.load _ _=>true
 |k=>fA k
def CP:o6->Bool
 |.box _=>true
 |.aF _ _ _ _=>true
 |.lF=>true
 |_=>false
def Eg:o6->Bool
 |.call _ _=>true
 |_=>false
def kF(o:bI):Bool:=CP o.k||(o.q&&Eg o.k)
def Ef(o:Oper):Bool:=
 match o.op with
 |.call c=>
  match c.callee with
  |.builtin _=>false
  |_=>true
 |_=>false
def Ee(o:Oper):Bool:=
 o.guard.isNone&&match o.op with
 |.load _ _=>true
 |_=>false
def sj(c:Nat)(o:Oper):Bool:=(decide (1<=c)&&Ef o)||(decide (2<=c)&&Ee o)
def mI(o:bI):Bool:=
 o.q&&match o.k with
 |.load _ _=>true
 |_=>false
def nX(M:Array Nat)(l:List bI):Bool:=
 (List.range l.length).all λj=>
  (List.range j).all λi=>
   match l[i]?,l[j]? with
   |some x,some y=>fA x.k||fA y.k||mI x||mI y||(cG x.k&&(cG y.k||kF y))||(kF x&&cG y.k)||ahead M i j
   |_,_=>true
def yE(o:bI):Bool:=
 o.q&&match o.k with
  |.store _ _ _=>true
  |_=>false
def Lo(o:bI):Bool:=
 o.q&&match o.k with
  |.store _ _ _=>true
  |.app _ _ _ _=>true
  |.wI _ _ _=>true
  |.fu _ _ _ _=>true
  |_=>false
def B7(o:bI):Bool:=fA o.k||match o.k with
 |.store _ _ _=>true
 |_=>false
def Lg(o:bI):Bool:=match o.k with
 |.store _ _ _=>true
 |_=>false
def ko(l:List bI):Bool:=l.all B7&&decide ((l.filter Lg).length<=2)
def dK:List bI->Nat
 |[]=>0
 |o::r=>if ko (o::r)=true then 0 else dK r+1
def ng(M:Array Nat)(l:List bI):Bool:=
 (List.range l.length).all λi=>
  match l[i]? with
  |some x=>!mI x||(List.range l.length).all λj=>
    match l[j]? with
    |some y=>cG y.k||decide (j<dK l)||ahead M i j
    |none=>true
  |none=>true
def rp(M:Array Nat)(l:List bI)(f:Nat):Bool:=
 (List.range l.length).all λj=>
  (List.range j).all λi=>
   match l[i]?,l[j]? with
   |some x,some y=>fA x.k||fA y.k||mI x||mI y||decide (j=f)||ahead M i j
   |_,_=>true
def wa(ops:Array Oper)(l:List bI)(f:Nat):Bool:=
 match l[f]? with
 |some {dst:=some d,k:=.aF _ _ z ps,gd:=none,q:=_}=>z.all xX&&ps.all (λp=>match p.2 with|.t u=>fE ops f u|_=>false)&&(List.range l.length).all λj=>
   match l[j]? with
   |some o=>!cG o.k||((fA o.k||mI o) && !fE ops j d)
   |none=>true
 |_=>false
def F7(M:Array Nat)(ops:Array Oper)(l:List bI):Option Nat:=(List.range l.length).find? λf=>wa ops l f&&rp M l f
def LZ(l:List bI):Bool:=l.any λo=>o.q&&match o.k with
 |.app _ _ (.t d) _=>l.any λp=>p.dst==some d&&match p.k with
  |.app _ _ _ _=>true
  |_=>false
 |_=>false
def nv(P:Program)(ops:Array Oper)(draw:Bool):Option ai:=
 match cQ P ops draw with
 |none=>none
 |some l=>
  if l.any Lo=true/\draw=true then
   match eO (λ_ o=>bU P ops (sj 0 o) o) ops.toList 0,eO (λ_ o=>bU P ops (sj 1 o) o) ops.toList 0,eO (λ_ o=>bU P ops (sj 2 o) o) ops.toList 0 with
   |some l',some l2,some l3=>if(nX (Region.before ops) l' && !l'.any mI)=true then some (.ops l')else if(nX (Region.before ops) l2 && !l2.any mI)=true then some (.ops l2)else if(l.any yE&&(F7 (Region.before ops) ops l3).isSome&&ng (Region.before ops) l3)=true then some (.lD l3)else if l.any yE=true then(if(decide (2<(l.filter Lg).length)&&nX (Region.before ops) l3&&ng (Region.before ops) l3)=true then some (.lD l3)else some (.sf l'))else if(nX (Region.before ops) l3&&ng (Region.before ops) l3)=true then some (.lD l3)else if(LZ l&&(F7 (Region.before ops) ops l3).isSome&&ng (Region.before ops) l3)=true then some (.lD l3)else some (.ops l)
   |_,_,_=>none
  else some (.ops l)
def compile(P:Program):Code->Option ai
 |.skip=>some .skip
 |.region _ ops draw=>nv P ops draw
 |.seq a b=>
  match compile P a,compile P b with
  |some x,some y=>some (.seq x y)
  |_,_=>none
 |.cond c a b=>
  match DT c,compile P a,compile P b with
  |some c,some x,some y=>some (.cond c x y)
  |_,_,_=>none
 |.block id a=>(compile P a).map (.block id)
 |.loop a=>(compile P a).map .loop
 |.exit id=>some (.exit id)
 |.ret=>some .ret
 |.label _=>some .skip
 |.scope a=>compile P a
 |.rangeFunc g ps asg body=>
  match DT g,compile P asg,compile P body with
  |some g,some x,some y=>some (.eQ g ps.toList x y)
  |_,_,_=>none
 |.goto _=>some .bad
 |.refuse _=>some .bad
structure aq where
 nt:Nat
 np:Nat
 rs:List (Nat×Option (Option Nat))
 body:ai
def tQ(P:Program):ResultVar->Option (Nat×Option (Option Nat))
 |.tmp t=>some (t,none)
 |.cell a t=>(AL P t).map λn=>(a,some n)
def bV(P:Program)(f:FuncId):Option aq:=
 match P.funcs[f]? with
 |none=>none
 |some fn=>
  match fn.body with
  |none=>none
  |some c=>
   match compile P c,fn.results.toList.mapM (tQ P)with
   |some b,some rs=>if fn.name == "runtime.NumGoroutine" then none else some {nt:=fn.ntmps,np:=fn.params.size,rs:=rs,body:=b}
   |_,_=>none
def Ei(P:Program)(g:Nat):Nat:=
 match P.globals[g]? with
 |some G=>
  match P.info? G.type with
  |some i=>i.size
  |none=>0
 |none=>0
def BR(P:Program)(m:cp)(w:World)(e:sK):ak->Prop
 |.cells c mu tl=>∃cc el fz,w.heap[e.cb]? =some (.cells cc el fz)/\(e.d+c.length<=cc.size/\e.d+c.length<=e.sz/\cc.size=e.sz)/\
   (∀(i:Nat) (x:AV),c[i]? =some x->x.one=true/\∃v,cc[e.d+i]? =some v/\VR m x v)/\
   (e.own=true->cc.size=e.sz/\∀i,i<cc.size->¬(fz.1<=i/\i<fz.2))/\((mu=true\/tl=true)->e.own=true/\(tl=false->e.sz=e.d+c.length))
 |.dead=>True
 |.bo es=>e.own=true/\∃SX clock,w.heap[e.cb]? =some (.map SX clock)/\SX.size=es.length/\
   ∀(i:Nat) (p:AV×AV),es[i]? =some p->∃q,SX[i]? =some q/\VR m p.1 q.key/\VR m p.2 q.val
 |.iter s pos=>e.own=true/\e.d=0/\w.heap[e.cb]? =some (.stringIter ⟨⟨s⟩⟩ pos)
 |.loop st ex ts ps asg body=>e.own=true/\∃fn tmps RM Rg df,w.heap[e.cb]? =some (.loop {state:=st,pending:=ex.jump,fn:=fn,tmps:=tmps,params:=⟨ps⟩,assign:=RM,body:=Rg,defers:=df})/\
   cL m ts tmps.toList/\compile P RM=some asg/\compile P Rg=some body
def ak.live:ak->Bool
 |.dead=>false
 |_=>true
def pQ(e1 e2:sK):ak->ak->Prop
 |.cells c1 mu1 tl1,.cells c2 mu2 tl2=>mu1=false/\mu2=false/\(tl1=true->tl2=false/\e2.d+c2.length<=e1.d+c1.length)
 |.dead,_=>True
 |_,.dead=>True
 |_,_=>False
structure HR(P:Program)(m:cp)(h:ah)(w:World):Prop where
 cN:∀b e,m b=some e->b<h.length
 dU:∀b e k,m b=some e->h[b]? =some k->BR P m w e k
 sep:∀b1 b2 e1 e2 k1 k2,b1≠b2->m b1=some e1->m b2=some e2->h[b1]? =some k1->h[b2]? =some k2->e1.cb=e2.cb->pQ e1 e2 k1 k2
 fZ:∀g,g<P.globals.size->∃e,m g=some e/\e.cb=g/\e.d=0/\e.own=false/\e.sz=Ei P g
 lt:∀b e,m b=some e->e.cb<w.heap.size
structure Grow(m:cp)(h:ah)(w:World)(m':cp)(h':ah)(w':World):Prop where
 ext:∀b,b<h.length->m' b=m b
 len:h.length<=h'.length
 new:∀b e,h.length<=b->m' b=some e->e.own=true/\(w.heap.size<=e.cb\/∃b0 e0,m b0=some e0/\e0.cb=e.cb/\e0.own=true/\eD h b0=true/\eD h' b0=false)
 tl:∀b,b<h.length->eD h' b=true->eD h b=true
 size:w.heap.size<=w'.heap.size
 os:w'.os=w.os
 out:w'.output=w.output
 tape:w'.tape=w.tape
 frame:∀i,i<w.heap.size->(∀b e,m b=some e->e.own=true->e.cb≠i)->w'.heap[i]? =w.heap[i]?
def Grow.refl(m:cp)(h:ah)(w:World)(hd:∀b e,m b=some e->b<h.length):Grow m h w m h w where
 ext:=λ_ _=>rfl
 len:=X8 _
 new:=λb e hb he=>absurd (hd b e he) Om
 tl:=λ_ _ h=>h
 size:=X8 _
 os:=rfl
 out:=rfl
 tape:=rfl
 frame:=λ_ _ _=>rfl
theorem Grow.le{m m' h h' w w'}(g:Grow m h w m' h' w')(hd:∀b e,m b=some e->b<h.length):m.le m':=
 λb e he=>by rw[g.ext b (hd b e he)];exact he
theorem Grow.trans{m m1 m2 h h1 h2 w w1 w2}(a:Grow m h w m1 h1 w1)(b:Grow m1 h1 w1 m2 h2 w2)
  (hd:∀b e,m b=some e->b<h.length):Grow m h w m2 h2 w2 where
 ext:=λi hi=>(b.ext i (YM hi a.len)).trans (a.ext i hi)
 len:=YI a.len b.len
 new:=by
  intro i e hi he;by_cases h1i:h1.length<=i
  ·obtain⟨ho,hc⟩:=b.new i e h1i he;refine⟨ho,?_⟩;rcases hc with hc|⟨b0,e0,R3,hcb,ho0,S2,Vq⟩
   ·exact .inl (YI a.size hc)
   ·by_cases hb:h.length<=b0
    ·obtain⟨_,hc0⟩:=a.new b0 e0 hb R3;rcases hc0 with hc0|⟨b00,e00,hb00,XK,ho00,ht00,Wa⟩
     ·exact .inl (hcb▸hc0)
     ·refine .inr ⟨b00,e00,hb00,XK.trans hcb,ho00,ht00,?_⟩;cases hx:eD h2 b00 with
      |false=>rfl
      |true=>
       have hlt:=hd _ _ hb00;rw[b.tl b00 (YM hlt a.len) hx]at Wa;cases Wa
    ·have hlt:b0<h.length:=Om
     rw[a.ext b0 hlt]at R3;exact .inr ⟨b0,e0,R3,hcb,ho0,a.tl b0 hlt S2,Vq⟩
  ·have hi1:i<h1.length:=Om
   rw[b.ext i hi1]at he;obtain⟨ho,hc⟩:=a.new i e hi he;refine⟨ho,?_⟩;rcases hc with hc|⟨b0,e0,R3,hcb,ho0,S2,Vq⟩
   ·exact .inl hc
   ·refine .inr ⟨b0,e0,R3,hcb,ho0,S2,?_⟩;cases hx:eD h2 b0 with
    |false=>rfl
    |true=>
     have hlt:=hd _ _ R3;rw[b.tl b0 (YM hlt a.len) hx]at Vq;cases Vq
 tl:=λi hi ht=>a.tl i hi (b.tl i (YM hi a.len) ht)
 size:=YI a.size b.size
 os:=b.os.trans a.os
 out:=b.out.trans a.out
 tape:=b.tape.trans a.tape
 frame:=by
  intro i hi hno;refine(b.frame i (YM hi a.size) ?_).trans (a.frame i hi hno);intro j e he ho hcb;by_cases hj:h.length<=j
  ·obtain⟨_,hc⟩:=a.new j e hj he;rcases hc with hc|⟨b0,e0,R3,XK,ho0,_,_⟩
   ·omega
   ·exact hno b0 e0 R3 ho0 (XK.trans hcb)
  ·rw[a.ext j Om]at he;exact hno j e he ho hcb
theorem BR.heap{P m w w' e k}(h:BR P m w e k)(hw:w'.heap[e.cb]? =w.heap[e.cb]?):BR P m w' e k:=by
 cases k<;>simp only[BR,hw]at h ⊢<;>exact h
theorem BR.mono{P m m' w e k}(hm:m.le m')(h:BR P m w e k):BR P m' w e k:=by
 cases k with
 |cells c mu tl=>
  obtain⟨cc,el,fz,h1,h2,h3,h4⟩:=h;exact⟨cc,el,fz,h1,h2,λi x hx=>by obtain⟨ho,v,hv,hr⟩:=h3 i x hx;exact⟨ho,v,hv,VR.mono hm _ _ hr⟩,h4⟩
 |dead=>trivial
 |bo es=>
  obtain⟨ho,SX,clock,h1,h2,h3⟩:=h;exact⟨ho,SX,clock,h1,h2,λi p hp=>by obtain⟨q,hq,ha,hb⟩:=h3 i p hp;exact⟨q,hq,VR.mono hm _ _ ha,VR.mono hm _ _ hb⟩⟩
 |iter s pos=>exact h
 |loop st ex ts ps asg body=>
  obtain⟨ho,fn,tmps,RM,Rg,df,h1,h2,h3,h4⟩:=h;exact⟨ho,fn,tmps,RM,Rg,df,h1,cL.mono hm _ _ h2,h3,h4⟩
theorem HR.drew{P m h w}(hr:HR P m h w):HR P m h w.drew where
 cN:=hr.cN
 dU:=λb e k hb hk=>(hr.dU b e k hb hk).heap rfl
 sep:=hr.sep
 fZ:=hr.fZ
 lt:=hr.lt
theorem Grow.drew{m h w m' h' w'}(g:Grow m h w m' h' w'):Grow m h w m' h' w'.drew:=
 ⟨g.ext,g.len,g.new,g.tl,g.size,g.os,g.out,g.tape,g.frame⟩
def Grow.Cs{m h w m' h' w'}(g:Grow m h w.drew m' h' w'):Grow m h w m' h' w':=
 ⟨g.ext,g.len,g.new,g.tl,g.size,g.os,g.out,g.tape,g.frame⟩
def BR.lt{P m w e k}(h:BR P m w e k)(hl:k.live=true):e.cb<w.heap.size:=by
 cases k with
 |cells c mu tl=>obtain⟨cc,el,fz,h1,_⟩:=h;exact(Ye.1 h1).1
 |dead=>cases hl
 |bo es=>obtain⟨_,SX,clock,h1,_⟩:=h;exact(Ye.1 h1).1
 |iter s pos=>exact(Ye.1 h.2.2).1
 |loop st ex ts ps asg body=>obtain⟨_,fn,tmps,RM,Rg,df,h1,_⟩:=h;exact(Ye.1 h1).1
def cp.add(m:cp)(b:Nat)(e:sK):cp:=λx=>if x=b then some e else m x
def cp.rO{m:cp}{b:Nat}(e:sK)(h:m b=none):m.le (m.add b e):=by
 intro x y hx;unfold cp.add;by_cases hb:x=b
 ·subst hb;rw[h]at hx;cases hx
 ·rw[X5 hb];exact hx
def fG{h k b}(hb:b<h.length):eD (h++[k]) b=eD h b:=by
 unfold eD;rw[XW hb]
def ka{P:Program}{m:cp}{h:ah}{w:World}(hr:HR P m h w)(o:Obj)(k:ak)(e:sK)(he:e.cb=w.heap.size)(ho:e.own=true)
  (hk:∀m':cp,m.le m'->BR P m' (w.alloc o) e k):
  HR P (m.add h.length e) (h++[k]) (w.alloc o)/\Grow m h w (m.add h.length e) (h++[k]) (w.alloc o):=by
 have RQ:m h.length=none:=by
  exact Ms
 have hle:=cp.rO e RQ;have hold:∀b x,m b=some x->(m.add h.length e) b=some x:=hle;have hheap:∀i,i<w.heap.size->(w.alloc o).heap[i]? =w.heap[i]? :=λi hi=>Go.RowKit.Below.heap_alloc w o i hi
 have UF:∀b x k',m b=some x->h[b]? =some k'->k'.live=true->x.cb<w.heap.size:=λb x k' hb hk' hl=>(hr.dU b x k' hb hk').lt hl
 refine⟨⟨?_,?_,?_,?_,?_⟩,⟨?_,Si,?_,?_,Si,rfl,rfl,rfl,λi hi _=>hheap i hi⟩⟩
 ·intro b x hb;unfold cp.add at hb;by_cases hbl:b=h.length
  ·subst hbl;simp
  ·rw[X5 hbl]at hb;have:=hr.cN _ _ hb;simp;omega
 ·intro b x k' hb hk';unfold cp.add at hb;by_cases hbl:b=h.length
  ·subst hbl;rw[X9 rfl]at hb;cases hb;simp at hk';subst hk';exact hk _ hle
  ·rw[X5 hbl]at hb;have hlt:=hr.cN _ _ hb;rw[XW hlt]at hk';have h0:=hr.dU b x k' hb hk';by_cases hl:k'.live=true
   ·exact(h0.mono hle).heap (hheap _ (h0.lt hl))
   ·cases k'<;>first|trivial|exact absurd rfl hl
 ·intro b1 b2 e1 e2 k1 k2 hne h1 h2 hk1 QS hcb;unfold cp.add at h1 h2;by_cases Rk:b1=h.length
  ·subst Rk;rw[X9 rfl]at h1;cases h1;have Rx:b2≠h.length:=λx=>hne x.symm
   rw[X5 Rx]at h2;have hlt:=hr.cN _ _ h2;rw[XW hlt]at QS;by_cases hl:k2.live=true
   ·have:=UF _ _ _ h2 QS hl;omega
   ·cases k2<;>first|(cases k1<;>trivial)|exact absurd rfl hl
  ·rw[X5 Rk]at h1;have hlt1:=hr.cN _ _ h1;rw[XW hlt1]at hk1;by_cases Rx:b2=h.length
   ·subst Rx;rw[X9 rfl]at h2;cases h2;by_cases hl:k1.live=true
    ·have:=UF _ _ _ h1 hk1 hl;omega
    ·cases k1<;>first|trivial|exact absurd rfl hl
   ·rw[X5 Rx]at h2;have RT:=hr.cN _ _ h2;rw[XW RT]at QS;exact hr.sep b1 b2 e1 e2 k1 k2 hne h1 h2 hk1 QS hcb
 ·intro g hg;obtain⟨x,hx,h1⟩:=hr.fZ g hg;exact⟨x,hold _ _ hx,h1⟩
 ·intro b x hb;unfold cp.add at hb;simp only[World.size_alloc];by_cases hbl:b=h.length
  ·rw[X9 hbl]at hb;cases hb;omega
  ·rw[X5 hbl]at hb;have:=hr.lt _ _ hb;omega
 ·intro b hb;unfold cp.add;rw[X5 Om]
 ·intro b x hb hx;unfold cp.add at hx;by_cases hbl:b=h.length
  ·rw[X9 hbl]at hx;cases hx;exact⟨ho,.inl Om⟩
  ·rw[X5 hbl]at hx;exact absurd (hr.cN _ _ hx) Om
 ·intro b hb ht
  rwa [fG hb]at ht
def uI{P:Program}{m:cp}{w:World}{c:List AV}{vs:List Value}(hc:cL m c vs)(h1:c.all AV.one=true)(el:TypeId)(mu tl:Bool)(m':cp)(hm:m.le m'):
  BR P m' (w.alloc (.cells ⟨vs⟩ el)) ⟨w.heap.size,0,vs.length,true⟩ (.cells c mu tl):=by
 refine⟨⟨vs⟩,el,(0,0),World.alloc_heap_new w _,⟨by simp[hc.length],by simp[hc.length]⟩,?_,?_,λ_=>⟨rfl,λ_=>by simp[hc.length]⟩⟩
 ·intro i x hx;obtain⟨v,hv,hr⟩:=hc.get hx;exact⟨Yw.1 h1 x (YO hx),v,by simpa using hv,VR.mono hm _ _ hr⟩
 ·intro _;exact⟨Si,λi _=>by simp⟩
def lO{P m h w}(hr:HR P m h w){c vs}(hc:cL m c vs)(h1:c.all AV.one=true)(el:TypeId)(mu tl:Bool):
  ∃m',m' h.length=some ⟨w.heap.size,0,vs.length,true⟩/\HR P m' (h++[.cells c mu tl]) (w.alloc (.cells ⟨vs⟩ el))/\Grow m h w m' (h++[.cells c mu tl]) (w.alloc (.cells ⟨vs⟩ el)):=
 ⟨_,by simp[cp.add],ka hr (.cells ⟨vs⟩ el) (.cells c mu tl) ⟨w.heap.size,0,vs.length,true⟩ rfl rfl (λm' hm=>uI hc h1 el mu tl m' hm)⟩
def gO(b o n:Nat):(⟨b,o,none⟩:Addr).add n=⟨b,o+n,none⟩:=by
 unfold Addr.add;by_cases h:n=0
 ·simp[h]
 ·simp[h]
def cell_of{P m h w}(hr:HR P m h w){b e c mu tl}(he:m b=some e)(hb:h[b]? =some (.cells c mu tl))
  {i}{x}(hx:c[i]? =some x):x.one=true/\∃v,w.cell? ⟨e.cb,i+e.d,none⟩=some v/\VR m x v:=by
 obtain⟨cc,el,fz,h1,_,h3,_⟩:=hr.dU b e _ he hb;obtain⟨ho,v,hv,QT⟩:=h3 i x hx;exact⟨ho,v,by simp only[World.cell?,h1];rw[Nat.add_comm];simpa using hv,QT⟩
def na{P m h w}(hr:HR P m h w){b e c mu tl}(he:m b=some e)(hb:h[b]? =some (.cells c mu tl))
  (o n:Nat) (hn:o+n<=c.length):∃vs,(loadCells ⟨e.cb,o+e.d,none⟩ n).run P w=.ok ⟨vs⟩ w/\cL m ((c.drop o).take n) vs/\((c.drop o).take n).all AV.one=true:=by
 have QY:∀j,j<n->∃x,c[o+j]? =some x:=λj hj=>⟨c[o+j],XY Om⟩
 have RG:∀j,j<n->∃v,w.cell? ⟨e.cb,o+e.d+j,none⟩=some v/\∃x,c[o+j]? =some x/\VR m x v:=by
  intro j hj;obtain⟨x,hx⟩:=QY j hj;obtain⟨_,v,hv,QT⟩:=cell_of hr he hb hx;exact⟨v,by rw[show o+e.d+j=o+j+e.d from by omega];exact hv,x,hx,QT⟩
 obtain⟨f,hf⟩:∃f:Nat->Value,∀j,j<n->w.cell? ⟨e.cb,o+e.d+j,none⟩=some (f j):=
  ⟨λj=>(w.cell? ⟨e.cb,o+e.d+j,none⟩).getD default,λj hj=>by obtain⟨v,hv,_⟩:=RG j hj;simp[hv]⟩
 have RJ:cL m ((c.drop o).take n) ((List.range n).map f):=by
  refine cL.gZ (by simp;omega) λi x hx=>?_
  have hi:i<n:=by
   have:=(XT.1 hx).1;simp at this;omega
  rw[ZY hi,aac]at hx;obtain⟨v,hv,y,hy,QT⟩:=RG i hi;rw[hx]at hy;cases hy;refine⟨f i,by simp[hi],?_⟩;have:=hf i hi;rw[hv]at this;cases this;exact QT
 refine⟨(List.range n).map f,?_,RJ,?_⟩
 ·have:=run_loadCells_list (P:=P) (w:=w) ⟨e.cb,o+e.d,none⟩ ((List.range n).map f) (λj v hj=>by
   have hi:j<n:=by
    have:=(XT.1 hj).1
    simpa using this
   rw[gO];simp[hi]at hj;rw[<-hj];exact hf j hi)
  simpa using this
 ·rw[Yw];intro x hx;have QV:x∈c:=List.mem_of_mem_drop (Y5 hx);obtain⟨i,hi,rfl⟩:=Z2 QV;exact(cell_of hr he hb (XY hi)).1
def fN(c:List AV)(o:Nat):List AV->List AV
 |[]=>c
 |x::xs=>fN (c.set o x) (o+1) xs
def bG(h:ah)(b b':Nat)(k:ak)(hb:b<h.length):(h.set b k)[b']? =if b' =b then some k else h[b']? :=by
 rw[List.getElem?_set];by_cases e:b=b'
 ·subst e;simp[hb]
 ·have e':¬b' =b:=λx=>e x.symm
  rw[X5 e,X5 e']
def oa{w:World}{cb i:Nat}{cc:Array Value}{el:TypeId}{fz:Nat×Nat}(h1:w.heap[cb]? =some (.cells cc el fz))(h:¬(fz.1<=i/\i<fz.2)):w.frozen? ⟨cb,i,none⟩=false:=by
 obtain⟨lo,hi⟩:=fz;simp only[World.frozen?,h1];simp only[Bool.and_eq_false_iff,ZK];simp only at h;omega
def heap_setCell_same{w:World}{cb i:Nat}{cc:Array Value}{el:TypeId}{fz:Nat×Nat}(h1:w.heap[cb]? =some (.cells cc el fz))(v:Value):
  (w.setCell ⟨cb,i,none⟩ v).heap[cb]? =some (.cells (cc.setIfInBounds i v) el fz):=by
 obtain⟨hlt,hk⟩:=Ye.1 h1;simp only[World.setCell];rw[YL (by rw[Array.size_modify];exact hlt),Array.getElem_modify_self,hk];simp
def zu{P:Program}{m:cp}{h:ah}{w:World}(hr:HR P m h w){b:Nat}{e:sK}{c:List AV}{tl:Bool}(he:m b=some e)(hb:h[b]? =some (.cells c true tl))
  {i:Nat}(hi:i<c.length) {x:AV}{v:Value}(hx:x.one=true) (hv:VR m x v):
  (store ⟨e.cb,i+e.d,none⟩ v).run P w=.ok () (w.setCell ⟨e.cb,i+e.d,none⟩ v)/\
  HR P m (h.set b (.cells (c.set i x) true tl)) (w.setCell ⟨e.cb,i+e.d,none⟩ v)/\Grow m h w m (h.set b (.cells (c.set i x) true tl)) (w.setCell ⟨e.cb,i+e.d,none⟩ v):=by
 obtain⟨cc,el,fz,h1,⟨h2,h2'⟩,h3,h4,h5⟩:=hr.dU b e _ he hb;have hown:e.own=true:=(h5 (.inl rfl)).1;obtain⟨eC,hfz⟩:=h4 hown;have hbl:b<h.length:=hr.cN _ _ he;have RG:∃u,w.cell? ⟨e.cb,i+e.d,none⟩=some u:=⟨cc[i+e.d]'Om,by simp only[World.cell?,h1];exact YL Om⟩;obtain⟨u,hu⟩:=RG;have hfr:w.frozen? ⟨e.cb,i+e.d,none⟩=false:=oa h1 (hfz _ Om);have hother:∀k,k≠e.cb->(w.setCell ⟨e.cb,i+e.d,none⟩ v).heap[k]? =w.heap[k]? :=λk hk=>Go.RowKit.Below.heap_setCell w _ v k hk
 have Uv:=heap_setCell_same (i:=i+e.d) h1 v;refine⟨?_,⟨?_,?_,?_,hr.fZ,λb' e' hb'=>by simpa using hr.lt b' e' hb'⟩,⟨λ_ _=>rfl,Si,?_,?_,Si,rfl,rfl,rfl,?_⟩⟩
 ·rw[run_store P w _ v .plain (hv.tS hx),hu];simp[hfr]
 ·intro b' e' hb';simpa using hr.cN b' e' hb'
 ·intro b' e' k RO hk;rw[bG h b b' _ hbl]at hk;by_cases hbb:b' =b
  ·subst hbb;rw[X9 rfl]at hk;cases hk;rw[he]at RO;cases RO;refine⟨_,el,fz,Uv,⟨by simpa using h2,by simpa using h2'⟩,?_,λho=>⟨by simpa using eC,λj hj=>hfz j (by simpa using hj)⟩,λz=>⟨hown,λy=>by rw[YD];exact(h5 (.inl rfl)).2 y⟩⟩;intro j y hy;rw[List.getElem?_set]at hy;by_cases hij:i=j
   ·subst hij;rw[X9 rfl,X9 hi]at hy;cases hy;refine⟨hx,v,?_,hv⟩;rw[show e.d+i=i+e.d from by omega];rw[Ze Om]
   ·rw[X5 hij]at hy;obtain⟨ho,u',Ut,hr'⟩:=h3 j y hy;refine⟨ho,u',?_,hr'⟩;rw[ZE Om];exact Ut
  ·rw[X5 hbb]at hk;have h0:=hr.dU b' e' k RO hk;by_cases hl:k.live=true
   ·refine h0.heap (hother _ ?_);intro hcb;have:=hr.sep b b' e e' _ k (λx=>hbb x.symm) he RO hb hk hcb.symm;cases k<;>first|(cases hl;done)|exact absurd this.1 Si|exact this
   ·cases k<;>first|trivial|exact absurd rfl hl
 ·intro b1 b2 e1 e2 k1 k2 hne Sb Q0 hk1 QS hcb;rw[bG h b _ _ hbl]at hk1 QS;by_cases Rk:b1=b
  ·subst Rk;rw[X9 rfl]at hk1;cases hk1;rw[X5 (λx=>hne x.symm)]at QS;have:=hr.sep b1 b2 e1 e2 _ k2 hne Sb Q0 hb QS hcb;cases k2<;>first|trivial|exact absurd this.1 Si|exact this.elim
  ·rw[X5 Rk]at hk1;by_cases Rx:b2=b
   ·subst Rx;rw[X9 rfl]at QS;cases QS;have:=hr.sep b1 b2 e1 e2 k1 _ hne Sb Q0 hk1 hb hcb;cases k1<;>first|trivial|exact absurd this.2.1 Si|exact this.elim
   ·exact Mq
 ·intro b' e' hb' RO;exact absurd (hr.cN _ _ RO) Om
 ·intro b' hb' ht;unfold eD at ht ⊢;rw[bG h b b' _ hbl]at ht;by_cases hbb:b' =b
  ·subst hbb;rw[X9 rfl]at ht;rw[hb];exact ht
  ·exact z168
 ·intro k hk hno;exact hother k (λhcb=>hno b e he hown hcb.symm)
theorem pg{P m}:∀(xs:List AV) (vs:List Value) {h}{w}(_:HR P m h w) {b}{e}{c}{tl}(_:m b=some e) (_:h[b]? =some (.cells c true tl))
  (a j:Nat) (_:a+j+xs.length<=c.length) (_:xs.all AV.one=true) (_:cL m xs vs),
  ∃w',(storeCells ⟨e.cb,a+e.d,none⟩ vs j).run P w=.ok () w'/\HR P m (h.set b (.cells (fN c (a+j) xs) true tl)) w'/\Grow m h w m (h.set b (.cells (fN c (a+j) xs) true tl)) w'
 |[],vs,h,w,hr,b,e,c,tl,he,hb,a,j,hlen,h1,hv=>by
  rw[bD]at hv;subst hv;have hbl:b<h.length:=hr.cN _ _ he;have aT:h.set b (.cells (fN c (a+j) []) true tl)=h:=by
   simp only[fN]
   apply aag
   intro i;rw[bG h b i _ hbl];by_cases hi:i=b
   ·subst hi;simp[hb]
   ·simp[hi]
  exact⟨w,rfl,by rw[aT];exact hr,by rw[aT];exact Grow.refl m h w hr.cN⟩
 |x::xs,vs,h,w,hr,b,e,c,tl,he,hb,a,j,hlen,h1,hv=>by
  obtain⟨v,vs',rfl,hxv,RJ⟩:=aS.1 hv;simp only[Zv,Yv]at h1;simp only[XX]at hlen;obtain⟨QU,hr1,hg1⟩:=zu hr he hb (i:=a+j) Om h1.1 hxv;have hbl:b<h.length:=hr.cN _ _ he;have Rk:(h.set b (.cells (c.set (a+j) x) true tl))[b]? =some (.cells (c.set (a+j) x) true tl):=by rw[bG h b b _ hbl,X9 rfl]
  obtain⟨w',hrun',hr',Re⟩:=pg xs vs' hr1 he Rk a (j+1) (by simp;omega) h1.2 RJ;have aT:(h.set b (.cells (c.set (a+j) x) true tl)).set b (.cells (fN (c.set (a+j) x) (a+(j+1)) xs) true tl)=h.set b (.cells (fN c (a+j) (x::xs)) true tl):=by
   rw[List.set_set];rfl
  rw[aT]at hr' Re;refine⟨w',?_,hr',Grow.trans hg1 Re hr.cN⟩;simp only[storeCells,Yh];rw[gO,show a+e.d+j=a+j+e.d from by omega,QU];exact hrun'
def fO(op:BinOp)(k:IntKind)(a b:Int):Option AV:=
 match op with
 |.add=>some (.int k (k.wrap (a+b)))
 |.sub=>some (.int k (k.wrap (a-b)))
 |.mul=>some (.int k (k.wrap (a*b)))
 |.quo=>if b=0 then none else some (.int k (k.wrap (a.tdiv b)))
 |.rem=>if b=0 then none else some (.int k (a.tmod b))
 |.and=>some (.int k (k.wrap (BitVec.ofInt k.bits a &&& BitVec.ofInt k.bits b).toNat))
 |.or=>some (.int k (k.wrap (BitVec.ofInt k.bits a |||BitVec.ofInt k.bits b).toNat))
 |.xor=>some (.int k (k.wrap (BitVec.ofInt k.bits a^^^BitVec.ofInt k.bits b).toNat))
 |.andNot=>some (.int k (k.wrap (BitVec.ofInt k.bits a &&& ~~~ (BitVec.ofInt k.bits b)).toNat))
 |.eql=>some (.bool (a==b))
 |.neq=>some (.bool (a !=b))
 |.lss=>some (.bool (decide (a<b)))
 |.leq=>some (.bool (decide (a<=b)))
 |.gtr=>some (.bool (decide (a > b)))
 |.geq=>some (.bool (decide (a>=b)))
 |_=>none
def qT(op:BinOp)(x y:By):Option AV:=
 match op with
 |.add=>if x.length+y.length<2^62 then some (.str (x++y))else none
 |.eql=>some (.bool (x==y))
 |.neq=>some (.bool !(x==y))
 |.lss=>some (.bool (Op.bytesLess x y))
 |.leq=>some (.bool (Op.bytesLess x y||x==y))
 |.gtr=>some (.bool !(Op.bytesLess x y||x==y))
 |.geq=>some (.bool !(Op.bytesLess x y))
 |_=>none
def wR(op:BinOp)(k:IntKind)(a b:Int):Option AV:=
 if b<0 then none
 else match op with
  |.shl=>some (.int k (k.wrap (a*2^(min b.toNat k.bits))))
  |.shr=>some (.int k (a.fdiv (2^(min b.toNat k.bits))))
  |_=>none
def eT:BinOp->Bool
 |.shl=>true
 |.shr=>true
 |_=>false
def ez(op:BinOp):AV->AV->Option AV
 |.int k a,.int k' b=>if eT op then wR op k a b else if k=k' then fO op k a b else none
 |.str a,.str b=>qT op a b
 |_,_=>none
def wL(op:UnOp):AV->Option AV
 |.int k n=>
  match op with
  |.neg=>some (.int k (k.wrap (0-n)))
  |.xor=>fO .xor k (if k.signed then -1 else k.max) n
  |_=>none
 |.bool b=>
  match op with
  |.not=>some (.bool !b)
  |_=>none
 |_=>none
def dx:CK->AV->AV->Option Bool
 |.b,.bool a,.bool b=>some (a==b)
 |.i,.int k a,.int k' b=>if k=k' then some (a==b)else none
 |.s,.str a,.str b=>some (a==b)
 |_,_,_=>none
def dG:List CK->List AV->List AV->Option Bool
 |[],[],[]=>some true
 |k::ks,x::xs,y::ys=>
  match dx k x y with
  |some true=>dG ks xs ys
  |some false=>some false
  |none=>none
 |_,_,_=>none
def yZ(ks:List CK):AV->AV->Option Bool
 |.agg xs,.agg ys=>if xs.length=ks.length/\ys.length=ks.length then dG ks xs ys else none
 |_,_=>none
def OA:AV->AV->Option Bool
 |.af,.af=>some true
 |.af,.slice _ _ _ _=>some false
 |.slice _ _ _ _,.af=>some false
 |_,_=>none
def OB:AV->AV->Option Bool
 |.nilPtr,.nilPtr=>some true
 |.nilPtr,.ptr _ _=>some false
 |.ptr _ _,.nilPtr=>some false
 |_,_=>none
def OD:AV->AV->Option Bool
 |.nilFunc,.nilFunc=>some true
 |.nilFunc,.func _ _ _=>some false
 |.func _ _ _,.nilFunc=>some false
 |_,_=>none
def OC:AV->AV->Option Bool
 |.cY,.cY=>some true
 |.cY,.map _=>some false
 |.map _,.cY=>some false
 |_,_=>none
def pC(t:Pz)(x y:AV):Option Bool:=
 match t with
 |.one k=>dx k x y
 |.agg ks=>yZ ks x y
 |.xM=>OA x y
 |.xN=>OB x y
 |.po=>OD x y
 |.KN=>OC x y
def byteOf:AV->Option UInt8
 |.int .u8 n=>some (UInt8.ofNat n.toNat)
 |_=>none
def cellsIn(es:Nat)(h:ah):AV->Option (List AV×Nat)
 |.af=>some ([],0)
 |.slice b o n es'=>
  if es' =es then
   match h[b]? with
   |some (.cells c _ _)=>if o+n*es<=c.length then some ((c.drop o).take (n*es),n)else none
   |_=>none
  else none
 |.str s=>if es=1 then some (s.map λb=>.int .u8 b.toNat,s.length)else none
 |_=>none
def j8(k:zj)(x:AV)(h:ah):Option (AV×ah):=
 match k with
 |.ub k=>
  match x with
  |.int _ n=>some (.int k (k.wrap n),h)
  |_=>none
 |.same=>
  match x with
  |.str s=>some (.str s,h)
  |_=>none
 |.Od k=>
  match x with
  |.int _ n=>some (.wG k (k.nearest n),h)
  |_=>none
 |.Oy k=>
  match x with
  |.wG s b=>
   match (s.decode b).toInt .zero with
   |some n=>if DY s b=false/\k.min<=n/\n<=k.max then some (.int k n,h)else none
   |none=>none
  |_=>none
 |.Oz k=>
  match x with
  |.wG s b=>if s=k then some (.wG k b,h)else none
  |_=>none
 |.qn u=>some (.qn u x,h)
 |.IW=>
  match x with
  |.af=>some (.str [],h)
  |.slice b o n es=>
   match cellsIn 1 h (.slice b o n es)with
   |some (l,_)=>
    match l.mapM byteOf with
    |some r=>some (.str r,h)
    |none=>none
   |none=>none
  |_=>none
 |.Nc=>
  match x with
  |.str s=>some (.slice h.length 0 s.length 1,h++[.cells (s.map λb=>.int .u8 b.toNat) true true])
  |_=>none
def dP(n:Nat)(z:List AV):List AV:=(List.replicate n z).flatten
def eM(c:List AV):List (Nat×Nat×AV)->Option (List AV)
 |[]=>some c
 |(off,n,v)::r=>if v.cells.length=n/\off+n<=c.length then eM (fN c off v.cells) r else none
def Ho:Option AV->Option Int
 |none=>some 0
 |some (.int _ i)=>some i
 |_=>none
def F4(n:Nat):Option AV->Option Int
 |none=>some n
 |some (.int _ i)=>some i
 |_=>none
def iZ(lo hi:Option AV)(n:Nat):Option (Nat×Nat):=
 match Ho lo,F4 n hi with
 |some l,some h=>if 0<=l/\l<=h/\h<=n then some (l.toNat,h.toNat)else none
 |_,_=>none
def jq(kk:CK)(k:AV):List (AV×AV)->Option (Option AV)
 |[]=>some none
 |(a,v)::r=>
  match dx kk k a with
  |some true=>some (some v)
  |some false=>jq kk k r
  |none=>none
def pe(kk:CK)(k v:AV):List (AV×AV)->Option (List (AV×AV))
 |[]=>some [(k,v)]
 |(a,u)::r=>
  match dx kk k a with
  |some true=>some ((k,v)::r)
  |some false=>(pe kk k v r).map ((a,u)::·)
  |none=>none
def pX:AV->AV->Option AV
 |.int k a,.int k' b=>if k=k' then some (.int k (if b > a then b else a))else none
 |_,_=>none
def pW:AV->AV->Option AV
 |.int k a,.int k' b=>if k=k' then some (.int k (if b<a then b else a))else none
 |_,_=>none
def iC(f:AV->AV->Option AV):AV->List AV->Option AV
 |x,[]=>some x
 |x,y::r=>
  match f x y with
  |some z=>iC f z r
  |none=>none
def zN(lk:LK)(h:ah):AV->Option Nat
 |.str s=>if lk=.st then some s.length else none
 |.slice _ _ n _=>if lk=.sl then some n else none
 |.af=>if lk=.sl then some 0 else none
 |.map r=>
  match h[r]? with
  |some (.bo es)=>if lk=.mp then some es.length else none
  |_=>none
 |.cY=>if lk=.mp then some 0 else none
 |_=>none
def dA(k:o6)(ρ:c6->AV)(h:ah):Option (AV×ah):=
 match k with
 |.aI x=>some (ρ x,h)
 |.pick c a b=>
  match ρ c with
  |.bool t=>some (if t then ρ a else ρ b,h)
  |_=>none
 |.box x=>if(ρ x).cells.all AV.one then some (.ptr h.length 0,h++[.cells (ρ x).cells true false])else none
 |.nw n x=>if(ρ x).cells.all AV.one=true/\(ρ x).cells.length=n then some (.ptr h.length 0,h++[.cells (ρ x).cells true false])else none
 |.build z ps=>
  match eM z (ps.map λp=>(p.1,p.2.1,ρ p.2.2))with
  |some c=>some (.agg c,h)
  |none=>none
 |.load n a=>
  match ρ a with
  |.ptr b o=>
   match h[b]? with
   |some (.cells c _ _)=>
    match n with
    |none=>
     match c[o]? with
     |some x=>some (x,h)
     |none=>none
    |some n=>if o+n<=c.length then some (.agg ((c.drop o).take n),h)else none
   |_=>none
  |_=>none
 |.store n a x=>
  match ρ a with
  |.ptr b o=>
   match h[b]? with
   |some (.cells c true tl)=>
    if(ρ x).cells.length=n/\(ρ x).cells.all AV.one=true/\o+n<=c.length then some (az,h.set b (.cells (fN c o (ρ x).cells) true tl))else none
   |_=>none
  |_=>none
 |.bz x=>
  match ρ x with
  |.ptr b o=>some (.ptr b o,h)
  |.func (.func f) a c=>some (.func (.func f) a c,h)
  |.func (.yield f) a c=>some (.func (.yield f) a c,h)
  |.func (.methodOf t n) a c=>some (.func (.methodOf t n) a c,h)
  |.func (.via t p f q) a c=>some (.func (.via t p f q) a c,h)
  |_=>none
 |.bin op x y=>
  match ez op (ρ x) (ρ y)with
  |some v=>some (v,h)
  |none=>none
 |.eqv neg t x y=>
  match pC t (ρ x) (ρ y)with
  |some b=>some (.bool (if neg then !b else b),h)
  |none=>none
 |.un op x=>
  match wL op (ρ x)with
  |some v=>some (v,h)
  |none=>none
 |.conv k x=>j8 k (ρ x) h
 |.kY f a c=>some (.func f (a.map ρ) (c.map ρ),h)
 |.lF=>some (.map h.length,h++[.bo []])
 |.si es w z l c=>
  match ρ l,ρ c with
  |.int _ l,.int _ c=>
   if 0<=l/\l<=c/\(w:Int)*c<=2^48/\c<2^63 then some (.slice h.length 0 l.toNat es,h++[.cells (dP l.toNat z) true true])else none
  |_,_=>none
 |.sl es x lo hi=>
  match ρ x with
  |.slice b o n es'=>
   if es' =es then
    match iZ (lo.map ρ) (hi.map ρ) n with
    |some (l,h')=>some (.slice b (o+l*es) (h'-l) es,h)
    |none=>none
   else none
  |.af=>
   match iZ (lo.map ρ) (hi.map ρ) 0 with
   |some _=>some (.af,h)
   |none=>none
  |_=>none
 |.pO x lo hi=>
  match ρ x with
  |.str s=>
   match iZ (lo.map ρ) (hi.map ρ) s.length with
   |some (l,h')=>some (.str ((s.drop l).take (h'-l)),h)
   |none=>none
  |_=>none
 |.Mx k es x lo hi=>
  match ρ x with
  |.ptr b o=>
   match h[b]? with
   |some (.cells c _ _)=>
    if o+k*es<=c.length then
     match iZ (lo.map ρ) (hi.map ρ) k with
     |some (l,h')=>some (.slice b (o+l*es) (h'-l) es,h)
     |none=>none
    else none
   |_=>none
  |_=>none
 |.aR off x=>
  match ρ x with
  |.ptr b o=>some (.ptr b (o+off),h)
  |_=>none
 |.bf es x i=>
  match ρ x,ρ i with
  |.slice b o n es',.int _ i=>if es' =es/\0<=i/\i<n then some (.ptr b (o+i.toNat*es),h)else none
  |_,_=>none
 |.iX len es x i=>
  match ρ x,ρ i with
  |.ptr b o,.int _ i=>if 0<=i/\i<len then some (.ptr b (o+i.toNat*es),h)else none
  |_,_=>none
 |.part n off x=>
  match ρ x with
  |.agg cs=>
   match n with
   |none=>
    match cs[off]? with
    |some v=>some (v,h)
    |none=>none
   |some n=>some (.agg ((cs.drop off).take n),h)
  |_=>none
 |.IU len es n x i=>
  match ρ x,ρ i with
  |.agg cs,.int _ i=>
   if 0<=i/\i<len then
    match n with
    |none=>
     match cs[i.toNat*es]? with
     |some v=>some (v,h)
     |none=>none
    |some n=>some (.agg ((cs.drop (i.toNat*es)).take n),h)
   else none
  |_,_=>none
 |.qm x i=>
  match ρ x,ρ i with
  |.str s,.int _ i=>
   if 0<=i then
    match s[i.toNat]? with
    |some b=>some (.int .u8 b.toNat,h)
    |none=>none
   else none
  |_,_=>none
 |.look kk z ok m k=>
  match ρ m with
  |.cY=>some (if ok then .dN [z,.bool false]else z,h)
  |.map r=>
   match h[r]? with
   |some (.bo es)=>
    match jq kk (ρ k) es with
    |some (some v)=>some (if ok then .dN [v,.bool true]else v,h)
    |some none=>some (if ok then .dN [z,.bool false]else z,h)
    |none=>none
   |_=>none
  |_=>none
 |.fu kk m k x=>
  match ρ m with
  |.map r=>
   match h[r]? with
   |some (.bo es)=>
    match pe kk (ρ k) (ρ x) es with
    |some es'=>some (az,h.set r (.bo es'))
    |none=>none
   |_=>none
  |_=>none
 |.wX x=>
  match ρ x with
  |.str s=>some (.ptr h.length 0,h++[.iter s 0])
  |_=>none
 |.nV x=>
  match ρ x with
  |.ptr b 0=>
   match h[b]? with
   |some (.iter s pos)=>
    if pos<s.length then
     let d:=Utf8.decode ⟨⟨s⟩⟩ pos
     some (.dN [.bool true,.int .i64 pos,.int .i32 d.1],h.set b (.iter s (pos+d.2)))
    else some (.dN [.bool false],h)
   |_=>none
  |_=>none
 |.ext x i=>
  match ρ x with
  |.dN l=>
   match l[i]? with
   |some v=>some (v,h)
   |none=>none
  |_=>none
 |.len lk x=>
  match zN lk h (ρ x)with
  |some n=>some (.int .i64 n,h)
  |none=>none
 |.zM n=>some (.int .i64 n,h)
 |.wI es x y=>
  match ρ x,cellsIn es h (ρ y)with
  |.slice b o n es',some (ys,k)=>
   if es' =es then
    if min k n=0 then some (.int .i64 0,h)
    else
     match h[b]? with
     |some (.cells c true tl)=>if o+min k n*es<=c.length then some (.int .i64 (min k n:Nat),h.set b (.cells (fN c o (ys.take (min k n*es))) true tl))else none
     |_=>none
   else none
  |.af,some _=>some (.int .i64 0,h)
  |_,_=>none
 |.mx x l=>
  match iC pX (ρ x) (l.map ρ)with
  |some v=>some (v,h)
  |none=>none
 |.mn x l=>
  match iC pW (ρ x) (l.map ρ)with
  |some v=>some (v,h)
  |none=>none
 |_=>none
inductive wE (es w:Nat) (s y:AV) (h:ah):AV->ah->Prop
 |none (hy:cellsIn es h y=some ([],0)) (hs:s=.af\/∃b o n,s=.slice b o n es):wE es w s y h s h
 |new (ys:List AV) (k:Nat) (mu:Bool) (hy:cellsIn es h y=some (ys,k)) (hk:0<k) (hb:k*w<=2^46) (hs:s=.af):
   wE es w s y h (.slice h.length 0 k es) (h++[.cells ys mu true])
 |on (ys:List AV) (k b o n:Nat) (c:List AV) (mu:Bool) (hy:cellsIn es h y=some (ys,k)) (hk:0<k) (hb:(n+k)*w<=2^46) (hs:s=.slice b o n es)
   (hc:h[b]? =some (.cells c mu true)) (hl:o+n*es=c.length):
   wE es w s y h (.slice h.length 0 (n+k) es) (h.set b (.cells c false false)++[.cells (c.drop o++ys) false true])
 |over (ys:List AV) (k b o n:Nat) (c:List AV) (mu:Bool) (hy:cellsIn es h y=some (ys,k)) (hk:0<k) (hb:(n+k)*w<=2^46) (hs:s=.slice b o n es)
   (hc:h[b]? =some (.cells c true true)) (hl:o+n*es<=c.length):
   wE es w s y h (.slice h.length 0 (n+k) es) (h.set b .dead++[.cells ((c.drop o).take (n*es)++ys) mu true])
 |full (ys:List AV) (k b o n:Nat) (c:List AV) (hy:cellsIn es h y=some (ys,k)) (hk:0<k) (hb:(n+k)*w<=2^46) (hs:s=.slice b o n es)
   (hc:h[b]? =some (.cells c true false)) (hl:o+n*es=c.length):
   wE es w s y h (.slice h.length 0 (n+k) es) (h++[.cells (c.drop o++ys) true true])
def wrap64{n}(h0:-9223372036854775808<=n)(h1:n<9223372036854775808):IntKind.i64.wrap n=n:=by
 show(if(true&&decide (n%(18446744073709551616:Int)>=(9223372036854775808:Int)))=true then n%(18446744073709551616:Int)-18446744073709551616 else n%(18446744073709551616:Int))=n;simp only[Zw,YG];split<;>omega
def GF{n}(h0:0<=n)(h1:n<256):IntKind.u8.wrap n=n:=by
 show(if(false&&decide (n%(256:Int)>=(128:Int)))=true then n%(256:Int)-256 else n%(256:Int))=n;exact z196
def yk{n}(h0:0<=n)(h1:n<18446744073709551616):IntKind.u64.wrap n=n:=by
 show(if(false&&decide (n%(18446744073709551616:Int)>=(9223372036854775808:Int)))=true then n%(18446744073709551616:Int)-18446744073709551616 else n%(18446744073709551616:Int))=n;exact z196
def eU(P:Program)(m:cp)(h:ah)(w:World)(v:AV)(h':ah)(r:Result Next):Prop:=
 ∃cv w' m',(r=.ok (.value cv) w'\/(r=.ok .skip w'/\cv=undef))/\VR m' v cv/\HR P m' h' w'/\Grow m h w m' h' w'
def eU.same{P m h w v cv r}(hr:HR P m h w)(hv:VR m v cv)(e:r=.ok (.value cv) w):eU P m h w v h r:=
 ⟨cv,w,m,.inl e,hv,hr,Grow.refl m h w hr.cN⟩
def jR(m:cp):VR m az undef:=⟨[],rfl,rfl⟩
theorem vA(m:cp)(n:Nat)(ih:∀v a,mE n v=some a->VR m a v):∀(l:List Value) (r:List AV),l.mapM (mE n)=some r->cL m r l
 |[],r,h=>by simp at h;subst h;exact bD.2 rfl
 |v::l,r,h=>by
  simp only[aaj,Z3,aar]at h;cases hv:mE n v with
  |none=>simp[hv]at h
  |some a=>
   cases hl:l.mapM (mE n)with
   |none=>simp[hv,hl]at h
   |some r'=>
    simp[hv,hl]at h;subst h;exact aS.2 ⟨v,l,rfl,ih v a hv,vA m n ih l r' hl⟩
def qG(m:cp):∀(n:Nat) (v:Value) (a:AV),mE n v=some a->VR m a v
 | 0,v,a,h=>by simp[mE]at h
 |n+1,v,a,h=>by
  unfold mE at h;split at h
  ·cases h;rfl
  ·cases h;rfl
  ·cases h;exact⟨_,rfl,.inl rfl⟩
  ·cases h;exact⟨_,_,rfl,.inl rfl,.inl rfl⟩
  ·cases h;rfl
  ·cases h;rfl
  ·cases h;rfl
  ·cases h;rfl
  ·cases h;rfl
  ·exact PH
  ·exact PH
  ·cases h
def cw{P}{t:TypeId}{n}(h:dW P t=some n)(w:World):(sizeOf t).run P w=.ok n w:=by
 unfold dW at h;cases hi:P.info? t with
 |none=>simp[hi]at h
 |some i=>simp[hi]at h;subst h;simp[sizeOf,typeInfo,hi]
def lZ{P}{t:TypeId}{d:TypeDesc}(h:P.underlying t=some d)(w:World):(isAgg t).run P w=.ok (jM d) w:=by
 cases d<;>simp[isAgg,Yg h,jM]
def vv{P}{t:TypeId}{n}(h:AL P t=some (some n))(w:World):(isAgg t).run P w=.ok true w/\dW P t=some n:=by
 unfold AL at h;split at h
 case h_2=>cases h
 rename_i d hu;split at h
 case isFalse=>simp at h
 rename_i hd;refine⟨by rw[lZ hu,hd],?_⟩;cases hi:P.info? t with
 |none=>simp[hi]at h
 |some i=>simp[hi]at h;simp[dW,hi,h]
def vw{P}{t:TypeId}(h:AL P t=some none)(w:World):(isAgg t).run P w=.ok false w:=by
 unfold AL at h;split at h
 case h_2=>cases h
 rename_i d hu;split at h
 case isTrue=>cases hi:P.info? t<;>simp[hi]at h
 rename_i hd;rw[lZ hu];simp at hd;rw[hd]
def jQ{P}{t:TypeId}{z}(h:jy P t=some z)(w:World)(m:cp):∃cz,(zeroValue t).run P w=.ok cz w/\VR m z cz:=by
 unfold jy at h;cases hi:P.info? t with
 |none=>simp[hi]at h
 |some i=>
  cases hz:i.zero with
  |none=>simp[hi,hz]at h
  |some cz=>
   simp[hi,hz]at h;exact⟨cz,by simp[zeroValue,typeInfo,hi,hz],qG m 4 cz z h⟩
section
variable {P:Program}{m:cp}{h h':ah}{w:World}{v:AV}{ρ:c6->AV}{hr:HR P m h w}
def tf(hr:HR P m h w){x cx}(hx:VR m x cx)(h1:x.cells.all AV.one=true)(t:TypeId)(mu tl:Bool):
  ∃m',(newVar t cx).run P w=.ok ⟨w.heap.size,0,none⟩ (w.alloc (.cells cx.cells t))/\VR m' (.ptr h.length 0) (.pointer (some ⟨w.heap.size,0,none⟩))/\
   HR P m' (h++[.cells x.cells mu tl]) (w.alloc (.cells cx.cells t))/\Grow m h w m' (h++[.cells x.cells mu tl]) (w.alloc (.cells cx.cells t)):=by
 obtain⟨m',h0,h2,h3⟩:=lO hr hx.cells h1 t mu tl;refine⟨m',by simp[newVar,newRow],⟨_,h0,rfl⟩,h2,h3⟩
def Bz{t:TypeId}{n a ca}(hn:AL P t=some n)(hr:HR P m h w)(ha:VR m (ρ a) ca)(hf:dA (.load n a) ρ h=some (v,h')):
  ∃cv,(Instr.loadAt t ca).run P w=.ok cv w/\VR m v cv/\h' =h:=by
 simp only[dA]at hf;split at hf
 case h_2=>cases hf
 rename_i b o hρ;rw[hρ]at ha;obtain⟨e,he,rfl⟩:=ha;split at hf
 case h_2=>cases hf
 rename_i c mu tl hb;cases n with
 |none=>
  simp only at hf;split at hf
  case h_2=>cases hf
  rename_i x hx;cases hf;obtain⟨_,cv,SQ,QT⟩:=cell_of hr he hb hx;exact⟨cv,by simp[Instr.loadAt,Instr.sureAddr,loadVar,vw hn,SQ],QT,rfl⟩
 |some n=>
  simp only at hf;split at hf
  case isFalse=>cases hf
  rename_i hle;cases hf;obtain⟨hagg,eC⟩:=vv hn w;obtain⟨vs,QU,RJ,_⟩:=na hr he hb o n hle;exact⟨.agg ⟨vs⟩,by simp[Instr.loadAt,Instr.sureAddr,loadVar,hagg,cw eC,QU],⟨vs,rfl,RJ⟩,rfl⟩
def Dz{t:TypeId}{n a x ca cx}(hn:dW P t=some n)(hr:HR P m h w)(ha:VR m (ρ a) ca)(hx:VR m (ρ x) cx)(hf:dA (.store n a x) ρ h=some (v,h')):
  ∃w',(Instr.storeAt t ca cx).run P w=.ok () w'/\v=az/\HR P m h' w'/\Grow m h w m h' w':=by
 simp only[dA]at hf;split at hf
 case h_2=>cases hf
 rename_i b o hρ;rw[hρ]at ha;obtain⟨e,he,rfl⟩:=ha;split at hf
 case h_2=>cases hf
 rename_i c tl hb;split at hf
 case isFalse=>cases hf
 rename_i hc;cases hf;obtain⟨h1,h2,h3⟩:=hc;have hcl:=hx.cells;obtain⟨w',QU,hr',Re⟩:=pg (ρ x).cells cx.cells.toList hr he hb o 0 Om h2 hcl;have hlen:cx.cells.size=n:=by have:=hcl.length;simp at this;omega
 refine⟨w',?_,rfl,hr',Re⟩;simp only[Instr.storeAt,Instr.sureAddr,storeVar,Yh,Yy,X7,cw hn];simp[hlen,QU]
def uW(c:List Value)(o:Nat):List Value->List Value
 |[]=>c
 |x::xs=>uW (c.set o x) (o+1) xs
theorem sU{m}:∀{xs}{vs},cL m xs vs->∀{c}{cv}(o:Nat),cL m c cv->cL m (fN c o xs) (uW cv o vs)
 |[],vs,hx,c,cv,o,hc=>by rw[bD]at hx;subst hx;exact hc
 |x::xs,vs,hx,c,cv,o,hc=>by
  obtain⟨v,vs',rfl,hv,RJ⟩:=aS.1 hx;exact sU RJ (o+1) (hc.set o hv)
theorem tz(off:Nat):∀(xs:List Value) (k:Nat) (cs:Array Value),(List.foldl (λcs (p:Value×Nat)=>cs.setIfInBounds (off+p.2) p.1) cs (xs.zipIdx k)).toList=uW cs.toList (off+k) xs
 |[],k,cs=>rfl
 |x::xs,k,cs=>by
  simp only[List.zipIdx_cons,aas,uW];rw[tz off xs (k+1)];simp[Nat.add_assoc]
theorem qC{m}(place:Nat->Option (Nat×Nat)):∀(ps:List (Nat×Value)) (qs:List (Nat×Nat×AV)) (c:List AV) (cc:Array Value) (c':List AV),
  ps.length=qs.length->(∀(i:Nat) p q,ps[i]? =some p->qs[i]? =some q->place p.1=some (q.1,q.2.1)/\VR m q.2.2 p.2)->cL m c cc.toList->eM c qs=some c'->
  ∃Rv,Instr.fill place cc ps=some Rv/\cL m c' Rv.toList
 |[],[],c,cc,c',_,_,hc,hf=>by simp[eM]at hf;subst hf;exact⟨cc,rfl,hc⟩
 |[],q::qs,c,cc,c',hl,_,_,_=>by simp at hl
 |p::ps,[],c,cc,c',hl,_,_,_=>by simp at hl
 |(i,x)::ps,(off,n,y)::qs,c,cc,c',hl,hp,hc,hf=>by
  obtain⟨TW,hxy⟩:=hp 0 (i,x) (off,n,y) Si Si;simp only at TW hxy;simp only[eM]at hf;split at hf
  case isFalse=>cases hf
  rename_i Q9;obtain⟨hlen,hle⟩:=Q9;have hcells:=hxy.cells;have eC:x.cells.size=n:=by have:=hcells.length;simp at this;omega
  have Ti:cc.size=c.length:=by have:=hc.length;simpa using this
  have hfold:(x.cells.zipIdx.foldl (λcs (p:Value×Nat)=>cs.setIfInBounds (off+p.2) p.1) cc).toList=uW cc.toList off x.cells.toList:=by
   rw[<-Array.foldl_toList];have:=tz off x.cells.toList 0 cc
   simpa using this
  obtain⟨Rv,h1,h2⟩:=qC place ps qs (fN c off y.cells) (x.cells.zipIdx.foldl (λcs (p:Value×Nat)=>cs.setIfInBounds (off+p.2) p.1) cc) c' (by simpa using hl)
   (λj p q hj hq=>hp (j+1) p q (by simpa using hj) (by simpa using hq)) (by rw[hfold];exact sU hcells off hc) hf
  refine⟨Rv,?_,h2⟩;simp only[Instr.fill,TW];rw[X5 (by simp;omega)];exact h1
theorem qj{P}{t:TypeId}:∀{ps}{l},my P t ps=some l->ps.length=l.length/\
  ∀(i:Nat) p q,ps[i]? =some p->l[i]? =some q->jB P t p.1=some (q.1,q.2.1)/\cX p.2=some q.2.2
 |[],l,h=>by simp[my]at h;subst h;exact⟨rfl,λi p q hp=>by simp at hp⟩
 |(i,x)::ps,l,h=>by
  simp only[my]at h;split at h
  case h_2=>cases h
  rename_i off n y r h1 h2 h3;cases h;obtain⟨hl,hp⟩:=qj h3;refine⟨by simp[hl],λj p q hj hq=>?_⟩;cases j with
  |zero=>simp at hj hq;subst hj;subst hq;exact⟨h1,h2⟩
  |succ j=>exact hp j p q (by simpa using hj) (by simpa using hq)
def CA{t:TypeId}{z:AV}{ps:List (Nat×Value)}{cz:Value}{Rv:Array Value}(hz:(P.info? t).bind (·.zero)=some cz)(hp:nT P t=true)(hf:Instr.fill (jB P t) cz.cells ps=some Rv):
  P.built t ps=some Rv:=by
 unfold Program.built;cases hi:P.info? t with
 |none=>simp[hi]at hz
 |some it=>
  simp[hi]at hz;unfold nT at hp;split at hp
  ·rename_i fs hu;obtain⟨places,hpls⟩:=Option.isSome_iff_exists.1 hp;have TW:jB P t=λi=>places[i]? :=by
    funext i;simp only[jB,hu,hpls]
   rw[TW]at hf;simp only[hu,hz,hpls]
   simpa using hf
  ·rename_i n e hu;obtain⟨ie,hie⟩:=Option.isSome_iff_exists.1 hp;have TW:jB P t=λi=>some (i*ie.size,ie.size):=by
    funext i;simp only[jB,hu,hie];rfl
   rw[TW]at hf;simp only[hu,hz,hie];exact hf
  ·cases hp
def DC{t:TypeId}{z:AV}{ps:Array (Nat×Operand)}{l:List (Nat×Nat×c6)}{σ:Operand->Value}(hz:jy P t=some z)(hl:my P t ps.toList=some l)(hp:nT P t=true)
  (hρ:∀p∈ps.toList,∀y,cX p.2=some y->VR m (ρ y) (σ p.2)) (hf:dA (.build z.cells l) ρ h=some (v,h')):
  ∃cv,(Instr.build t (ps.map λ(i,x)=>(i,σ x))).run P w=.ok cv w/\VR m v cv/\h' =h:=by
 simp only[dA]at hf;split at hf
 case h_2=>cases hf
 rename_i c hc;cases hf;obtain⟨hlen,hpq⟩:=qj hl;have Xh:∃cz,(P.info? t).bind (·.zero)=some cz/\VR m z cz:=by
  unfold jy at hz;cases hi:P.info? t with
  |none=>simp[hi]at hz
  |some i=>
   cases hzz:i.zero with
   |none=>simp[hi,hzz]at hz
   |some cz=>simp[hi,hzz]at hz;exact⟨cz,by simp[hzz],qG m 4 cz z hz⟩
 obtain⟨cz,TB,Ua⟩:=Xh;obtain⟨Rv,R5,RJ⟩:=qC (m:=m) (jB P t) (ps.toList.map λp=>(p.1,σ p.2)) (l.map λp=>(p.1,p.2.1,ρ p.2.2)) z.cells cz.cells c (by simp[hlen])
  (λi p q Wf hq=>by
   simp only[Zp,Yj]at Wf hq;obtain⟨p0,hp0,rfl⟩:=Wf;obtain⟨q0,hq0,rfl⟩:=hq;obtain⟨h1,h2⟩:=hpq i p0 q0 hp0 hq0;exact⟨h1,hρ p0 (YO hp0) _ h2⟩) Ua.cells hc
 refine⟨.agg Rv,run_build w t _ Rv ?_,⟨Rv.toList,rfl,RJ⟩,rfl⟩;have:=CA (z:=z) TB hp R5
 simpa using this
def Bx{t:TypeId}{n off l l'}(hn:AL P t=some n)(hl:cL m l l')
  (hf:(match n with|none=>(match l[off]? with|some v=>some (v,h)|none=>none)|some n=>some (.agg ((l.drop off).take n),h))=some (v,h')):
  ∃cv,(part t ⟨l'⟩ off).run P w=.ok cv w/\VR m v cv/\h' =h:=by
 cases n with
 |none=>
  simp only at hf;split at hf
  case h_2=>cases hf
  rename_i x hx;cases hf;obtain⟨cv,SQ,QT⟩:=hl.get hx;exact⟨cv,by simp[part,vw hn,SQ],QT,rfl⟩
 |some n=>
  cases hf;obtain⟨h1,h2⟩:=vv hn w;refine⟨.agg ⟨(l'.drop off).take n⟩,?_,⟨_,rfl,(hl.drop off).take n⟩,rfl⟩;simp only[part,Yh,h1,X7,Yf,cw h2,Yy];simp[List.extract_eq_take_drop]
end
section
variable {P:Program}{m:cp}{h h':ah}{w:World}
def wW{op k a b v}(hs:eT op=false)(hf:fO op k a b=some v)(t:TypeId):
  ∃cv,(binOp op t (.int k a) (.int k b)).run P w=.ok cv w/\VR m v cv:=by
 cases op<;>simp only[fO,eT]at hf hs<;>first
  |(cases hs;done)
  |(cases hf;done)
  |skip
 all_goals first
  |(cases hf;exact⟨_,by simp[binOp,Op.intArith,Op.intBits,Op.intCmp],rfl⟩)
  |(split at hf
    ·cases hf
    ·rename_i hb;cases hf;exact⟨_,by simp[binOp,Op.intDiv,hb],rfl⟩)
def wT{op k k' a b v}(hs:eT op=true)(hf:wR op k a b=some v)(t:TypeId):
  ∃cv,(binOp op t (.int k a) (.int k' b)).run P w=.ok cv w/\VR m v cv:=by
 unfold wR at hf;split at hf
 ·cases hf
 ·rename_i hb;cases op<;>first
   |(cases hs;done)
   |(cases hf;exact⟨_,by simp[binOp,Op.shift,hb],rfl⟩)
def toList_mk(l:By):(⟨⟨l⟩⟩:ByteArray).toList=l:=by rw[ByteArray.toList_eq]
def At(a b:By):(⟨⟨a⟩⟩:ByteArray)++⟨⟨b⟩⟩=⟨⟨a++b⟩⟩:=by
 apply ByteArray.ext
 rw[ByteArray.data_append];simp
def wS{op a b v}(hf:qT op a b=some v)(t:TypeId):
  ∃cv,(binOp op t (.string ⟨⟨a⟩⟩) (.string ⟨⟨b⟩⟩)).run P w=.ok cv w/\VR m v cv:=by
 cases op<;>simp only[qT]at hf<;>first
  |(cases hf;done)
  |skip
 all_goals first
  |(cases hf;exact⟨_,by simp[binOp,Op.stringOp,toList_mk],rfl⟩)
  |(split at hf
    ·rename_i hlen;cases hf;refine⟨.string ⟨⟨a++b⟩⟩,?_,rfl⟩;have hn:¬(IntKind.i64.max<(((⟨⟨a⟩⟩:ByteArray).size+(⟨⟨b⟩⟩:ByteArray).size:Nat):Int)):=by
      show ¬((9223372036854775807:Int)<((a.length+b.length:Nat):Int));omega
     simp only[binOp,Op.stringOp,GT.gt,X5 hn,At,Yy]
    ·cases hf)
def DD{op x v cx}(hx:VR m x cx)(hf:wL op x=some v):∃cv,(Op.unary op cx).run P w=.ok cv w/\VR m v cv:=by
 cases x with
 |int k n=>
  rw[VR]at hx;subst hx;cases op with
  |neg=>simp only[wL,Yq]at hf;subst hf;exact⟨_,rfl,rfl⟩
  |xor=>simp only[wL,fO,Yq]at hf;subst hf;exact⟨_,rfl,rfl⟩
  |not=>simp[wL]at hf
  |plus=>simp[wL]at hf
 |bool b=>
  rw[VR]at hx;subst hx;cases op<;>simp only[wL]at hf<;>first
   |(cases hf;done)
   |(cases hf;exact⟨_,by simp[Op.unary],rfl⟩)
 |_=>cases op<;>simp[wL]at hf
def q8{t:TypeId}{k}(ht:match k with|.b=>P.underlying t=some .bool|.i=>∃k,P.underlying t=some (.int k)|.s=>P.underlying t=some .string)
  {x y}{cx cy}{b}(hx:VR m x cx) (hy:VR m y cy) (hf:dx k x y=some b) (d:Nat):(Op.equalIn (d+1) t cx cy).run P w=.ok b w:=by
 unfold dx at hf;split at hf
 ·rw[VR]at hx hy;subst hx;subst hy;cases hf;exact run_equalIn_bool' w d t _ _ ht
 ·split at hf
  ·rename_i hk;rw[VR]at hx hy;subst hx;subst hy;subst hk;cases hf;obtain⟨k',hu⟩:=ht;exact run_equalIn_int w d t _ k' _ _ hu
  ·cases hf
 ·rw[VR]at hx hy;subst hx;subst hy;cases hf;rw[run_equalIn_string w d t _ _ ht,toList_mk,toList_mk]
 ·cases hf
theorem js:∀(ks ks':List CK) (xs ys xs' ys':List AV) (b:Bool),xs.length=ks.length->ys.length=ks.length->dG (ks++ks') (xs++xs') (ys++ys')=some b->
  (∃c,dG ks xs ys=some c/\((c=true/\dG ks' xs' ys' =some b)\/(c=false/\b=false)))
 |[],ks',[],[],xs',ys',b,_,_,h=>⟨true,rfl,.inl ⟨rfl,h⟩⟩
 |k::ks,ks',x::xs,y::ys,xs',ys',b,hx,hy,h=>by
  simp only[Zg,dG]at h ⊢;cases hc:dx k x y with
  |none=>simp[hc]at h
  |some c=>
   cases c with
   |false=>simp[hc]at h;subst h;exact⟨false,Si,.inr ⟨rfl,rfl⟩⟩
   |true=>
    simp only[hc]at h;obtain⟨c,h1,h2⟩:=js ks ks' xs ys xs' ys' b (by simpa using hx) (by simpa using hy) h;exact⟨c,by simpa using h1,h2⟩
 |[],_,_::_,_,_,_,_,h,_,_=>by simp at h
 |[],_,_,_::_,_,_,_,_,h,_=>by simp at h
 |_::_,_,[],_,_,_,_,h,_,_=>by simp at h
 |_::_,_,_,[],_,_,_,_,h,_=>by simp at h
def iT(d:TypeDesc)(l:List Value):Value:=if jM d then .agg ⟨l⟩else l.headD default
def nQ{t:TypeId}{d:TypeDesc}{n}(hd:P.underlying t=some d)(hn:dW P t=some n)(h1:jM d=false->n=1){l off}(hl:off+n<=l.length):
  (part t ⟨l⟩ off).run P w=.ok (iT d ((l.drop off).take n)) w:=by
 unfold iT;cases ha:jM d with
 |true=>
  simp only[part,Yh,lZ hd,ha,X7,Yf,cw hn,Yy];simp[List.extract_eq_take_drop]
 |false=>
  have:=h1 ha;subst this;have hlt:off<l.length:=Om
  simp only[part,Yh,lZ hd,ha,X7];have e:(l.drop off).take 1=[l[off]]:=by
   rw[ZV hlt,ZO,List.take_zero]
  simp[e,hlt]
def tA{d}{t:TypeId}{ks}(hf:flat P d t=some ks):∃ds,P.underlying t=some ds/\(jM ds=false->ks.length=1):=by
 cases d with
 |zero=>simp[flat]at hf
 |succ d=>
  unfold flat at hf;split at hf
  ·exact GC
  ·exact GC
  ·exact GC
  ·rename_i hu;exact⟨_,hu,λh=>by cases h⟩
  ·rename_i hu;exact⟨_,hu,λh=>by cases h⟩
  ·cases hf
def qc{t:TypeId}{fs}(hu:P.underlying t=some (.struct fs)):P.fieldsOf t=fs:=by simp[Program.fieldsOf,hu]
def BB:∀(d:Nat) (t:TypeId) (ks:List CK),flat P d t=some ks->∀(D:Nat),d<=D->∀(ds:TypeDesc),P.underlying t=some ds->
  ∀(xs ys:List AV) (vx vy:List Value) (b:Bool),xs.length=ks.length->ys.length=ks.length->cL m xs vx->cL m ys vy->dG ks xs ys=some b->
  ∀w:World,(Op.equalIn D t (iT ds vx) (iT ds vy)).run P w=.ok b w:=by
 intro d
 induction d with
 |zero=>intro t ks hf;simp[flat]at hf
 |succ d ih=>
  intro t ks hf D hD ds Uf xs ys vx vy b TN TM hx hy he w;obtain⟨D,rfl⟩:∃D',D=D'+1:=⟨D-1,Om⟩;have hone:∀{k:CK},ks=[k]->jM ds=false->(match k with|.b=>P.underlying t=some .bool|.i=>∃k,P.underlying t=some (.int k)|.s=>P.underlying t=some .string)->(Op.equalIn (D+1) t (iT ds vx) (iT ds vy)).run P w=.ok b w:=by
   intro k hk hd ht;subst hk
   match xs,ys,TN,TM with
   |[x],[y],_,_=>
    obtain⟨cx,_,rfl,VI,h2⟩:=aS.1 hx;obtain⟨cy,_,rfl,hcy,h3⟩:=aS.1 hy;rw[bD]at h2 h3;subst h2;subst h3;simp only[dG]at he;have RO:dx k x y=some b:=by
     cases hc:dx k x y with
     |none=>simp[hc]at he
     |some c=>cases c<;>simp[hc]at he<;>simp[he]
    simp only[iT,hd,List.headD_cons,YK,Yb];exact q8 ht VI hcy RO D
  unfold flat at hf;split at hf
  ·exact Jo
  ·rename_i hu;rw[hu]at Uf;cases Uf;cases hf;exact hone rfl rfl ⟨_,hu⟩
  ·exact Jo
  ·rename_i fs hu;rw[hu]at Uf;cases Uf;split at hf
   case isFalse=>cases hf
   rename_i bW;simp only[iT,jM,Yf];rw[run_equalIn_struct w D t ⟨vx⟩ ⟨vy⟩ (by rw[qc hu];exact hu) bW,qc hu];have key:∀(fl:List Field) (off:Nat) (ks:List CK) (xs ys:List AV) (b:Bool),wb P (flat P d) fl off=some ks->xs.length=ks.length->ys.length=ks.length->
     cL m xs (vx.drop off)->cL m ys (vy.drop off)->dG ks xs ys=some b->(Op.eqFields D ⟨vx⟩ ⟨vy⟩ fl).run P w=.ok b w:=by
    intro fl
    induction fl with
    |nil=>
     intro off ks xs ys b Rn TN TM hx hy he;simp only[wb,Yq]at Rn;subst Rn
     match xs,ys,TN,TM with
     |[],[],_,_=>cases he;rfl
    |cons f fl ihf=>
     intro off ks xs ys b Rn TN TM hx hy he;simp only[wb]at Rn;split at Rn
     case h_2=>cases Rn
     rename_i k1 i hk1 hi;split at Rn
     case isFalse=>cases Rn
     rename_i Q9;obtain⟨hname,hoff,eC,hpos⟩:=Q9;split at Rn
     case h_2=>cases Rn
     rename_i k2 QS;cases Rn;subst hoff;obtain⟨ds',Tz,h1'⟩:=tA hk1;have Ry:dW P f.type=some k1.length:=by simp[dW,hi,eC]
     have Xw:xs=xs.take k1.length++xs.drop k1.length:=(Zl _ _).symm;have Xv:ys=ys.take k1.length++ys.drop k1.length:=(Zl _ _).symm;simp only[XS]at TN TM;rw[Xw,Xv]at he;obtain⟨c,hc1,XM⟩:=js k1 k2 _ _ _ _ b (by simp;omega) (by simp;omega) he;have TT:f.offset+k1.length<=vx.length:=by have:=hx.length;simp at this;omega
     have hvy:f.offset+k1.length<=vy.length:=by have:=hy.length;simp at this;omega
     simp only[Op.eqFields,X9 hname,Yh,nQ Tz Ry (λh=>h1' h) TT,nQ Tz Ry (λh=>h1' h) hvy,X7];rw[ih f.type k1 hk1 D Om ds' Tz _ _ _ _ c (by simp;omega) (by simp;omega) (hx.take k1.length) (hy.take k1.length) hc1 w];rcases XM with⟨rfl,hr⟩|⟨rfl,rfl⟩
     ·simp only[X7,Yk,YK,Yb];exact ihf (f.offset+k1.length) k2 _ _ b QS (by simp;omega) (by simp;omega) (by have:=hx.drop k1.length;rwa [Zu]at this) (by have:=hy.drop k1.length;rwa [Zu]at this) hr
     ·simp
   exact key fs.toList 0 ks xs ys b hf TN TM (by simpa using hx) (by simpa using hy) he
  ·rename_i len e hu;rw[hu]at Uf;cases Uf;split at hf
   case h_2=>cases hf
   rename_i k1 i hk1 hi;split at hf
   case isFalse=>cases hf
   rename_i Q9;obtain⟨eC,hpos⟩:=Q9;cases hf;obtain⟨ds',Tz,h1'⟩:=tA hk1;have Ry:dW P e=some k1.length:=by simp[dW,hi,eC]
   simp only[iT,jM,Yf];have key:∀(n j:Nat) (xs ys:List AV) (b:Bool),j+n=len->xs.length=(List.replicate n k1).flatten.length->ys.length=(List.replicate n k1).flatten.length->
     cL m xs (vx.drop (j*k1.length))->cL m ys (vy.drop (j*k1.length))->dG (List.replicate n k1).flatten xs ys=some b->
     (forIn (m:=Sem) (List.range' j n) ((none,()):Option Bool×Unit) λ(i:Nat) (_:Option Bool×Unit)=>do
      let a <-part e ⟨vx⟩ (i*k1.length)
      let c <-part e ⟨vy⟩ (i*k1.length)
      let r <-Op.equalIn D e a c
      if(!r)=true then pure (ForInStep.done (some false,()))else pure (ForInStep.yield (none,()))).run P w=.ok (if b then(none,())else(some false,())) w:=by
    intro n
    induction n with
    |zero=>
     intro j xs ys b _ TN TM _ _ he;simp only[aal,List.flatten_nil,X1]at TN TM he
     match xs,ys,TN,TM with
     |[],[],_,_=>cases he;rfl
    |succ n ihn=>
     intro j xs ys b hj TN TM hx hy he;simp only[Zx,Za,XS]at TN TM he;have Xw:xs=xs.take k1.length++xs.drop k1.length:=(Zl _ _).symm;have Xv:ys=ys.take k1.length++ys.drop k1.length:=(Zl _ _).symm;rw[Xw,Xv]at he;obtain⟨c,hc1,XM⟩:=js k1 _ _ _ _ _ b (by simp;omega) (by simp;omega) he;have TT:j*k1.length+k1.length<=vx.length:=by have:=hx.length;simp at this;omega
     have hvy:j*k1.length+k1.length<=vy.length:=by have:=hy.length;simp at this;omega
     simp only[List.range'_succ,List.forIn_cons,Yh,nQ Tz Ry (λh=>h1' h) TT,nQ Tz Ry (λh=>h1' h) hvy,X7];rw[ih e k1 hk1 D Om ds' Tz _ _ _ _ c (by simp;omega) (by simp;omega) (hx.take k1.length) (hy.take k1.length) hc1 w];rcases XM with⟨rfl,hr⟩|⟨rfl,rfl⟩
     ·simp only[X7,Yk,YK,Yb,Yy];exact ihn (j+1) _ _ b Om (by rw[Z9];omega) (by rw[Z9];omega) (by have:=hx.drop k1.length;rw[Zu]at this;rwa [Zf]) (by have:=hy.drop k1.length;rw[Zu]at this;rwa [Zf]) hr
     ·simp
   have hk:=key len 0 xs ys b Om TN TM (by simpa using hx) (by simpa using hy) he;simp only[Op.equalIn,Yh,Yg hu,X7,cw Ry,Std.Legacy.Range.forIn_eq_forIn_range',Std.Legacy.Range.size];simp only[Nat.sub_zero,Nat.add_one_sub_one,Nat.div_one];rw[hk];cases b<;>rfl
  ·cases hf
end
def oZ(m:cp)(ρ:c6->AV):Option c6->Option Value->Prop
 |none,none=>True
 |some x,some cx=>VR m (ρ x) cx
 |_,_=>False
section
variable {P:Program}{m:cp}{h h':ah}{w:World}{ρ:c6->AV}{v:AV}
def fx{t e:TypeId}{i:TypeInfo}(hs:dX P t=some (e,i)):P.underlying t=some (.slice e)/\P.info? e=some i:=by
 unfold dX at hs;split at hs
 ·rename_i e' hu;cases hi:P.info? e' with
  |none=>simp[hi]at hs
  |some i'=>simp[hi]at hs;obtain⟨rfl,rfl⟩:=hs;exact⟨hu,hi⟩
 ·cases hs
def jw(n:Nat)(z:List AV):(dP n z).length=n*z.length:=by simp[dP]
def sL{z:List AV}{cz:Array Value}(hz:cL m z cz.toList)(hpos:0<z.length)(n k:Nat)(hk:k<=n):
  cL m (dP k z) (((Array.range (n*cz.size)).map (cz[·% cz.size]!)).toList.take (k*z.length)):=by
 have eC:cz.size=z.length:=by have:=hz.length;simpa using this
 refine cL.gZ ?_ ?_
 ·rw[jw];simp[eC,ZN hk]
 ·intro i x hx;have hi:i<k*z.length:=by have:=(XT.1 hx).1;rw[jw]at this;exact this
  have hmod:i%z.length<z.length:=Nat.mod_lt _ hpos;have QY:(dP k z)[i]? =z[i%z.length]? :=by
   clear hx hk;unfold dP
   induction k generalizing i with
   |zero=>omega
   |succ k ih=>
    rw[Zx,Za];by_cases hlt:i<z.length
    ·rw[XW hlt,Nat.mod_eq_of_lt hlt]
    ·rw[X6 Om,ih (i-z.length) (by rw[Zf]at hi;omega) (Nat.mod_lt _ hpos)];congr 1;rw[<-Nat.mod_eq_sub_mod Om]
  rw[QY]at hx;obtain⟨y,hy,hr⟩:=hz.get hx;refine⟨y,?_,hr⟩;have hin:i<n*z.length:=YM hi (YZ _ hk);rw[ZY hi,Zm,Array.getElem?_map,Array.getElem?_range,eC,X9 hin];simp only[ZP,Yq];rw[getElem!_pos cz _ Om];have:=(XT.1 hy).2
  simpa using this
def AP{z}(hz:z.all AV.one=true)(n:Nat):(dP n z).all AV.one=true:=by
 rw[Yw]at hz ⊢;intro x hx;simp only[dP,List.mem_flatten,List.mem_replicate]at hx;obtain⟨l,⟨_,rfl⟩,hx⟩:=hx;exact hz x hx
def GS{t e:TypeId}{i:TypeInfo}{z:AV}{l c:c6}{cl cc:Value}(hs:dX P t=some (e,i))(hz:jy P e=some z)(hpos:0<i.size)(hzl:z.cells.length=i.size)(h1:z.cells.all AV.one=true)
  (hr:HR P m h w) (hl:VR m (ρ l) cl) (hc:VR m (ρ c) cc) (hf:dA (.si i.size i.bytes z.cells l c) ρ h=some (v,h')):
  ∃cv w' m',(Instr.makeSlice t cl cc).run P w=.ok cv w'/\VR m' v cv/\HR P m' h' w'/\Grow m h w m' h' w':=by
 obtain⟨hu,hi⟩:=fx hs;simp only[dA]at hf;split at hf
 case h_2=>cases hf
 rename_i kl l' kc c' hρl hρc;rw[hρl,VR]at hl;rw[hρc,VR]at hc;subst hl;subst hc;split at hf
 case isFalse=>cases hf
 rename_i Q9;obtain⟨h0,hlc,hb,hc63⟩:=Q9;cases hf;obtain⟨cz,TB,Ua⟩:=jQ hz w m;have hzc:=Ua.cells;obtain⟨n,rfl⟩:=Int.eq_ofNat_of_zero_le (Int.le_trans h0 hlc);obtain⟨k,rfl⟩:=Int.eq_ofNat_of_zero_le h0;have hkn:k<=n:=Om
 have hwl:IntKind.i64.wrap (k:Int)=k:=wrap64 Om Om;have hwc:IntKind.i64.wrap (n:Int)=n:=wrap64 Om Om;have eC:cz.cells.size=z.cells.length:=by have:=hzc.length;simpa using this
 let row:Array Value:=(Array.range (n*cz.cells.size)).map (cz.cells[·% cz.cells.size]!)
 have hrow:cL m (dP k z.cells) (row.toList.take (k*z.cells.length)):=sL hzc Om n k hkn;have hrs:row.size=n*i.size:=by simp[row,eC,hzl]
 let e':sK:=⟨w.heap.size,0,row.size,true⟩
 have Wp:=ka hr (.cells row e) (.cells (dP k z.cells) true true) e' rfl rfl (λm' hm=>by
  refine⟨row,e,(0,0),World.alloc_heap_new w _,⟨?_,?_,rfl⟩,?_,λ_=>⟨rfl,λi _=>by simp⟩,λ_=>⟨rfl,λx=>by cases x⟩⟩
  ·exact JL
  ·exact JL
  ·intro j x hx;obtain⟨y,hy,QT⟩:=hrow.get hx;have hj:j<k*z.cells.length:=by have:=(XT.1 hx).1;rw[jw]at this;exact this
   rw[ZY hj]at hy;refine⟨Yw.1 (AP h1 k) x (YO hx),y,?_,VR.mono hm _ _ QT⟩;show row[0+j]? =some y;rw[YJ,<-Zm];exact hy)
 refine⟨.slice (some ⟨w.heap.size,0,none⟩) k n,w.alloc (.cells row e),m.add h.length e',?_,⟨e',⟨w.heap.size,0,none⟩,n,by simp[cp.add],rfl,hkn,λ_=>rfl,?_⟩,Wp.1,Wp.2⟩
 ·have Q7:(sizeOf e).run P w=.ok i.size w:=cw (by simp[dW,hi]) w;have S3:¬((i.bytes:Int)*n > 2^48):=Om
  have UI:(typeInfo e).run P w=.ok i w:=by simp[typeInfo,hi]
  have Vb:¬((n:Int)<0):=Om
  have hk0:¬((k:Int)<0):=Om
  have hkn':¬((k:Int)> (n:Int)):=Om
  simp only[Instr.makeSlice,Yh,Yg hu,X7,asInt,asIntOf,Yy,UI,hwl,hwc,Vb,hk0,hkn',S3];simp only[Yp,Bool.or_self,YK,Yb,run_askRoom,X7,Q7,Int.toNat_natCast,Yh,Sem.run_ite,Yy,TB];by_cases Xh:n*i.size=0
  ·simp only[Xh,Yf,X7,newRow,run_newObj,Yh,Yy];have:row=#[]:=by apply Array.eq_empty_of_size_eq_zero;omega
   have e0:(Array.range 0).map (λx=>(#[] :Array Value)[x%(#[] :Array Value).size]!)=#[]:=Si
   rw[this,e0];rfl
  ·simp only[Xh,Yb,X7,newRow,run_newObj,Yh,Yy];have:row=(Array.range (n*i.size)).map (cz.cells[·% cz.cells.size]!):=by show(Array.range (n*cz.cells.size)).map _=_;rw[eC,hzl]
   rw[this];rfl
 ·show 0+0+n*i.size<=row.size;omega
def mz{lo hi}{n l u:Nat}(hb:iZ lo hi n=some (l,u)):l<=u/\u<=n/\Ho lo=some (l:Int)/\F4 n hi=some (u:Int):=by
 unfold iZ at hb;split at hb
 case h_2=>cases hb
 rename_i a b ha hb';split at hb
 case isFalse=>cases hb
 rename_i hc;obtain⟨h0,h1,h2⟩:=hc;simp only[Yq,aaf]at hb;obtain⟨rfl,rfl⟩:=hb;exact⟨Om,Om,by rw[ha];congr 1;omega,by rw[hb'];congr 1;omega⟩
def fV{lo hi T6 TJ}(hlo:oZ m ρ lo T6)
  (hhi:oZ m ρ hi TJ) {n l u}(hb:iZ (lo.map ρ) (hi.map ρ) n=some (l,u)) (isSlice:Bool) (cap:Nat) (hcap:n<=cap):
  (Instr.sliceBounds isSlice n cap T6 TJ none).run P w=.ok (l,u,cap) w:=by
 obtain⟨Vz,hun,h1,h2⟩:=mz hb;have hh:∀(x:c6) (cx:Value),VR m (ρ x) cx->F4 n (some (ρ x))=some (u:Int)->∃k,cx=.int k u:=by
  intro x cx hx hu;cases hρ:ρ x<;>simp[F4,hρ]at hu;subst hu;rw[hρ,VR]at hx;exact⟨_,hx⟩
 have hl:∀(x:c6) (cx:Value),VR m (ρ x) cx->Ho (some (ρ x))=some (l:Int)->∃k,cx=.int k l:=by
  intro x cx hx hu;cases hρ:ρ x<;>simp[Ho,hρ]at hu;subst hu;rw[hρ,VR]at hx;exact⟨_,hx⟩
 have hcu:(u:Int)<=cap:=Om
 have hlu':(l:Int)<=u:=Om
 have hbu:∀(k:IntKind) (code:BoundsCode) (w:World),(Instr.sliceBound (.int k u) cap code).run P w=.ok u w:=by
  intro k code w;simp[Instr.sliceBound,asIntOf,hcu]<;>omega
 have hbl:∀(k:IntKind) (code:BoundsCode) (w:World),(Instr.sliceBound (.int k l) u code).run P w=.ok l w:=by
  intro k code w;simp[Instr.sliceBound,asIntOf]<;>omega
 cases lo with
 |none=>
  cases T6 with
  |some _=>exact hlo.elim
  |none=>
   simp only[aae,Ho,Yq]at h1;cases hi with
   |none=>
    cases TJ with
    |some _=>exact hhi.elim
    |none=>
     simp only[aae,F4,Yq]at h2;have hn:u=n:=Om
     have VD:l=0:=Om
     subst hn;subst VD;simp[Instr.sliceBounds]
   |some y=>
    cases TJ with
    |none=>exact hhi.elim
    |some cy=>
     obtain⟨k,rfl⟩:=hh y cy hhi h2;have VD:l=0:=Om
     subst VD;simp[Instr.sliceBounds,hbu]
 |some x=>
  cases T6 with
  |none=>exact hlo.elim
  |some cx=>
   obtain⟨kx,rfl⟩:=hl x cx hlo h1;cases hi with
   |none=>
    cases TJ with
    |some _=>exact hhi.elim
    |none=>
     simp only[aae,F4,Yq]at h2;have hn:u=n:=Om
     subst hn;simp[Instr.sliceBounds,hbl]
   |some y=>
    cases TJ with
    |none=>exact hhi.elim
    |some cy=>
     obtain⟨k,rfl⟩:=hh y cy hhi h2;simp[Instr.sliceBounds,hbu,hbl]
def extract_mk(s:By)(l u:Nat):(⟨⟨s⟩⟩:ByteArray).extract l u=⟨⟨(s.drop l).take (u-l)⟩⟩:=by
 apply ByteArray.ext
 simp[ByteArray.data_extract,List.extract_eq_take_drop]
def M9{t:TypeId}{es x lo hi cx T6 TJ}{e:TypeId}(hu:P.underlying t=some (.slice e))(hes:dW P e=some es)
  (hx:VR m (ρ x) cx) (hlo:oZ m ρ lo T6)
  (hhi:oZ m ρ hi TJ) (hf:dA (.sl es x lo hi) ρ h=some (v,h')):
  ∃cv,(Instr.sliceAt t cx T6 TJ none).run P w=.ok cv w/\VR m v cv/\h' =h:=by
 simp only[dA]at hf;split at hf
 ·rename_i b o n es' hρ;rw[hρ]at hx;obtain⟨en,ca,cap,Rr,rfl,Rf,Ru,hroom⟩:=hx;split at hf
  case isFalse=>cases hf
  rename_i hees;subst hees;split at hf
  case h_2=>cases hf
  rename_i l u hb;cases hf;obtain⟨Vz,hun,_,_⟩:=mz hb;refine⟨.slice (some (if cap=l then ca else ca.add (l*es'))) (u-l) (cap-l),?_,⟨en,_,cap-l,Rr,rfl,Om,?_,?_⟩,rfl⟩
  ·simp only[Instr.sliceAt,Yh,Yg hu,X7,Instr.slice,fV hlo hhi hb true cap Rf,cw hes,Yy];by_cases hcl:cap=l<;>simp[hcl]
  ·intro hpos;rw[X5 Om,Ru Om,gO];simp only[Addr.mk.injEq,aav,and_true];omega
  ·have:cap=l+(cap-l):=Om
   rw[this,aad]at hroom;omega
 ·rename_i hρ;rw[hρ,VR]at hx;subst hx;split at hf
  case h_2=>cases hf
  rename_i p hb;obtain⟨l,u⟩:=p;cases hf;obtain⟨Vz,hun,_,_⟩:=mz hb;have VD:l=0:=Om
  have TL:u=0:=Om
  subst VD;subst TL;refine⟨.slice none 0 0,?_,rfl,rfl⟩;simp only[Instr.sliceAt,Yh,Yg hu,X7,Instr.slice,fV hlo hhi hb true 0 (X8 _),cw hes,Yy];simp
 ·cases hf
def Kf{t:TypeId}{x lo hi cx T6 TJ}(hu:P.underlying t=some .string)
  (hx:VR m (ρ x) cx) (hlo:oZ m ρ lo T6)
  (hhi:oZ m ρ hi TJ) (hf:dA (.pO x lo hi) ρ h=some (v,h')):
  ∃cv,(Instr.sliceAt t cx T6 TJ none).run P w=.ok cv w/\VR m v cv/\h' =h:=by
 simp only[dA]at hf;split at hf
 case h_2=>cases hf
 rename_i s hρ;rw[hρ,VR]at hx;subst hx;split at hf
 case h_2=>cases hf
 rename_i l u hb;cases hf;refine⟨.string ((⟨⟨s⟩⟩:ByteArray).extract l u),?_,by rw[extract_mk];rfl,rfl⟩;have hs:(⟨⟨s⟩⟩:ByteArray).size=s.length:=rfl;simp only[Instr.sliceAt,Yh,Yg hu,X7,Instr.slice];simp[hs,fV hlo hhi hb false s.length (X8 _)]
def Kg{t:TypeId}{k es x lo hi cx T6 TJ}{e:TypeId}(hu:P.underlying t=some (.array k e))(hes:dW P e=some es)(hr:HR P m h w)
  (hx:VR m (ρ x) cx) (hlo:oZ m ρ lo T6)
  (hhi:oZ m ρ hi TJ) (hf:dA (.Mx k es x lo hi) ρ h=some (v,h')):
  ∃cv,(Instr.sliceAt t cx T6 TJ none).run P w=.ok cv w/\VR m v cv/\h' =h:=by
 simp only[dA]at hf;split at hf
 case h_2=>cases hf
 rename_i b o hρ;rw[hρ]at hx;obtain⟨en,Rr,rfl⟩:=hx;split at hf
 case h_2=>cases hf
 rename_i c mu tl hbk;split at hf
 case isFalse=>cases hf
 rename_i hle;split at hf
 case h_2=>cases hf
 rename_i l u hb;cases hf;obtain⟨Vz,hun,_,_⟩:=mz hb;obtain⟨_,_,_,_,⟨_,eC⟩,_⟩:=hr.dU b en _ Rr hbk;refine⟨.slice (some (if k=l then⟨en.cb,o+en.d,none⟩else(⟨en.cb,o+en.d,none⟩:Addr).add (l*es))) (u-l) (k-l),?_,⟨en,_,k-l,Rr,rfl,Om,?_,?_⟩,rfl⟩
 ·simp only[Instr.sliceAt,Yh,Yg hu,X7,Instr.sureAddr,Yy,fV hlo hhi hb false k (X8 _),cw hes]
 ·intro hpos;rw[X5 Om,gO];simp only[Addr.mk.injEq,aav,and_true];omega
 ·have:k=l+(k-l):=Om
  rw[this,aad]at hle;omega
def qZ{a f n}(hn:dW P f.type=some n)(hpos:0<n):(fieldPlace a f).run P w=.ok (a.add f.offset) w:=by
 have:n≠0:=Om
 simp[fieldPlace,cw hn,this]
def GY{t:TypeId}{i n f x cx}(hfa:fieldAt P t i=some f)(hn:dW P f.type=some n)(hpos:0<n)(hx:VR m (ρ x) cx)(hf:dA (.aR f.offset x) ρ h=some (v,h')):
  ∃cv,(Instr.fieldAt t cx i).run P w=.ok cv w/\VR m v cv/\h' =h:=by
 unfold Abs.fieldAt at hfa;split at hfa
 case h_2=>cases hfa
 rename_i fs hu;simp only[dA]at hf;split at hf
 case h_2=>cases hf
 rename_i b o hρ;cases hf;rw[hρ]at hx;obtain⟨e,he,rfl⟩:=hx;refine⟨_,?_,⟨e,he,rfl⟩,rfl⟩;simp only[Instr.fieldAt,Yh,Yg hu,X7,hfa,Instr.sureAddr,Yy,qZ hn hpos,gO];rw[Nat.add_right_comm]
def GW{t e:TypeId}{es x i cx ci}(hu:P.underlying t=some (.slice e))(hes:dW P e=some es)(hx:VR m (ρ x) cx)(hi:VR m (ρ i) ci)(hf:dA (.bf es x i) ρ h=some (v,h')):
  ∃cv,(Instr.indexAt t cx ci).run P w=.ok cv w/\VR m v cv/\h' =h:=by
 simp only[dA]at hf;split at hf
 case h_2=>cases hf
 rename_i b o n es' k j RI Tn;rw[RI]at hx;rw[Tn,VR]at hi;subst hi;obtain⟨en,ca,cap,Rr,rfl,Rf,Ru,hroom⟩:=hx;split at hf
 case isFalse=>cases hf
 rename_i hc;obtain⟨rfl,h0,h1⟩:=hc;cases hf;refine⟨_,?_,⟨en,Rr,rfl⟩,rfl⟩;simp only[Instr.indexAt,asIntOf,Yh,Yy,X7,Yg hu];rw[X9 ⟨h0,h1⟩];simp only[Yh,cw hes,X7,Yy,Ru Om,gO];rw[Nat.add_right_comm]
def GX{t e:TypeId}{len es x i cx ci}(hu:P.underlying t=some (.array len e))(hes:dW P e=some es)(hx:VR m (ρ x) cx)(hi:VR m (ρ i) ci)(hf:dA (.iX len es x i) ρ h=some (v,h')):
  ∃cv,(Instr.indexAt t cx ci).run P w=.ok cv w/\VR m v cv/\h' =h:=by
 simp only[dA]at hf;split at hf
 case h_2=>cases hf
 rename_i b o k j RI Tn;rw[RI]at hx;rw[Tn,VR]at hi;subst hi;obtain⟨en,Rr,rfl⟩:=hx;split at hf
 case isFalse=>cases hf
 rename_i hc;obtain⟨h0,h1⟩:=hc;cases hf;refine⟨_,?_,⟨en,Rr,rfl⟩,rfl⟩;simp only[Instr.indexAt,asIntOf,Yh,Yy,X7,Yg hu,Instr.sureAddr];rw[X9 ⟨h0,h1⟩];simp only[Yh,cw hes,X7,Yy,gO];rw[Nat.add_right_comm]
def DA{t:TypeId}{i f n x cx}(hfa:fieldAt P t i=some f)(hn:AL P f.type=some n)(hx:VR m (ρ x) cx)(hf:dA (.part n f.offset x) ρ h=some (v,h')):
  ∃cv,(Instr.field t cx i).run P w=.ok cv w/\VR m v cv/\h' =h:=by
 unfold Abs.fieldAt at hfa;split at hfa
 case h_2=>cases hfa
 rename_i fs hu;simp only[dA]at hf;split at hf
 case h_2=>cases hf
 rename_i cs hρ;rw[hρ]at hx;obtain⟨l',rfl,hl⟩:=hx;obtain⟨cv,h1,h2,h3⟩:=Bx (w:=w) hn hl (by cases n<;>exact hf);exact⟨cv,by simp only[Instr.field,Yh,Yg hu,X7,hfa,asAgg,Yy,h1],h2,h3⟩
def Ki{t e:TypeId}{len es n x i cx ci}(hu:P.underlying t=some (.array len e))(hes:dW P e=some es)(hn:AL P e=some n)(hx:VR m (ρ x) cx)(hi:VR m (ρ i) ci)
  (hf:dA (.IU len es n x i) ρ h=some (v,h')):∃cv,(Instr.index t cx ci).run P w=.ok cv w/\VR m v cv/\h' =h:=by
 simp only[dA]at hf;split at hf
 case h_2=>cases hf
 rename_i cs k j RI Tn;rw[RI]at hx;rw[Tn,VR]at hi;subst hi;obtain⟨l',rfl,hl⟩:=hx;split at hf
 case isFalse=>cases hf
 rename_i hc;obtain⟨cv,h1,h2,h3⟩:=Bx (w:=w) (off:=j.toNat*es) hn hl (by cases n<;>exact hf);refine⟨cv,?_,h2,h3⟩;simp only[Instr.index,asIntOf,Yh,Yy,X7,Yg hu];rw[X9 hc];simp only[Yh,cw hes,X7,h1]
def Kh{t:TypeId}{x i cx ci}(hu:P.underlying t=some .string)(hx:VR m (ρ x) cx)(hi:VR m (ρ i) ci)
  (hf:dA (.qm x i) ρ h=some (v,h')):∃cv,(Instr.index t cx ci).run P w=.ok cv w/\VR m v cv/\h' =h:=by
 simp only[dA]at hf;split at hf
 case h_2=>cases hf
 rename_i s k j RI Tn;rw[RI,VR]at hx;rw[Tn,VR]at hi;subst hi;subst hx;split at hf
 case isFalse=>cases hf
 rename_i h0;split at hf
 case h_2=>cases hf
 rename_i b hb;cases hf;refine⟨.int .u8 b.toNat,?_,rfl,rfl⟩;have hb':(⟨⟨s⟩⟩:ByteArray)[j.toNat]? =some b:=by
  show(if h:j.toNat<s.length then some (s[j.toNat])else none)=some b;obtain⟨hlt,he⟩:=XT.1 hb;rw[dif_pos hlt,he]
 simp only[Instr.index,asIntOf,Yh,Yy,X7,Yg hu,X9 h0,hb']
end
def ak.isObj:ak->Bool
 |.bo _=>true
 |.iter _ _=>true
 |.loop _ _ _ _ _ _=>true
 |_=>false
section
variable {P:Program}{m:cp}{h h':ah}{w:World}{ρ:c6->AV}{v:AV}
def jU(hr:HR P m h w){b e k k' o}(he:m b=some e)(hb:h[b]? =some k)(hk:k.isObj=true)(hk':k'.isObj=true\/k' =.dead)
  (hnew:BR P m (w.putObj e.cb o) e k'):HR P m (h.set b k') (w.putObj e.cb o)/\Grow m h w m (h.set b k') (w.putObj e.cb o):=by
 have hbl:b<h.length:=hr.cN _ _ he;have UF:k.live=true:=by cases k<;>first|rfl|cases hk
 have hown:e.own=true:=by
  have:=hr.dU b e k he hb;cases k<;>first|exact this.1|(cases hk;done)
 have hother:∀i,i≠e.cb->(w.putObj e.cb o).heap[i]? =w.heap[i]? :=λi hi=>World.putObj_heap_other hi
 have hsep:∀b' e' k2,b'≠b->m b' =some e'->h[b']? =some k2->k2.live=true->e'.cb≠e.cb:=by
  intro b' e' k2 hne RO QS hl hcb;have:=hr.sep b' b e' e k2 k hne RO he QS hb hcb;cases k<;>cases k2<;>first|exact this|(cases hk;done)|(cases hl;done)
 refine⟨⟨?_,?_,?_,hr.fZ,λb' e' hb'=>by simpa using hr.lt b' e' hb'⟩,⟨λ_ _=>rfl,Si,?_,?_,Si,rfl,rfl,rfl,?_⟩⟩
 ·intro b' e' hb';simpa using hr.cN b' e' hb'
 ·intro b' e' k2 RO QS;rw[bG h b b' _ hbl]at QS;by_cases hbb:b' =b
  ·subst hbb;rw[X9 rfl]at QS;cases QS;rw[he]at RO;cases RO;exact hnew
  ·rw[X5 hbb]at QS;have h0:=hr.dU b' e' k2 RO QS;by_cases hl:k2.live=true
   ·exact h0.heap (hother _ (hsep b' e' k2 hbb RO QS hl))
   ·exact z141
 ·intro b1 b2 e1 e2 k1 k2 hne Sb Q0 hk1 QS hcb;rw[bG h b _ _ hbl]at hk1 QS;by_cases Rk:b1=b
  ·subst Rk;rw[X9 rfl]at hk1;cases hk1;rw[X5 (λx=>hne x.symm)]at QS;rw[he]at Sb;cases Sb;by_cases hl:k2.live=true
   ·exact absurd hcb.symm (hsep b2 e2 k2 (λx=>hne x.symm) Q0 QS hl)
   ·cases k2<;>first|(cases k'<;>trivial)|exact absurd rfl hl
  ·rw[X5 Rk]at hk1;by_cases Rx:b2=b
   ·subst Rx;rw[X9 rfl]at QS;cases QS;rw[he]at Q0;cases Q0;by_cases hl:k1.live=true
    ·exact absurd hcb (hsep b1 e1 k1 hne Sb hk1 hl)
    ·cases k1<;>first|trivial|exact absurd rfl hl
   ·exact Mq
 ·intro b' e' hb' RO;exact absurd (hr.cN _ _ RO) Om
 ·intro b' hb' ht;unfold eD at ht ⊢;rw[bG h b b' _ hbl]at ht;by_cases hbb:b' =b
  ·subst hbb;rw[X9 rfl]at ht;rcases hk' with hk'|hk'
   ·cases k'<;>first|(cases hk';done)|(cases ht;done)
   ·subst hk';cases ht
  ·exact z168
 ·intro i hi hno;exact hother i (λhcb=>hno b e he hown hcb.symm)
def ki{r o}(ho:w.heap[r]? =some o)(hc:o.isCells=false):(getObj r).run P w=.ok o w:=by
 cases o<;>first|(cases hc;done)|simp[getObj,Sem.run,ho]
def mU{r o o'}(ho:w.heap[r]? =some o)(hc:o.isCells=false):(setObj r o').run P w=.ok () (w.putObj r o'):=by
 cases o<;>first|(cases hc;done)|simp[setObj,Sem.run,ho,World.putObj]
def GQ{t:TypeId}{x cx}(hu:P.underlying t=some .string)(hr:HR P m h w)(hx:VR m (ρ x) cx)(hf:dA (.wX x) ρ h=some (v,h')):
  ∃cv w' m',(Instr.range t cx).run P w=.ok cv w'/\VR m' v cv/\HR P m' h' w'/\Grow m h w m' h' w':=by
 simp only[dA]at hf;split at hf
 case h_2=>cases hf
 rename_i s hρ;rw[hρ,VR]at hx;subst hx;cases hf;have Wp:=ka hr (.stringIter ⟨⟨s⟩⟩ 0) (.iter s 0) ⟨w.heap.size,0,0,true⟩ rfl rfl (λm' _=>⟨rfl,rfl,World.alloc_heap_new w _⟩);exact⟨.pointer (some ⟨w.heap.size,0,none⟩),_,_,by simp[Instr.range,Yg hu],⟨⟨w.heap.size,0,0,true⟩,by simp[cp.add],rfl⟩,Wp.1,Wp.2⟩
def DB{t:TypeId}{x cx}(hr:HR P m h w)(hx:VR m (ρ x) cx)(hf:dA (.nV x) ρ h=some (v,h')):
  ∃cv w' m',(Instr.next cx true t).run P w=.ok cv w'/\VR m' v cv/\HR P m' h' w'/\Grow m h w m' h' w':=by
 simp only[dA]at hf;split at hf
 case h_2=>cases hf
 rename_i b hρ;rw[hρ]at hx;obtain⟨e,he,rfl⟩:=hx;split at hf
 case h_2=>cases hf
 rename_i s pos hb;obtain⟨hown,hd0,hheap⟩:=hr.dU b e _ he hb;have hg:=ki (P:=P) hheap rfl;have eC:(⟨⟨s⟩⟩:ByteArray).size=s.length:=rfl;split at hf
 ·rename_i hlt;cases hf;have hbl:e.cb<w.heap.size:=(Ye.1 hheap).1;obtain⟨h1,h2⟩:=jU hr he hb rfl (k':=.iter s (pos+(Utf8.decode ⟨⟨s⟩⟩ pos).2)) (o:=.stringIter ⟨⟨s⟩⟩ (pos+(Utf8.decode ⟨⟨s⟩⟩ pos).2)) (.inl rfl) ⟨hown,hd0,World.putObj_heap_same hbl⟩;refine⟨.tuple #[.bool true,goInt pos,.int .i32 (Utf8.decode ⟨⟨s⟩⟩ pos).1],_,m,?_,⟨_,rfl,?_⟩,h1,h2⟩
  ·simp[Instr.next,hd0,hg,eC,hlt,mU hheap rfl]
  ·exact⟨_,_,rfl,rfl,_,_,rfl,rfl,_,_,rfl,rfl,rfl⟩
 ·rename_i hlt;cases hf;refine⟨.tuple #[.bool false],w,m,?_,⟨_,rfl,_,_,rfl,rfl,rfl⟩,hr,Grow.refl m h w hr.cN⟩;simp[Instr.next,hd0,hg,eC,hlt]
def zO(kk:CK)(d:TypeDesc):Prop:=
 match kk with
 |.b=>d=.bool
 |.i=>∃i,d=.int i
 |.s=>d=.string
def tr{t:TypeId}{kk}(hk:xO P t=some kk):∃d,P.underlying t=some d/\zO kk d:=by
 unfold xO at hk;split at hk
 ·rename_i k hu;cases hk;exact⟨_,hu,k,rfl⟩
 ·rename_i hu;cases hk;exact⟨_,hu,rfl⟩
 ·rename_i hu;cases hk;exact⟨_,hu,rfl⟩
 ·cases hk
def yP{kk}{d:TypeDesc}(hd:zO kk d){k k' ck ck' b}(hk:VR m k ck)(hk':VR m k' ck')(he:dx kk k k' =some b):
  Instr.sameNow d ck ck' =some b:=by
 unfold dx at he;split at he
 ·rw[VR]at hk hk';subst hk;subst hk';cases hd;cases he;rfl
 ·split at he
  ·rename_i hkk;rw[VR]at hk hk';subst hk;subst hk';subst hkk;obtain⟨i,rfl⟩:=hd;cases he;simp[Instr.sameNow]
  ·cases he
 ·rw[VR]at hk hk';subst hk;subst hk';cases hd;cases he;simp[Instr.sameNow,toList_mk,beq_toListBytes]
 ·cases he
def mG(m:cp):List (AV×AV)->List MapEntry->Prop
 |[],l=>l=[]
 |p::r,l=>∃q s,l=q::s/\VR m p.1 q.key/\VR m p.2 q.val/\mG m r s
theorem mG.gZ:∀{es}{l},l.length=es.length->(∀(i:Nat) (p:AV×AV),es[i]? =some p->∃q,l[i]? =some q/\VR m p.1 q.key/\VR m p.2 q.val)->mG m es l
 |[],l,hl,_=>YW.1 (by simpa using hl)
 |p::r,[],hl,_=>by simp at hl
 |p::r,q::s,hl,h=>by
  obtain⟨q',hq,h1,h2⟩:=h 0 p Si;simp at hq;subst hq;exact⟨q,s,rfl,h1,h2,mG.gZ (by simpa using hl) λi p hp=>by simpa using h (i+1) p (by simpa using hp)⟩
theorem mG.get:∀{es}{l},mG m es l->l.length=es.length/\∀(i:Nat) (p:AV×AV),es[i]? =some p->∃q,l[i]? =some q/\VR m p.1 q.key/\VR m p.2 q.val
 |[],l,h=>by cases h;exact⟨rfl,λi p hp=>by simp at hp⟩
 |p::r,l,h=>by
  obtain⟨q,s,rfl,h1,h2,h3⟩:=h;obtain⟨hl,hg⟩:=mG.get h3;refine⟨by simp[hl],λi p' hp=>?_⟩;cases i with
  |zero=>simp at hp;subst hp;exact⟨q,Si,h1,h2⟩
  |succ i=>simpa using hg i p' (by simpa using hp)
theorem rF{kk}{d:TypeDesc}(hd:zO kk d){k ck}(hk:VR m k ck):∀{es}{l}{r}(i:Nat),mG m es l->jq kk k es=some r->
  ∃cr,Instr.findNow d ck l i=some cr/\(match r,cr with|none,none=>True|some v,some (_,cv)=>VR m v cv|_,_=>False)
 |[],l,r,i,h,hf=>by cases h;cases hf;exact⟨none,rfl,trivial⟩
 |(a,v)::es,l,r,i,h,hf=>by
  obtain⟨q,s,rfl,h1,h2,h3⟩:=h;simp only[jq]at hf;cases he:dx kk k a with
  |none=>simp[he]at hf
  |some b=>
   have hs:=yP hd hk h1 he;cases b with
   |true=>
    simp[he]at hf;subst hf;exact⟨some (i,q.val),by simp[Instr.findNow,hs],h2⟩
   |false=>
    simp only[he]at hf;obtain⟨cr,hcr,hm⟩:=rF hd hk (i+1) h3 hf;exact⟨cr,by simp[Instr.findNow,hs,hcr],hm⟩
def rY{t:TypeId}{d:TypeDesc}{kk}(hu:P.underlying t=some d)(hd:zO kk d)(b:Bool)(v:Value)(n:Nat):(Instr.checkKey b (n+1) t v).run P w=.ok () w:=by
 cases kk with
 |b=>cases hd;cases v<;>simp[Instr.checkKey,Yg hu]
 |i=>obtain⟨i,rfl⟩:=hd;cases v<;>simp[Instr.checkKey,Yg hu]
 |s=>cases hd;cases v<;>simp[Instr.checkKey,Yg hu]
def run_checkKey{t:TypeId}{d:TypeDesc}{kk}(hu:P.underlying t=some d)(hd:zO kk d)(b:Bool)(v:Value):(Instr.checkKey b 10000 t v).run P w=.ok () w:=rY hu hd b v 9999
def GU{t kt e:TypeId}{kk z ok x k cx ck}(hu:P.underlying t=some (.map kt e))(hkk:xO P kt=some kk)(hz:jy P e=some z)(hr:HR P m h w)(hx:VR m (ρ x) cx)(hk:VR m (ρ k) ck)
  (hf:dA (.look kk z ok x k) ρ h=some (v,h')):∃cv,(Instr.lookup t cx ck ok).run P w=.ok cv w/\VR m v cv/\h' =h:=by
 obtain⟨d,hud,hd⟩:=tr hkk;obtain⟨cz,TB,Ua⟩:=jQ hz w m;simp only[dA]at hf;split at hf
 ·rename_i hρ;rw[hρ,VR]at hx;subst hx;cases hf;refine⟨if ok then .tuple #[cz,.bool false]else cz,?_,?_,rfl⟩
  ·simp only[Instr.lookup,Yh,Yg hu,X7,Yy,run_checkKey hud hd,Instr.findKey,Yg hud];simp[Instr.findNow,TB]
  ·exact Ju
 ·rename_i r hρ;rw[hρ]at hx;obtain⟨en,Rr,rfl⟩:=hx;split at hf
  case h_2=>cases hf
  rename_i es hb;obtain⟨_,SX,clock,hheap,hlen,QY⟩:=hr.dU r en _ Rr hb;have R2:mG m es SX.toList:=mG.gZ (by simpa using hlen) (λi p hp=>by obtain⟨q,hq,h1,h2⟩:=QY i p hp;exact⟨q,by simpa using hq,h1,h2⟩);have hg:=ki (P:=P) hheap rfl;split at hf
  ·rename_i u Tc;cases hf;obtain⟨cr,hcr,hm⟩:=rF hd hk 0 R2 Tc;cases cr with
   |none=>exact hm.elim
   |some p=>
    obtain⟨i,cu⟩:=p;refine⟨if ok then .tuple #[cu,.bool true]else cu,?_,?_,rfl⟩
    ·simp only[Instr.lookup,Yh,Yg hu,X7,hg,Yy,run_checkKey hud hd,Instr.findKey,Yg hud,hcr]
    ·cases ok
     ·exact hm
     ·exact⟨_,rfl,_,_,rfl,hm,_,_,rfl,rfl,rfl⟩
  ·rename_i Tc;cases hf;obtain⟨cr,hcr,hm⟩:=rF hd hk 0 R2 Tc;cases cr with
   |some p=>exact hm.elim
   |none=>
    refine⟨if ok then .tuple #[cz,.bool false]else cz,?_,?_,rfl⟩
    ·simp only[Instr.lookup,Yh,Yg hu,X7,hg,Yy,run_checkKey hud hd,Instr.findKey,Yg hud,hcr,TB]
    ·exact Ju
  ·cases hf
 ·cases hf
theorem VR.sameBits{kk k k' ck ck'}(hk:VR m k ck)(hk':VR m k' ck')(he:dx kk k k' =some true)(n:Nat):Instr.sameBits n ck' ck=true:=by
 unfold dx at he;split at he
 ·rw[VR]at hk hk';subst hk;subst hk';simp at he;simp[Instr.sameBits,he]
 ·split at he
  ·rename_i hkk;rw[VR]at hk hk';subst hk;subst hk';subst hkk;simp at he;simp[Instr.sameBits,he]
  ·cases he
 ·rw[VR]at hk hk';subst hk;subst hk';simp at he;subst he;simp[Instr.sameBits,beq_toListBytes]
 ·cases he
theorem yo{kk}{d:TypeDesc}(hd:zO kk d){k x ck cx}(hk:VR m k ck)(hx:VR m x cx)(clock:Nat):∀{es es'}{l}(i:Nat),mG m es l->pe kk k x es=some es'->
  (∃j q,Instr.findNow d ck l i=some (some (i+j,q.val))/\l[j]? =some q/\Instr.sameBits 10000 q.key ck=true/\mG m es' (l.set j {q with key:=ck,val:=cx}))\/
  (Instr.findNow d ck l i=some none/\mG m es' (l++[{key:=ck,val:=cx,born:=clock}]))
 |[],es',l,i,h,hf=>by cases h;cases hf;exact .inr ⟨rfl,_,_,rfl,hk,hx,rfl⟩
 |(a,u)::es,es',l,i,h,hf=>by
  obtain⟨q,s,rfl,h1,h2,h3⟩:=h;simp only[pe]at hf;cases he:dx kk k a with
  |none=>simp[he]at hf
  |some b=>
   have hs:=yP hd hk h1 he;cases b with
   |true=>
    simp[he]at hf;subst hf;exact .inl ⟨0,q,by simp[Instr.findNow,hs],Si,VR.sameBits hk h1 he 10000,_,_,rfl,hk,hx,h3⟩
   |false=>
    simp only[he,Yj]at hf;obtain⟨es2,hes2,rfl⟩:=hf;rcases yo hd hk hx clock (i+1) h3 hes2 with⟨j,q',hj,We,hb,hr⟩|⟨hj,hr⟩
    ·exact .inl ⟨j+1,q',by simp[Instr.findNow,hs,hj];omega,by simpa using We,hb,_,_,rfl,h1,h2,hr⟩
    ·exact .inr ⟨by simp[Instr.findNow,hs,hj],_,_,rfl,h1,h2,hr⟩
def GR{t kt e:TypeId}{kk x k u cx ck cu}(hu:P.underlying t=some (.map kt e))(hkk:xO P kt=some kk)(hr:HR P m h w)(hx:VR m (ρ x) cx)(hk:VR m (ρ k) ck)(hv:VR m (ρ u) cu)
  (hf:dA (.fu kk x k u) ρ h=some (v,h')):∃w',(Instr.mapUpdate t cx ck cu).run P w=.ok () w'/\v=az/\HR P m h' w'/\Grow m h w m h' w':=by
 obtain⟨d,hud,hd⟩:=tr hkk;simp only[dA]at hf;split at hf
 case h_2=>cases hf
 rename_i r hρ;rw[hρ]at hx;obtain⟨en,Rr,rfl⟩:=hx;split at hf
 case h_2=>cases hf
 rename_i es hb;split at hf
 case h_2=>cases hf
 rename_i es' hupd;cases hf;obtain⟨hown,SX,clock,hheap,hlen,QY⟩:=hr.dU r en _ Rr hb;have R2:mG m es SX.toList:=mG.gZ (by simpa using hlen) (λi p hp=>by obtain⟨q,hq,h1,h2⟩:=QY i p hp;exact⟨q,by simpa using hq,h1,h2⟩);have hg:=ki (P:=P) hheap rfl;have hbl:en.cb<w.heap.size:=(Ye.1 hheap).1;have done:∀(ces':Array MapEntry) (c:Nat),mG m es' ces'.toList->HR P m (h.set r (.bo es')) (w.putObj en.cb (.map ces' c))/\Grow m h w m (h.set r (.bo es')) (w.putObj en.cb (.map ces' c)):=by
  intro ces' c Td;obtain⟨Q1,Re⟩:=Td.get;exact jU hr Rr hb rfl (.inl rfl) ⟨hown,ces',c,World.putObj_heap_same hbl,by simpa using Q1,λi p hp=>by obtain⟨q,hq,h1,h2⟩:=Re i p hp;exact⟨q,by simpa using hq,h1,h2⟩⟩
 rcases yo hd hk hv clock 0 R2 hupd with⟨j,q,hj,hq,hbits,Td⟩|⟨hj,Td⟩
 ·have We:SX[j]? =some q:=by simpa using hq
  obtain⟨h1,h2⟩:=done (SX.modify j λe=>{e with key:=ck,val:=cu}) clock (by
   have:(SX.modify j λe=>{e with key:=ck,val:=cu}).toList=SX.toList.set j {q with key:=ck,val:=cu}:=by
    apply aag
    intro i;rw[Zm,Array.getElem?_modify,List.getElem?_set];by_cases hij:j=i
    ·subst hij;obtain⟨hlt,heq⟩:=Ye.1 We;simp[We,hlt,heq]
    ·simp[hij]
   rw[this];exact Td)
  refine⟨_,?_,rfl,h1,h2⟩;simp only[Instr.mapUpdate,Yh,Yg hu,X7,hg,run_checkKey hud hd,Instr.findKey,Yg hud,hj,Yy,YJ,We,ZP,Z8,Instr.keyThatStays,hbits,Yf,mU hheap rfl]
 ·obtain⟨h1,h2⟩:=done (SX.push {key:=ck,val:=cu,born:=clock}) (clock+1) (by simpa using Td);refine⟨_,?_,rfl,h1,h2⟩;simp only[Instr.mapUpdate,Yh,Yg hu,X7,hg,run_checkKey hud hd,Instr.findKey,Yg hud,hj,Yy,mU hheap rfl]
end
section
variable {P:Program}{m:cp}{h h':ah}{w:World}{ρ:c6->AV}{v:AV}
theorem mZ(m:cp):∀(s:By),cL m (s.map λb=>AV.int .u8 b.toNat) (s.map λb=>Value.int .u8 b.toNat)
 |[]=>bD.2 rfl
 |b::s=>aS.2 ⟨_,_,rfl,rfl,mZ m s⟩
def rq(s:By):(s.map λb=>AV.int .u8 b.toNat).all AV.one=true:=by
 rw[Yw];intro x hx;simp only[Ys]at hx;obtain⟨b,_,rfl⟩:=hx;rfl
def cO{es y cy ys k}(hr:HR P m h w)(hy:VR m y cy)(hc:cellsIn es h y=some (ys,k)):
  (Builtin.lenOf cy).run P w=.ok k w/\ys.length=k*es/\ys.all AV.one=true/\
   ∀n,n<=k->∃vs,(Builtin.firstCells es n cy).run P w=.ok ⟨vs⟩ w/\cL m (ys.take (n*es)) vs:=by
 unfold cellsIn at hc;split at hc
 ·rw[VR]at hy;subst hy;cases hc;exact⟨rfl,Si,rfl,λn hn=>⟨[],by simp[Builtin.firstCells],by simp[bD]⟩⟩
 ·rename_i b o n es';obtain⟨e,ca,cap,he,rfl,Rf,Ru,hroom⟩:=hy;split at hc
  case isFalse=>cases hc
  rename_i hes;subst hes;split at hc
  case h_2=>cases hc
  rename_i c mu tl hb;split at hc
  case isFalse=>cases hc
  rename_i hle;cases hc;obtain⟨_,_,_,hone⟩:=na hr he hb o (k*es') hle;refine⟨rfl,by simp;omega,hone,λn hn=>?_⟩;have hmul:n*es'<=k*es':=YZ _ hn;by_cases h0:cap=0
  ·have hk0:k=0:=Om
   have Vb:n=0:=Om
   subst Vb;exact⟨[],by simp[Builtin.firstCells,loadCells,loadCellsFrom],by simp[bD]⟩
  ·rw[Ru Om];obtain⟨vs,QU,RJ,_⟩:=na hr he hb o (n*es') Om;refine⟨vs,by simp[Builtin.firstCells,QU],?_⟩;rw[List.take_take,ZN hmul];exact RJ
 ·rename_i s;rw[VR]at hy;subst hy;split at hc
  case isFalse=>cases hc
  rename_i hes;subst hes;cases hc;refine⟨rfl,Si,rq s,λn hn=>⟨(s.take n).map λb=>Value.int .u8 b.toNat,?_,?_⟩⟩
  ·simp only[Builtin.firstCells,Yy,extract_mk];simp
  ·rw[Z4,<-List.map_take];exact mZ m _
 ·cases hc
theorem sP{cb}{el:TypeId}{fz}:∀(vs:List Value) (p j:Nat) (cc:Array Value) (w:World),w.heap[cb]? =some (.cells cc el fz)->p+j+vs.length<=cc.size->
  (∀i,i<cc.size->¬(fz.1<=i/\i<fz.2))->(∀v∈vs,v.oneCell' =true)->
  ∃w' Rv,(storeCells ⟨cb,p,none⟩ vs j).run P w=.ok () w'/\w'.heap[cb]? =some (.cells Rv el fz)/\Rv.size=cc.size/\
   (∀i,Rv[i]? =if p+j<=i/\i<p+j+vs.length then vs[i-(p+j)]? else cc[i]?)/\(∀k,k≠cb->w'.heap[k]? =w.heap[k]?)/\w'.heap.size=w.heap.size/\w'.os=w.os/\w'.output=w.output/\w'.tape=w.tape
 |[],p,j,cc,w,hw,_,_,_=>⟨w,cc,rfl,hw,rfl,λi=>by simp;omega,λ_ _=>rfl,rfl,rfl,rfl,rfl⟩
 |v::vs,p,j,cc,w,hw,hlen,hfz,hone=>by
  simp only[XX]at hlen;have RG:w.cell? ⟨cb,p+j,none⟩=some (cc[p+j]'Om):=by simp only[World.cell?,hw];exact YL Om
  have hfr:w.frozen? ⟨cb,p+j,none⟩=false:=oa hw (hfz _ Om);have Uv:=heap_setCell_same (i:=p+j) hw v;have SF:(cc.setIfInBounds (p+j) v).size=cc.size:=Si
  obtain⟨w',Rv,h1,h2,h3,h4,h5,h6,h7,h8,h9⟩:=sP vs p (j+1) (cc.setIfInBounds (p+j) v) (w.setCell ⟨cb,p+j,none⟩ v) Uv (by rw[SF];omega) (by rw[SF];exact hfz) (λu hu=>hone u (YB _ hu));refine⟨w',Rv,?_,h2,Om,?_,?_,by simpa using h6,h7,h8,h9⟩
  ·simp only[storeCells,Yh];rw[gO,run_store P w _ v .plain (hone v (YN ..)),RG];simp only[hfr,YK,Yb,X7];exact h1
  ·intro i;rw[h4 i];by_cases hi:i=p+j
   ·subst hi;rw[X5 Om,X9 (by simp only[XX];omega)];rw[Ze Om];simp
   ·rw[ZE (λx=>hi x.symm)];by_cases hin:p+(j+1)<=i/\i<p+(j+1)+vs.length
    ·rw[X9 hin,X9 (by simp only[XX];omega)];rw[show i-(p+j)=(i-(p+(j+1)))+1 from by omega];simp
    ·rw[X5 hin,X5 (by simp only[XX];omega)]
  ·intro k hk;rw[h5 k hk];exact Go.RowKit.Below.heap_setCell w _ v k hk
def DX(need cap:Nat)(hc:cap<need):Builtin.nextslicecap need cap<=2*need+192:=by
 unfold Builtin.nextslicecap;split
 ·omega
 ·split
  ·omega
  ·have grow:∀(r c:Nat),c<need+(need+768) / 4->Builtin.growBy need r c<=need+(need+768) / 4:=by
    intro r
    induction r with
    |zero=>intro c Ug;simp only[Builtin.growBy];omega
    |succ r ih=>
     intro c Ug;simp only[Builtin.growBy];split
     ·omega
     ·rename_i hlt;have h1:c<need:=Om
      by_cases hh:c+(c+768) / 4<need+(need+768) / 4
      ·exact ih _ hh
      ·have:c+(c+768) / 4<=need+(need+768) / 4:=Om
       have e:c+(c+768) / 4=need+(need+768) / 4:=Om
       rw[e];cases r with
       |zero=>simp[Builtin.growBy]
       |succ r=>simp only[Builtin.growBy];rw[X9 Om];exact X8 _
   have:=grow 4 cap Om;omega
theorem cL.vp:∀{l}{vs},cL m l vs->l.all AV.one=true->∀v∈vs,v.oneCell' =true
 |[],vs,h,_,v,hv=>by rw[bD]at h;subst h;cases hv
 |x::xs,vs,h,h1,v,hv=>by
  obtain⟨y,ys,rfl,hy,hys⟩:=aS.1 h;simp only[Zv,Yv]at h1;rcases YA.1 hv with rfl|hv
  ·exact hy.tS h1.1
  ·exact cL.vp hys h1.2 v hv
def rD(hr:HR P m h w){b o q e c ys mu mu' k0}(he:m b=some e)(hb:h[b]? =some (.cells c mu true))(hoq:o+q<=c.length)
  (hk0:(k0=.cells c false false/\o+q=c.length/\mu' =false)\/(k0=.dead/\mu=true)) {vs}(hys:cL m ys vs) (h1:ys.all AV.one=true) (hroom:o+q+e.d+ys.length<=e.sz) (j:Nat):
  ∃w' m',(storeCells ⟨e.cb,o+e.d+q,none⟩ vs 0).run P w=.ok () w'/\m' h.length=some ⟨e.cb,e.d+o,e.sz,true⟩/\
   HR P m' (h.set b k0++[.cells ((c.drop o).take q++ys) mu' true]) w'/\Grow m h w m' (h.set b k0++[.cells ((c.drop o).take q++ys) mu' true]) w':=by
 have _:=j;obtain⟨cc,el,fz,hw,⟨hle,hle'⟩,QY,hown,hmt⟩:=hr.dU b e _ he hb;have ho:e.own=true:=(hmt (.inr rfl)).1;obtain⟨eC,hfz⟩:=hown ho;have hlv:=hys.length;obtain⟨w',Rv,QU,hw',Q6,hcc',hoth,hhs,hos,hout,htape⟩:=sP (P:=P) vs (o+e.d+q) 0 cc w hw Om hfz (hys.vp h1);have hbl:b<h.length:=hr.cN _ _ he
 let e':sK:=⟨e.cb,e.d+o,e.sz,true⟩
 have RQ:m h.length=none:=by
  exact Ms
 have Tu:m.le (m.add h.length e'):=cp.rO e' RQ;have hlen:(h.set b k0).length=h.length:=Si
 have Uu:∀b2 e2 k2,b2≠b->m b2=some e2->h[b2]? =some k2->k2.live=true->e2.cb=e.cb->mu=false/\∃c2,k2=.cells c2 false false/\e2.d+c2.length<=e.d+c.length:=by
  intro b2 e2 k2 hne Q0 QS hl hcb;have:=hr.sep b b2 e e2 _ k2 (λx=>hne x.symm) he Q0 hb QS hcb.symm;cases k2 with
  |cells c2 mu2 tl2=>
   obtain⟨SA,Vd,ht⟩:=this;obtain⟨ht2,SP⟩:=ht rfl;subst Vd;subst ht2;exact⟨SA,c2,rfl,SP⟩
  |dead=>cases hl
  |bo _=>exact this.elim
  |iter _ _=>exact this.elim
  |loop _ _ _ _ _ _=>exact this.elim
 have Wi:∀i,i<e.d+o+q->Rv[i]? =cc[i]? :=by
  intro i hi;rw[hcc' i,X5 Om]
 have hnew:BR P (m.add h.length e') w' e' (.cells ((c.drop o).take q++ys) mu' true):=by
  refine⟨Rv,el,fz,hw',⟨?_,?_,(by rw[Q6,eC])⟩,?_,λ_=>⟨by rw[Q6,eC],λi hi=>hfz i Om⟩,λ_=>⟨rfl,λx=>by cases x⟩⟩
  ·show e.d+o+((c.drop o).take q++ys).length<=Rv.size;simp;omega
  ·show e.d+o+((c.drop o).take q++ys).length<=e.sz;simp;omega
  ·intro i x hx;by_cases hi:i<q
   ·rw[XW (by simp;omega),ZY hi,aac]at hx;obtain⟨hone,v,hv,QT⟩:=QY (o+i) x hx;refine⟨hone,v,?_,VR.mono Tu _ _ QT⟩;show Rv[e.d+o+i]? =some v;rw[Wi _ Om,show e.d+o+i=e.d+(o+i)from by omega];exact hv
   ·have Uc:((c.drop o).take q).length=q:=by simp;omega
    rw[X6 Om,Uc]at hx;obtain⟨v,hv,QT⟩:=hys.get hx;have hlt:i-q<ys.length:=(XT.1 hx).1;refine⟨Yw.1 h1 x (YO hx),v,?_,VR.mono Tu _ _ QT⟩;show Rv[e.d+o+i]? =some v;rw[hcc',X9 Om,show e.d+o+i-(o+e.d+q+0)=i-q from by omega];exact hv
 have hbr0:∀b2 e2 k2,m b2=some e2->(h.set b k0)[b2]? =some k2->BR P (m.add h.length e') w' e2 k2:=by
  intro b2 e2 k2 Q0 QS;rw[bG h b b2 _ hbl]at QS;by_cases hbb:b2=b
  ·subst hbb;rw[X9 rfl]at QS;cases QS;rw[he]at Q0;cases Q0;rcases hk0 with⟨rfl,hcl,_⟩|⟨rfl,_⟩
   ·refine⟨Rv,el,fz,hw',⟨Om,Om⟩,?_,λ_=>⟨by rw[Q6,eC],λi hi=>hfz i Om⟩,λx=>by rcases x with x|x<;>cases x⟩;intro i x hx;obtain⟨hone,v,hv,QT⟩:=QY i x hx;have hi:i<c.length:=(XT.1 hx).1;exact z164
   ·trivial
  ·rw[X5 hbb]at QS;have h0:=hr.dU b2 e2 k2 Q0 QS;by_cases hl:k2.live=true
   ·by_cases hcb:e2.cb=e.cb
    ·obtain⟨hmf,c2,rfl,SP⟩:=Uu b2 e2 k2 hbb Q0 QS hl hcb;rcases hk0 with⟨_,hcl,_⟩|⟨_,UB⟩
     ·obtain⟨cc2,el2,fz2,hw2,⟨hle2a,hle2b⟩,hget2,hown2,hmt2⟩:=h0;rw[hcb,hw]at hw2;cases hw2;refine⟨Rv,el,fz,by rw[hcb];exact hw',⟨Om,Om⟩,?_,λho2=>by have:=hown2 ho2;exact⟨Om,λi hi=>this.2 i Om⟩,hmt2⟩;intro i x hx;obtain⟨hone,v,hv,QT⟩:=hget2 i x hx;have hi:i<c2.length:=(XT.1 hx).1;exact z164
     ·rw[hmf]at UB;cases UB
    ·exact(h0.mono Tu).heap (hoth _ hcb)
   ·exact z141
 have hget0:∀b2 k2,b2<h.length->(h.set b k0++[.cells ((c.drop o).take q++ys) mu' true])[b2]? =some k2->(h.set b k0)[b2]? =some k2:=by
  intro b2 k2 hlt QS
  rwa [XW Om]at QS
 have hsep1:∀b2 e2 k2,m b2=some e2->(h.set b k0)[b2]? =some k2->e2.cb=e.cb->pQ e' e2 (.cells ((c.drop o).take q++ys) mu' true) k2/\pQ e2 e' k2 (.cells ((c.drop o).take q++ys) mu' true):=by
  intro b2 e2 k2 Q0 QS hcb;rw[bG h b b2 _ hbl]at QS;by_cases hbb:b2=b
  ·subst hbb;rw[X9 rfl]at QS;cases QS;rw[he]at Q0;cases Q0;rcases hk0 with⟨rfl,hcl,rfl⟩|⟨rfl,_⟩
   ·refine⟨⟨rfl,rfl,λ_=>⟨rfl,?_⟩⟩,⟨rfl,rfl,λx=>by cases x⟩⟩;show e.d+c.length<=e.d+o+((c.drop o).take q++ys).length;simp;omega
   ·exact⟨trivial,trivial⟩
  ·rw[X5 hbb]at QS;by_cases hl:k2.live=true
   ·obtain⟨hmf,c2,rfl,SP⟩:=Uu b2 e2 k2 hbb Q0 QS hl hcb;rcases hk0 with⟨_,hcl,rfl⟩|⟨_,UB⟩
    ·refine⟨⟨rfl,rfl,λ_=>⟨rfl,?_⟩⟩,⟨rfl,rfl,λx=>by cases x⟩⟩;show e2.d+c2.length<=e.d+o+((c.drop o).take q++ys).length;simp;omega
    ·rw[hmf]at UB;cases UB
   ·cases k2<;>first|exact⟨trivial,trivial⟩|exact absurd rfl hl
 have hsep2:∀b1 b2 e1 e2 k1 k2,b1≠b2->m b1=some e1->m b2=some e2->(h.set b k0)[b1]? =some k1->(h.set b k0)[b2]? =some k2->e1.cb=e2.cb->pQ e1 e2 k1 k2:=by
  intro b1 b2 e1 e2 k1 k2 hne Sb Q0 hk1 QS hcb;rw[bG h b _ _ hbl]at hk1 QS;by_cases Rk:b1=b
  ·subst Rk;rw[X9 rfl]at hk1;cases hk1;rw[X5 (λx=>hne x.symm)]at QS;have:=hr.sep b1 b2 e1 e2 _ k2 hne Sb Q0 hb QS hcb;rcases hk0 with⟨rfl,_⟩|⟨rfl,_⟩
   ·cases k2<;>first|exact⟨rfl,this.2.1,λx=>by cases x⟩|trivial|exact this
   ·trivial
  ·rw[X5 Rk]at hk1;by_cases Rx:b2=b
   ·subst Rx;rw[X9 rfl]at QS;cases QS;have:=hr.sep b1 b2 e1 e2 k1 _ hne Sb Q0 hk1 hb hcb;rcases hk0 with⟨rfl,_⟩|⟨rfl,_⟩
    ·cases k1<;>first|exact⟨this.1,rfl,λx=>absurd (this.2.2 x).1 Si⟩|trivial|exact this
    ·cases k1<;>trivial
   ·exact Mq
 refine⟨w',m.add h.length e',by simpa using QU,by simp[cp.add,e'],⟨?_,?_,?_,?_,?_⟩,⟨?_,Si,?_,?_,Om,hos,hout,htape,?_⟩⟩
 ·intro b2 e2 Rx;unfold cp.add at Rx;by_cases hx:b2=h.length
  ·subst hx;simp
  ·rw[X5 hx]at Rx;have:=hr.cN _ _ Rx;simp;omega
 ·intro b2 e2 k2 Q0 QS;unfold cp.add at Q0;by_cases hx:b2=h.length
  ·subst hx;rw[X9 rfl]at Q0;cases Q0;rw[X6 Om]at QS;simp at QS;subst QS;exact hnew
  ·rw[X5 hx]at Q0;exact hbr0 b2 e2 k2 Q0 (hget0 b2 k2 (hr.cN _ _ Q0) QS)
 ·intro b1 b2 e1 e2 k1 k2 hne Sb Q0 hk1 QS hcb;unfold cp.add at Sb Q0;by_cases hx1:b1=h.length
  ·subst hx1;rw[X9 rfl]at Sb;cases Sb;rw[X5 (λx=>hne x.symm)]at Q0;rw[X6 Om]at hk1;simp at hk1;subst hk1;exact(hsep1 b2 e2 k2 Q0 (hget0 b2 k2 (hr.cN _ _ Q0) QS) hcb.symm).1
  ·rw[X5 hx1]at Sb;have hk1':=hget0 b1 k1 (hr.cN _ _ Sb) hk1;by_cases hx2:b2=h.length
   ·subst hx2;rw[X9 rfl]at Q0;cases Q0;rw[X6 Om]at QS;simp at QS;subst QS;exact(hsep1 b1 e1 k1 Sb hk1' hcb).2
   ·rw[X5 hx2]at Q0;exact hsep2 b1 b2 e1 e2 k1 k2 hne Sb Q0 hk1' (hget0 b2 k2 (hr.cN _ _ Q0) QS) hcb
 ·intro g hg;obtain⟨x,hx,h2⟩:=hr.fZ g hg;exact⟨x,Tu _ _ hx,h2⟩
 ·intro b2 e2 Q0;unfold cp.add at Q0;by_cases hx:b2=h.length
  ·rw[X9 hx]at Q0;cases Q0;have:=hr.lt _ _ he;show e.cb<_;omega
  ·rw[X5 hx]at Q0;have:=hr.lt _ _ Q0;omega
 ·intro b2 Rx;unfold cp.add;rw[X5 Om]
 ·intro b2 e2 Rx Q0;unfold cp.add at Q0;by_cases hx:b2=h.length
  ·rw[X9 hx]at Q0;cases Q0;refine⟨rfl,.inr ⟨b,e,he,rfl,ho,by simp[eD,hb],?_⟩⟩;unfold eD;rw[XW Om,bG h b b _ hbl,X9 rfl];rcases hk0 with⟨rfl,_⟩|⟨rfl,_⟩<;>rfl
  ·rw[X5 hx]at Q0;exact absurd (hr.cN _ _ Q0) Om
 ·intro b2 Rx ht;unfold eD at ht ⊢;rw[XW Om,bG h b b2 _ hbl]at ht;by_cases hbb:b2=b
  ·subst hbb;rw[X9 rfl]at ht;rcases hk0 with⟨rfl,_⟩|⟨rfl,_⟩<;>cases ht
  ·exact z168
 ·intro i hi hno;exact hoth i (λx=>hno b e he ho x.symm)
end
section
variable {P:Program}{m:cp}{h h':ah}{w:World}{ρ:c6->AV}{v:AV}
def yf:ak->ak->Prop
 |.cells c mu tl,k=>k=.dead\/∃mu' tl',k=.cells c mu' tl'/\(mu' =true->mu=true/\(tl' =false->tl=false))/\(tl' =true->tl=true)
 |k,k'=>k' =.dead\/k' =k
def yf.M8{e1 e2 k k' k2}(hw:yf k k')(hs:pQ e1 e2 k k2):pQ e1 e2 k' k2:=by
 cases k with
 |cells c mu tl=>
  rcases hw with rfl|⟨mu',tl',rfl,hm,ht⟩
  ·trivial
  ·cases k2 with
   |cells c2 mu2 tl2=>
    refine⟨?_,hs.2.1,λx=>hs.2.2 (ht x)⟩;cases mu' with
    |false=>rfl
    |true=>have:=hs.1;rw[(hm rfl).1]at this;cases this
   |_=>first|trivial|exact hs
 |dead=>rcases hw with rfl|rfl<;>trivial
 |bo es=>rcases hw with rfl|rfl<;>first|trivial|exact hs
 |iter s p=>rcases hw with rfl|rfl<;>first|trivial|exact hs
 |loop a b c d e f=>rcases hw with rfl|rfl<;>first|trivial|exact hs
def yf.M7{e1 e2 k k' k1}(hw:yf k k')(hs:pQ e1 e2 k1 k):pQ e1 e2 k1 k':=by
 cases k with
 |cells c mu tl=>
  rcases hw with rfl|⟨mu',tl',rfl,hm,ht⟩
  ·cases k1<;>trivial
  ·cases k1 with
   |cells c1 mu1 tl1=>
    refine⟨hs.1,?_,λx=>⟨?_,(hs.2.2 x).2⟩⟩
    ·cases mu' with
     |false=>rfl
     |true=>have:=hs.2.1;rw[(hm rfl).1]at this;cases this
    ·cases tl' with
     |false=>rfl
     |true=>have:=(hs.2.2 x).1;rw[ht rfl]at this;cases this
   |_=>first|trivial|exact hs
 |dead=>rcases hw with rfl|rfl<;>cases k1<;>trivial
 |bo es=>rcases hw with rfl|rfl<;>first|exact hs|(cases k1<;>trivial)
 |iter s p=>rcases hw with rfl|rfl<;>first|exact hs|(cases k1<;>trivial)
 |loop a b c d e f=>rcases hw with rfl|rfl<;>first|exact hs|(cases k1<;>trivial)
def yf.br{e k k'}(hw:yf k k')(hb:BR P m w e k):BR P m w e k':=by
 cases k with
 |cells c mu tl=>
  rcases hw with rfl|⟨mu',tl',rfl,hm,ht⟩
  ·trivial
  ·obtain⟨cc,el,fz,h1,h2,h3,h4,h5⟩:=hb;refine⟨cc,el,fz,h1,h2,h3,h4,λx=>⟨(h5 (x.elim (λy=>.inl (hm y).1) (λy=>.inr (ht y)))).1,λy=>?_⟩⟩;rcases x with x|x
   ·exact(h5 (.inl (hm x).1)).2 ((hm x).2 y)
   ·rw[x]at y;cases y
 |dead=>rcases hw with rfl|rfl<;>trivial
 |bo es=>rcases hw with rfl|rfl<;>first|trivial|exact hb
 |iter s p=>rcases hw with rfl|rfl<;>first|trivial|exact hb
 |loop a b c d e f=>rcases hw with rfl|rfl<;>first|trivial|exact hb
def vV(hr:HR P m h w){b k k'}(hb:h[b]? =some k)(hk:yf k k'):HR P m (h.set b k') w/\Grow m h w m (h.set b k') w:=by
 have hbl:b<h.length:=(XT.1 hb).1;refine⟨⟨?_,?_,?_,hr.fZ,hr.lt⟩,⟨λ_ _=>rfl,Si,?_,?_,X8 _,rfl,rfl,rfl,λ_ _ _=>rfl⟩⟩
 ·intro b' e' hb';simpa using hr.cN b' e' hb'
 ·intro b' e' k2 RO QS;rw[bG h b b' _ hbl]at QS;by_cases hbb:b' =b
  ·subst hbb;rw[X9 rfl]at QS;cases QS;exact hk.br (hr.dU b' e' k RO hb)
  ·rw[X5 hbb]at QS;exact hr.dU b' e' k2 RO QS
 ·intro b1 b2 e1 e2 k1 k2 hne Sb Q0 hk1 QS hcb;rw[bG h b _ _ hbl]at hk1 QS;by_cases Rk:b1=b
  ·subst Rk;rw[X9 rfl]at hk1;cases hk1;rw[X5 (λx=>hne x.symm)]at QS;exact hk.M8 (hr.sep b1 b2 e1 e2 k k2 hne Sb Q0 hb QS hcb)
  ·rw[X5 Rk]at hk1;by_cases Rx:b2=b
   ·subst Rx;rw[X9 rfl]at QS;cases QS;exact hk.M7 (hr.sep b1 b2 e1 e2 k1 k hne Sb Q0 hk1 hb hcb)
   ·exact Mq
 ·intro b' e' hb' RO;exact absurd (hr.cN _ _ RO) Om
 ·intro b' hb' ht;unfold eD at ht ⊢;rw[bG h b b' _ hbl]at ht;by_cases hbb:b' =b
  ·subst hbb;rw[X9 rfl]at ht;rw[hb];cases k with
   |cells c mu tl=>
    rcases hk with rfl|⟨mu',tl',rfl,_,h2⟩
    ·cases ht
    ·exact h2 ht
   |dead=>rcases hk with rfl|rfl<;>cases ht
   |bo es=>rcases hk with rfl|rfl<;>cases ht
   |iter s p=>rcases hk with rfl|rfl<;>cases ht
   |loop a b c d e f=>rcases hk with rfl|rfl<;>cases ht
  ·exact z168
def j9(hr:HR P m h w){c vs}(hc:cL m c vs)(h1:c.all AV.one=true)(rest:List Value)(el:TypeId)(mu tl:Bool)(hml:mu=true->tl=true):
  ∃m',m' h.length=some ⟨w.heap.size,0,vs.length+rest.length,true⟩/\HR P m' (h++[.cells c mu tl]) (w.alloc (.cells ⟨vs++rest⟩ el))/\Grow m h w m' (h++[.cells c mu tl]) (w.alloc (.cells ⟨vs++rest⟩ el)):=by
 have hl:=hc.length;refine⟨_,by simp[cp.add],ka hr (.cells ⟨vs++rest⟩ el) (.cells c mu tl) ⟨w.heap.size,0,vs.length+rest.length,true⟩ rfl rfl (λm' hm=>?_)⟩;refine⟨⟨vs++rest⟩,el,(0,0),World.alloc_heap_new w _,⟨by simp;omega,by refine⟨?_,Si⟩;show 0+c.length<=vs.length+rest.length;omega⟩,?_,λ_=>⟨Si,λi _=>by simp⟩,λx=>⟨rfl,λy=>by
  rcases x with x|x
  ·rw[hml x]at y;cases y
  ·rw[x]at y;cases y⟩⟩
 intro i x hx;obtain⟨v,hv,QT⟩:=hc.get hx;have hi:i<c.length:=(XT.1 hx).1;refine⟨Yw.1 h1 x (YO hx),v,?_,VR.mono hm _ _ QT⟩;show(⟨vs++rest⟩:Array Value)[0+i]? =some v;rw[YJ,Zo,XW Om];exact hv
def nR{sT xT e:TypeId}{i:TypeInfo}{y ts}(hts0:ts[0]? =some sT)(hts1:ts[1]? =some xT)(hs:dX P sT=some (e,i))(hbytes:0<i.bytes)(hbytes':i.bytes<=2^20)
  {d:TypeDesc}(hud:P.underlying xT=some d) (hdk:∀k,d≠.int k) {cz}(hz:(zeroValue e).run P w.drew=.ok cz w.drew) {base}{n cap k}(hcap:cap<n+k) (hb:(n+k)*i.bytes<=2^46)
  (hlen:(Builtin.lenOf y).run P w=.ok k w) {vo vn}(ho:(Builtin.firstCells i.size n (.slice base n cap)).run P w.drew=.ok ⟨vo⟩ w.drew) (hn:(Builtin.firstCells i.size k y).run P w.drew=.ok ⟨vn⟩ w.drew) (T:TypeId) (eC:i.size=cz.cells.size):
  ∃newCap rest,n+k<=newCap/\rest.length=(newCap-(n+k))*i.size/\
   (Builtin.append_ ts T #[.slice base n cap,y]).run P w=.ok (.slice (some ⟨w.heap.size,0,none⟩) (n+k) newCap) (w.drew.alloc (.cells ⟨vo++vn++rest⟩ e)):=by
 obtain⟨hu,hi⟩:=fx hs;have Uz:=DX (n+k) cap hcap;have hno:¬(Builtin.nextslicecap (n+k) cap*i.bytes > 2^48):=by
  have h1:Builtin.nextslicecap (n+k) cap*i.bytes<=(2*(n+k)+192)*i.bytes:=YZ _ Uz;have h2:(2*(n+k)+192)*i.bytes=2*((n+k)*i.bytes)+192*i.bytes:=by rw[aad,Nat.mul_assoc]
  omega
 obtain⟨q,hq⟩:∃q:Question,q=.appendCap (n+k) cap e:=⟨_,rfl⟩;obtain⟨nc,UA⟩:∃nc:Nat,nc=q.cut (w.tape w.drawn q):=⟨_,rfl⟩;have Va:n+k<=nc:=by rw[UA,hq];show n+k<=(n+k)+_;omega
 have SI:(match d with|.int _=>true|_=>false)=false:=by
  cases d<;>first|rfl|exact absurd rfl (hdk _)
 have Q7:∀w,(sizeOf e).run P w=.ok i.size w:=λw=>cw (by simp[dW,hi]) w
 have UI:∀w,(typeInfo e).run P w=.ok i w:=λw=>by simp[typeInfo,hi]
 have R3:¬(i.bytes=0):=Om
 have SS:(choose (.appendCap (n+k) cap e)).run P w=.ok nc w.drew:=by
  rw[run_choose,UA,hq];rfl
 refine⟨nc,(Builtin.zeroCells cz.cells (nc-(n+k))).toList,Va,by simp[Builtin.zeroCells,eC],?_⟩;simp only[Builtin.append_,hts0,hts1,Zo,Y8,Zh,Yh,Yg hu,X7,Q7,Yg hud,Yy,SI,
  YK,Yb,hlen,Nat.not_le.2 hcap]
 simp only[Sem.run_ite,Yh,UI,X7,hno,Yb,R3,Zz,and_false,YK,SS,run_askRoom,ho,hn,hz,Yr,Yf,newRow,run_newObj,Yy];have earr:((⟨vo⟩:Array Value)++⟨vn⟩++Builtin.zeroCells cz.cells (nc-(n+k)))=⟨vo++vn++(Builtin.zeroCells cz.cells (nc-(n+k))).toList⟩:=by
  apply aam
  simp
 rw[earr];rfl
def mJ{c:List AV}{o q:Nat}(h:o+q=c.length):(c.drop o).take q=c.drop o:=YE (by simp;omega)
def Kl{sT xT e:TypeId}{i:TypeInfo}{ts:Array TypeId}(hts0:ts[0]? =some sT)(hts1:ts[1]? =some xT)(hs:dX P sT=some (e,i))(hspos:0<i.size)(hbytes:0<i.bytes)(hbytes':i.bytes<=2^20)
  {d:TypeDesc}(hud:P.underlying xT=some d) (hdk:∀k,d≠.int k) {z:AV}(hz:i.zero.bind (mE 4)=some z) (hzs:z.cells.length=i.size)
  (hr:HR P m h w) {x y:AV}{cx cy:Value}(hx:VR m x cx) (hy:VR m y cy) (hf:wE i.size i.bytes x y h v h') (T:TypeId):
  ∃cv w' m',(Builtin.append_ ts T #[cx,cy]).run P w=.ok cv w'/\VR m' v cv/\HR P m' h' w'/\Grow m h w m' h' w':=by
 obtain⟨hu,hi⟩:=fx hs;have hzA:jy P e=some z:=by simp[jy,hi,hz]
 obtain⟨cz,TB,Ua⟩:=jQ hzA w.drew m;have Vr:i.size=cz.cells.size:=by have:=Ua.cells.length;simp at this;omega
 have Q7:∀w,(sizeOf e).run P w=.ok i.size w:=λw=>cw (by simp[dW,hi]) w
 have SI:(match d with|.int _=>true|_=>false)=false:=by
  cases d<;>first|rfl|exact absurd rfl (hdk _)
 have room:∀{base:Option Addr}{n cap k:Nat}{vn:List Value}{w1:World},n+k<=cap->(Builtin.lenOf cy).run P w=.ok k w->(Builtin.firstCells i.size k cy).run P w=.ok ⟨vn⟩ w->
   (match base with|some a=>(storeCells (a.add (n*i.size)) vn).run P w=.ok () w1|none=>w1=w)->
   (Builtin.append_ ts T #[.slice base n cap,cy]).run P w=.ok (.slice base (n+k) cap) w1:=by
  intro base n cap k vn w1 hle hlen QZ bW;cases base with
  |none=>
   subst bW;simp only[Builtin.append_,hts0,hts1,Zo,Y8,Zh,Yh,Yg hu,X7,Q7,Yg hud,Yy,SI,
    YK,Yb,hlen,hle,Yf,Yr,QZ]
  |some a=>
   simp only at bW;simp only[Builtin.append_,hts0,hts1,Zo,Y8,Zh,Yh,Yg hu,X7,Q7,Yg hud,Yy,SI,
    YK,Yb,hlen,hle,Yf,Yr,QZ,bW]
 cases hf with
 |none Sr Ry=>
  obtain⟨hlen,_,_,QZ⟩:=cO hr hy Sr;obtain⟨vn,S0,QT⟩:=QZ 0 (X8 _);have Xl:vn=[]:=by simp[bD]at QT;exact QT
  subst Xl;rcases Ry with rfl|⟨b,o,n,rfl⟩
  ·rw[VR]at hx;subst hx;exact⟨.slice none 0 0,w,m,room Om hlen S0 rfl,rfl,hr,Grow.refl m h w hr.cN⟩
  ·have hx0:=hx;obtain⟨en,ca,cap,Rr,rfl,Rf,Ru,hroom⟩:=hx;exact⟨.slice (some ca) n cap,w,m,room Om hlen S0 (by simp[storeCells]),hx0,hr,Grow.refl m h w hr.cN⟩
 |new ys k mu Sr hk hb Ry=>
  subst Ry;rw[VR]at hx;subst hx;obtain⟨hlen,SE,hone,_⟩:=cO hr hy Sr;obtain⟨_,_,_,QZ⟩:=cO hr.drew hy Sr;obtain⟨vn,S0,QT⟩:=QZ k (X8 _);rw[YE Om]at QT;obtain⟨nc,rest,Va,RP,QU⟩:=nR (n:=0) (cap:=0) (base:=none) (vo:=[]) hts0 hts1 hs hbytes hbytes' hud hdk TB Om (by rw[YJ];exact hb) hlen (by simp[Builtin.firstCells]) S0 T Vr;obtain⟨m',h0,h1,h2⟩:=j9 hr.drew QT hone rest e mu true (λ_=>rfl);have RE:=QT.length;refine⟨_,_,m',QU,⟨_,_,nc,h0,by rw[YJ];rfl,Om,λ_=>rfl,?_⟩,by simpa using h1,by simpa using h2.Cs⟩;show 0+0+nc*i.size<=vn.length+rest.length;rw[RP,RE,SE];have:nc*i.size=k*i.size+(nc-(0+k))*i.size:=by rw[<-aad];congr 1;omega
  omega
 |on ys k b o n c mu Sr hk hb Ry hc hl=>
  subst Ry;obtain⟨en,ca,cap,Rr,rfl,Rf,Ru,hroom⟩:=hx;obtain⟨hlen,SE,hone,QZ⟩:=cO hr hy Sr;have U6:cellsIn i.size h (.slice b o n i.size)=some ((c.drop o).take (n*i.size),n):=by simp[cellsIn,hc];omega
  have hdt:=mJ hl;by_cases UM:n+k<=cap
  ·obtain⟨vn,S0,QT⟩:=QZ k (X8 _);rw[YE Om]at QT;have UP:=Ru Om;have hr1:(n+k)*i.size<=cap*i.size:=YZ _ UM;rw[aad]at hr1;obtain⟨w',m',h0,h1,h2,h3⟩:=rD (mu':=false) (k0:=.cells c false false) (q:=n*i.size) hr Rr hc Om (.inl ⟨rfl,hl,rfl⟩) QT hone Om 0;rw[hdt]at h2 h3;exact z51
  ·obtain⟨_,_,_,hfo⟩:=cO hr.drew (y:=.slice b o n i.size) ⟨en,ca,cap,Rr,rfl,Rf,Ru,hroom⟩ U6;obtain⟨vo,hvo,Sf⟩:=hfo n (X8 _);obtain⟨_,_,Sk,_⟩:=cO hr (y:=.slice b o n i.size) ⟨en,ca,cap,Rr,rfl,Rf,Ru,hroom⟩ U6;obtain⟨_,_,_,RX⟩:=cO hr.drew hy Sr;obtain⟨vn,S0,QT⟩:=RX k (X8 _);rw[YE Om]at QT;rw[YE (by simp;omega),hdt]at Sf;rw[hdt]at Sk;obtain⟨nc,rest,Va,RP,QU⟩:=nR hts0 hts1 hs hbytes hbytes' hud hdk TB Om hb hlen hvo S0 T Vr;obtain⟨g1,g2⟩:=vV (k':=.cells c false false) hr hc (.inr ⟨false,false,rfl,λx=>(by cases x),λx=>(by cases x)⟩);obtain⟨m',h0,h1,h2⟩:=j9 g1.drew (Sf.append QT) (by simp[Sk,hone]) rest e false true (λ_=>rfl)
   have Q8:(h.set b (.cells c false false)).length=h.length:=Si
   rw[Q8]at h0;have RE:=QT.length;have Xk:=Sf.length;refine⟨_,_,m',QU,⟨_,_,nc,h0,rfl,Va,λ_=>rfl,?_⟩,h1,(g2.drew.trans h2 hr.cN)⟩;exact z28
 |over ys k b o n c mu Sr hk hb Ry hc hl=>
  subst Ry;obtain⟨en,ca,cap,Rr,rfl,Rf,Ru,hroom⟩:=hx;obtain⟨hlen,SE,hone,QZ⟩:=cO hr hy Sr;have U6:cellsIn i.size h (.slice b o n i.size)=some ((c.drop o).take (n*i.size),n):=by simp[cellsIn,hc];omega
  by_cases UM:n+k<=cap
  ·obtain⟨vn,S0,QT⟩:=QZ k (X8 _);rw[YE Om]at QT;have UP:=Ru Om;have hr1:(n+k)*i.size<=cap*i.size:=YZ _ UM;rw[aad]at hr1;obtain⟨w',m',h0,h1,h2,h3⟩:=rD (mu':=mu) (k0:=.dead) (q:=n*i.size) hr Rr hc Om (.inr ⟨rfl,rfl⟩) QT hone Om 0;exact z51
  ·obtain⟨_,_,_,hfo⟩:=cO hr.drew (y:=.slice b o n i.size) ⟨en,ca,cap,Rr,rfl,Rf,Ru,hroom⟩ U6;obtain⟨vo,hvo,Sf⟩:=hfo n (X8 _);obtain⟨_,_,Sk,_⟩:=cO hr (y:=.slice b o n i.size) ⟨en,ca,cap,Rr,rfl,Rf,Ru,hroom⟩ U6;obtain⟨_,_,_,RX⟩:=cO hr.drew hy Sr;obtain⟨vn,S0,QT⟩:=RX k (X8 _);rw[YE Om]at QT;rw[YE (by simp;omega)]at Sf;obtain⟨nc,rest,Va,RP,QU⟩:=nR hts0 hts1 hs hbytes hbytes' hud hdk TB Om hb hlen hvo S0 T Vr;obtain⟨g1,g2⟩:=vV (k':=.dead) hr hc (.inl rfl);obtain⟨m',h0,h1,h2⟩:=j9 g1.drew (Sf.append QT) (by rw[List.all_append,Sk,hone];rfl) rest e mu true (λ_=>rfl);have Q8:(h.set b .dead).length=h.length:=Si
   rw[Q8]at h0;have RE:=QT.length;have Xk:=Sf.length;refine⟨_,_,m',QU,⟨_,_,nc,h0,rfl,Va,λ_=>rfl,?_⟩,h1,(g2.drew.trans h2 hr.cN)⟩;exact z28
 |full ys k b o n c Sr hk hb Ry hc hl=>
  subst Ry;obtain⟨en,ca,cap,Rr,rfl,Rf,Ru,hroom⟩:=hx;obtain⟨hlen,SE,hone,QZ⟩:=cO hr hy Sr;have U6:cellsIn i.size h (.slice b o n i.size)=some ((c.drop o).take (n*i.size),n):=by simp[cellsIn,hc];omega
  have hdt:=mJ hl;have hfull:cap<=n:=by
   obtain⟨_,_,_,_,_,_,_,hex⟩:=hr.dU b en _ Rr hc;have he:=(hex (.inl rfl)).2 rfl;by_cases hle:cap<=n
   ·exact hle
   ·have h2:(n+1)*i.size<=cap*i.size:=YZ _ Om;rw[Zf]at h2;omega
  obtain⟨_,_,_,hfo⟩:=cO hr.drew (y:=.slice b o n i.size) ⟨en,ca,cap,Rr,rfl,Rf,Ru,hroom⟩ U6;obtain⟨vo,hvo,Sf⟩:=hfo n (X8 _);obtain⟨_,_,Sk,_⟩:=cO hr (y:=.slice b o n i.size) ⟨en,ca,cap,Rr,rfl,Rf,Ru,hroom⟩ U6;obtain⟨_,_,_,RX⟩:=cO hr.drew hy Sr;obtain⟨vn,S0,QT⟩:=RX k (X8 _);rw[YE Om]at QT;rw[YE (by simp;omega),hdt]at Sf;rw[hdt]at Sk;obtain⟨nc,rest,Va,RP,QU⟩:=nR hts0 hts1 hs hbytes hbytes' hud hdk TB Om hb hlen hvo S0 T Vr;obtain⟨m',h0,h1,h2⟩:=j9 hr.drew (Sf.append QT) (by simp[Sk,hone]) rest e true true (λ_=>rfl);have RE:=QT.length;have Xk:=Sf.length;refine⟨_,_,m',QU,⟨_,_,nc,h0,rfl,Va,λ_=>rfl,?_⟩,h1,h2.Cs⟩
  exact z28
def Dt(n es cap:Nat)(h:n<=cap):n*es<=cap*es:=YZ _ h
def Kj{dT e:TypeId}{i:TypeInfo}{ts}(hts0:ts[0]? =some dT)(hs:dX P dT=some (e,i))(hspos:0<i.size)
  (hr:HR P m h w) {x y}{cx cy}(hx:VR m (ρ x) cx) (hy:VR m (ρ y) cy) (hf:dA (.wI i.size x y) ρ h=some (v,h')) (T:TypeId):
  ∃cv w' m',(Builtin.copy_ ts T #[cx,cy]).run P w=.ok cv w'/\VR m' v cv/\HR P m' h' w'/\Grow m h w m' h' w':=by
 obtain⟨hu,hi⟩:=fx hs;have Q7:∀w,(sizeOf e).run P w=.ok i.size w:=λw=>cw (by simp[dW,hi]) w
 simp only[dA]at hf;split at hf
 ·rename_i b o n es' ys k RI Sr;rw[RI]at hx;obtain⟨en,ca,cap,Rr,rfl,Rf,Ru,hroom⟩:=hx;obtain⟨hlen,SE,hone,QZ⟩:=cO hr hy Sr;obtain⟨vn,S0,QT⟩:=QZ (min k n) (Nat.min_le_left _ _);split at hf
  case isFalse=>cases hf
  rename_i hes;subst hes;have TX:Nat.min k n=min k n:=rfl;split at hf
  ·rename_i h0;cases hf;have Xl:vn=[]:=by rw[h0]at QT;simp[bD]at QT;exact QT
   subst Xl;refine⟨.int .i64 0,w,m,?_,rfl,hr,Grow.refl m h w hr.cN⟩;simp only[Builtin.copy_,hts0,Zo,Y8,Zh,Yh,Yg hu,X7,hlen,Q7,TX,S0,Yy,storeCells];simp[goInt,h0]
  ·rename_i h0;split at hf
   case h_2=>cases hf
   rename_i c tl hb;split at hf
   case isFalse=>cases hf
   rename_i hle;cases hf;have To:(ys.take (min k n*i.size)).all AV.one=true:=by
    rw[Yw]at hone ⊢
    exactλa ha=>hone a (Y5 ha)
   have VC:(ys.take (min k n*i.size)).length=min k n*i.size:=by
    have:=Dt (min k n) i.size k (Nat.min_le_left _ _);simp;omega
   obtain⟨w',bW,h1,h2⟩:=pg (ys.take (min k n*i.size)) vn hr Rr hb o 0 Om To QT;refine⟨.int .i64 (min k n:Nat),w',m,?_,rfl,h1,h2⟩;have UP:=Ru Om;subst UP;simp only[Builtin.copy_,hts0,Zo,Y8,Zh,Yh,Yg hu,X7,hlen,Q7,TX,S0,Yy,bW,goInt]
 ·rename_i RI Sr;rename_i p;obtain⟨ys,k⟩:=p;rw[RI,VR]at hx;subst hx;cases hf;obtain⟨hlen,SE,hone,QZ⟩:=cO hr hy Sr;obtain⟨vn,S0,QT⟩:=QZ 0 (Yt _);have TX:Nat.min k 0=0:=Nat.min_zero k;refine⟨.int .i64 0,w,m,?_,rfl,hr,Grow.refl m h w hr.cN⟩;simp only[Builtin.copy_,hts0,Zo,Y8,Zh,Yh,Yg hu,X7,hlen,Q7,TX,S0,Yy,goInt];rfl
 ·cases hf
end
section
variable {P:Program}{m:cp}{h h':ah}{w:World}{ρ:c6->AV}{v:AV}
theorem wo:∀{l}{vs}{bs},cL m l vs->l.mapM byteOf=some bs->
  ∀(acc:ByteArray),(forIn (m:=Sem) vs acc λc s=>
    match c with
    |.int .u8 n=>pure (ForInStep.yield (s.push (UInt8.ofNat n.toNat)))
    |_=>do
     (stuck "bytesToString: byte expected" :Sem PUnit)
     pure (ForInStep.yield s)).run P w=.ok ⟨⟨acc.data.toList++bs⟩⟩ w
 |[],vs,bs,hv,hb,acc=>by
  rw[bD]at hv;subst hv;simp at hb;subst hb;simp
 |x::xs,vs,bs,hv,hb,acc=>by
  obtain⟨y,ys,rfl,hy,hys⟩:=aS.1 hv;simp only[aaj,Z3,aar]at hb;cases hx:byteOf x with
  |none=>simp[hx]at hb
  |some b=>
   cases hl:xs.mapM byteOf with
   |none=>simp[hx,hl]at hb
   |some bs'=>
    simp[hx,hl]at hb;subst hb;unfold byteOf at hx;split at hx
    case h_2=>cases hx
    rename_i n;cases hx;rw[VR]at hy;subst hy;have:=wo hys hl (acc.push (UInt8.ofNat n.toNat));simp only[List.forIn_cons,Yh,Yy,X7];rw[this];simp[ByteArray.push]
def yR{e:TypeId}(h:Ed P e=true):P.underlying e=some (.int .u8):=by
 unfold Ed at h;split at h
 ·assumption
 ·cases h
def GZ{s d:TypeId}{k x cx}(hk:Cw P s d=some k)(hr:HR P m h w)(hx:VR m (ρ x) cx)(hf:dA (.conv k x) ρ h=some (v,h')):
  ∃cv w' m',(convert s d cx).run P w=.ok cv w'/\VR m' v cv/\HR P m' h' w'/\Grow m h w m' h' w':=by
 simp only[dA]at hf;have same:∀{cv:Value},(convert s d cx).run P w=.ok cv w->VR m v cv->h' =h->∃cv w' m',(convert s d cx).run P w=.ok cv w'/\VR m' v cv/\HR P m' h' w'/\Grow m h w m' h' w':=by
  intro cv h1 h2 h3;exact Jd
 unfold Cw at hk;split at hk
 ·rename_i k1 k2 hs hd;cases hk;simp only[j8]at hf;split at hf
  case h_2=>cases hf
  rename_i hρ;rw[hρ,VR]at hx;subst hx;cases hf;exact same (by simp[convert,Yg hs,Yg hd,Conv.intToInt]) rfl rfl
 ·rename_i k1 k2 hs hd;cases hk;simp only[j8]at hf;split at hf
  case h_2=>cases hf
  rename_i hρ;rw[hρ,VR]at hx;subst hx;cases hf;exact same (by simp[convert,Yg hs,Yg hd,Conv.intToFloat]) ⟨_,rfl,.inl rfl⟩ rfl
 ·rename_i k1 k2 hs hd;cases hk;simp only[j8]at hf;split at hf
  case h_2=>cases hf
  rename_i sk b hρ;rw[hρ]at hx;obtain⟨b',rfl,hfr⟩:=hx;split at hf
  case h_2=>cases hf
  rename_i n hn;split at hf
  case isFalse=>cases hf
  rename_i hc;cases hf;have hbb:b' =b:=by
   rcases hfr with h1|⟨h1,_⟩
   ·exact h1
   ·rw[hc.1]at h1;cases h1
  subst hbb;exact same (by simp[convert,Yg hs,Yg hd,Conv.floatToInt,hn,hc.2]) rfl rfl
 ·rename_i k1 k2 hs hd;cases hk;simp only[j8]at hf;split at hf
  case h_2=>cases hf
  rename_i sk b hρ;rw[hρ]at hx;obtain⟨b',rfl,hfr⟩:=hx;split at hf
  case isFalse=>cases hf
  rename_i hc;cases hf;subst hc;exact same (by simp[convert,Yg hs,Yg hd,Conv.floatToFloat]) ⟨_,rfl,hfr⟩ rfl
 ·rename_i hs hd;cases hk;simp only[j8]at hf;split at hf
  case h_2=>cases hf
  rename_i hρ;rw[hρ,VR]at hx;subst hx;cases hf;exact same (by simp[convert,Yg hs,Yg hd]) rfl rfl
 ·rename_i e hs hd;split at hk
  case isFalse=>cases hk
  rename_i he;have hue:P.underlying e=some (.int .u8):=yR he;cases hk;simp only[j8]at hf;split at hf
  case h_2=>cases hf
  rename_i s hρ;rw[hρ,VR]at hx;subst hx;cases hf;obtain⟨q,hq⟩:∃q:Question,q=.appendCap s.length 0 e:=⟨_,rfl⟩;obtain⟨nc,UA⟩:∃nc:Nat,nc=q.cut (w.tape w.drawn q):=⟨_,rfl⟩;have Va:s.length<=nc:=by rw[UA,hq];show s.length<=s.length+_;omega
  have SS:(choose (.appendCap s.length 0 e)).run P w=.ok nc w.drew:=by
   rw[run_choose,UA,hq];rfl
  let vs:List Value:=s.map λb=>.int .u8 b.toNat
  let rest:List Value:=List.replicate (nc-s.length) (.int .u8 0)
  have RE:vs.length=s.length:=by simp[vs]
  have Sg:rest.length=nc-s.length:=by simp[rest]
  let W:World:=(w.drew.alloc (.cells ⟨vs++rest⟩ e))
  let W':World:=W.freeze ⟨w.heap.size,nc,none⟩ 1
  have hWh:W.heap[w.heap.size]? =some (.cells ⟨vs++rest⟩ e):=World.alloc_heap_new w.drew _;have hlt:w.heap.size<W.heap.size:=(Ye.1 hWh).1;have hW':W'.heap[w.heap.size]? =some (.cells ⟨vs++rest⟩ e (nc,nc+1)):=by
   have hk:W.heap[w.heap.size]=.cells ⟨vs++rest⟩ e:=(Ye.1 hWh).2;show((if(1:Nat)=0 then W else {W with heap:=W.heap.modify w.heap.size _}).heap)[w.heap.size]? =_;rw[X5 Om];show(W.heap.modify w.heap.size _)[w.heap.size]? =_;rw[YL (by rw[Array.size_modify];exact hlt),Array.getElem_modify_self,hk];rfl
  have hother:∀i,i≠w.heap.size->W'.heap[i]? =W.heap[i]? :=by
   intro i hi;show((if(1:Nat)=0 then W else {W with heap:=W.heap.modify w.heap.size _}).heap)[i]? =_;rw[X5 Om];show(W.heap.modify w.heap.size _)[i]? =_;rw[Array.getElem?_modify,X5 (λx=>hi x.symm)]
  have Q7:W'.heap.size=W.heap.size:=by
   show((if(1:Nat)=0 then W else {W with heap:=W.heap.modify w.heap.size _}).heap).size=_;rw[X5 Om];simp
  obtain⟨m',h0,h1,h2⟩:=j9 hr.drew (mZ m s) (rq s) rest e true true (λ_=>rfl);have h0':m' h.length=some ⟨w.heap.size,0,vs.length+rest.length,true⟩:=h0;have hne:∀b e2 k2,m' b=some e2->b≠h.length->(h++[.cells (s.map λb=>.int .u8 b.toNat) true true])[b]? =some k2->k2.live=true->e2.cb≠w.heap.size:=by
   intro b e2 k2 hb hbl QS hl hcb;have:=h1.sep h.length b _ e2 (.cells (s.map λb=>.int .u8 b.toNat) true true) k2 (λx=>hbl x.symm) h0' hb Si QS hcb.symm;cases k2<;>first|exact absurd this.1 Si|exact this|(cases hl;done)
  have hgrow:Grow m h w m' (h++[.cells (s.map λb=>.int .u8 b.toNat) true true]) W':=by
   have g:=h2.Cs;refine⟨g.ext,g.len,g.new,g.tl,by rw[Q7];exact g.size,?_,?_,?_,?_⟩
   ·exact g.os
   ·exact g.out
   ·exact g.tape
   ·intro i hi hno;rw[hother i Om];exact g.frame i hi hno
  refine⟨.slice (some ⟨w.heap.size,0,none⟩) s.length nc,W',m',?_,⟨_,_,nc,h0',rfl,Va,λ_=>rfl,by show 0+0+nc*1<=vs.length+rest.length;omega⟩,⟨h1.cN,?_,h1.sep,h1.fZ,λb' e' hb'=>by have:=h1.lt b' e' hb';rw[Q7];exact this⟩,hgrow⟩
  ·have eC:(⟨⟨s⟩⟩:ByteArray).size=s.length:=rfl;have UE:(⟨s⟩:Array UInt8).map (λb=>Value.int .u8 b.toNat)=⟨vs⟩:=by apply aam;simp[vs]
   have RC:(⟨vs⟩:Array Value)++Array.replicate (nc-s.length) (.int .u8 0)=⟨vs++rest⟩:=by apply aam;simp[rest]
   have Xo:W.shape? w.heap.size=some (e,nc):=by
    simp only[World.shape?,hWh];simp[RE,Sg];omega
   simp only[convert,Yh,Yg hs,Yg hd,X7,Yg hue,Conv.stringToBytes,eC,SS,UE,RC,newRow,run_newObj,Yy];simp only[markStringish,Yh,run_shape];have Rm:World.shape? {heap:=w.drew.heap.push (Obj.cells ⟨vs++rest⟩ e),tape:=w.drew.tape,drawn:=w.drew.drawn,os:=w.drew.os,output:=w.drew.output} w.drew.heap.size=some (e,nc):=Xo;simp only[Rm,X7,run_freeze];rfl
  ·intro b e2 k2 hb QS;have R3:=h1.dU b e2 k2 hb QS;by_cases hbl:b=h.length
   ·subst hbl;rw[h0']at hb;cases hb;simp at QS;subst QS;obtain⟨cc,el,fz,hh,h3,h4,h5,h6⟩:=R3;have hWh':W.heap[w.heap.size]? =some (.cells cc el fz):=hh;rw[hWh]at hWh';cases hWh';refine⟨⟨vs++rest⟩,e,(nc,nc+1),hW',h3,h4,λ_=>⟨(h5 rfl).1,λi hi=>?_⟩,h6⟩;have:(⟨vs++rest⟩:Array Value).size=nc:=by simp[RE,Sg];omega
    simp only;omega
   ·by_cases hl:k2.live=true
    ·exact R3.heap (hother _ (hne b e2 k2 hb hbl QS hl))
    ·exact z141
 ·rename_i e hs hd;split at hk
  case isFalse=>cases hk
  rename_i he;have hue:P.underlying e=some (.int .u8):=yR he;cases hk;simp only[j8]at hf;split at hf
  ·rename_i hρ;rw[hρ,VR]at hx;subst hx;cases hf;exact same (by simp[convert,Yg hs,Yg hd,Yg hue,Conv.bytesToString];rfl) rfl rfl
  ·rename_i b o n es hρ;rw[hρ]at hx;split at hf
   case h_2=>cases hf
   rename_i l k hc;split at hf
   case h_2=>cases hf
   rename_i r hl;cases hf;obtain⟨hlen,SE,hone,QZ⟩:=cO hr hx hc;obtain⟨vs,RJ,QT⟩:=QZ k (X8 _);rw[YE Om]at QT;have hkn:k=n:=by
    unfold cellsIn at hc;simp only at hc;split at hc
    ·split at hc
     ·split at hc
      ·cases hc;rfl
      ·cases hc
     ·cases hc
    ·cases hc
   subst hkn;obtain⟨en,ca,cap,Rr,rfl,Rf,Ru,hroom⟩:=hx;simp only[Builtin.firstCells,Z4]at RJ;refine same (cv:=.string ⟨⟨r⟩⟩) ?_ rfl rfl;have hb:=wo (P:=P) (w:=w) QT hl ByteArray.empty;simp only[convert,Yh,Yg hs,Yg hd,X7,Yg hue,Conv.bytesToString,RJ];rw[<-Array.forIn_toList]
   erw [hb]
   simp
  ·cases hf
 ·cases hk
theorem v8:∀{l}{vs}{x v}{cx},VR m x cx->cL m l vs->iC pX x l=some v->∃cv,(vs.foldlM (m:=Sem) Builtin.max2 cx).run P w=.ok cv w/\VR m v cv
 |[],vs,x,v,cx,hx,hl,hf=>by
  exact z201
 |y::l,vs,x,v,cx,hx,hl,hf=>by
  obtain⟨cy,vs',rfl,hy,Q1⟩:=aS.1 hl;simp only[iC]at hf;split at hf
  case h_2=>cases hf
  rename_i z hz;unfold pX at hz;split at hz
  case h_2=>cases hz
  rename_i k a k' b;split at hz
  case isFalse=>cases hz
  cases hz;rw[VR]at hx hy;subst hx;subst hy;obtain⟨cv,h1,h2⟩:=v8 (x:=.int k (if b > a then b else a)) (cx:=.int k (if b > a then b else a)) rfl Q1 hf;exact⟨cv,by simp only[List.foldlM_cons,Yh,Builtin.max2,Yy,X7];exact h1,h2⟩
theorem v7:∀{l}{vs}{x v}{cx},VR m x cx->cL m l vs->iC pW x l=some v->∃cv,(vs.foldlM (m:=Sem) Builtin.min2 cx).run P w=.ok cv w/\VR m v cv
 |[],vs,x,v,cx,hx,hl,hf=>by
  exact z201
 |y::l,vs,x,v,cx,hx,hl,hf=>by
  obtain⟨cy,vs',rfl,hy,Q1⟩:=aS.1 hl;simp only[iC]at hf;split at hf
  case h_2=>cases hf
  rename_i z hz;unfold pW at hz;split at hz
  case h_2=>cases hz
  rename_i k a k' b;split at hz
  case isFalse=>cases hz
  cases hz;rw[VR]at hx hy;subst hx;subst hy;obtain⟨cv,h1,h2⟩:=v7 (x:=.int k (if b<a then b else a)) (cx:=.int k (if b<a then b else a)) rfl Q1 hf;exact⟨cv,by simp only[List.foldlM_cons,Yh,Builtin.min2,Yy,X7];exact h1,h2⟩
def BA{t e:TypeId}{i:TypeInfo}{n:Nat}{z:AV}{ps:Array (Nat×Operand)}{l:List (Nat×c6)}{σ:Operand->Value}(hs:dX P t=some (e,i))(hz:jy P e=some z)
  (hl:ps.toList.mapM (λp=>(cX p.2).map λy=>(p.1*i.size,y))=some l) (hspos:0<i.size) (hzs:z.cells.length=i.size) (h1:z.cells.all AV.one=true) (hn:n*i.size<=2^24)
  (hr:HR P m h w) (hρ:∀p∈ps.toList,∀y,cX p.2=some y->VR m (ρ y) (σ p.2)) {c:List AV}(hf:eM (dP n z.cells) (l.map λp=>(p.1,i.size,ρ p.2))=some c) (hc1:c.all AV.one=true) (hcl:c.length=n*i.size) (mu tl:Bool):
  ∃cv w' m',(Instr.buildSlice t n (ps.map λ(i,x)=>(i,σ x))).run P w=.ok cv w'/\VR m' (.slice h.length 0 n i.size) cv/\HR P m' (h++[.cells c mu tl]) w'/\Grow m h w m' (h++[.cells c mu tl]) w':=by
 have _:=h1;obtain⟨hu,hi⟩:=fx hs;obtain⟨cz,TB,Ua⟩:=jQ hz w m;have hzc:=Ua.cells;have eC:cz.cells.size=z.cells.length:=by have:=hzc.length;simpa using this
 have hzero:∀(row:Array Value),row=(Array.range (n*cz.cells.size)).map (cz.cells[·% cz.cells.size]!)->cL m (dP n z.cells) row.toList:=by
  intro row hrow;have:=sL hzc Om n n (X8 _);rw[<-hrow,YE]at this
  ·exact this
  ·rw[hrow];simp[eC]
 have Xs:∀(qs:List (Nat×Operand)) (l:List (Nat×c6)),qs.mapM (λp=>(cX p.2).map λy=>(p.1*i.size,y))=some l->qs.length=l.length/\∀(j:Nat) p q,qs[j]? =some p->l[j]? =some q->q.1=p.1*i.size/\cX p.2=some q.2:=by
  intro qs
  induction qs with
  |nil=>intro l hl;simp at hl;subst hl;exact⟨rfl,λj p q hp=>by simp at hp⟩
  |cons p qs ih=>
   intro l hl;simp only[aaj,Z3,aar]at hl;cases ho:cX p.2 with
   |none=>simp[ho]at hl
   |some y=>
    cases hr':qs.mapM (λp=>(cX p.2).map λy=>(p.1*i.size,y))with
    |none=>simp[ho,hr']at hl
    |some l'=>
     simp[ho,hr']at hl;subst hl;obtain⟨h2,h3⟩:=ih l' hr';refine⟨by simp[h2],λj a b ha hb=>?_⟩;cases j with
     |zero=>simp at ha hb;subst ha;subst hb;exact⟨rfl,ho⟩
     |succ j=>exact h3 j a b (by simpa using ha) (by simpa using hb)
 obtain⟨TW,hpq⟩:=Xs _ _ hl;by_cases Vb:n*i.size=0
 ·have hnz:n=0:=by
   rcases Nat.mul_eq_zero.1 Vb with h|h
   ·exact h
   ·omega
  obtain⟨Rv,R5,RJ⟩:=qC (m:=m) (λj=>some (j*i.size,i.size)) (ps.toList.map λp=>(p.1,σ p.2)) (l.map λp=>(p.1,i.size,ρ p.2)) (dP n z.cells) #[] c (by simp[TW])
   (λj p q hp hq=>by
    simp only[Zp,Yj]at hp hq;obtain⟨p0,hp0,rfl⟩:=hp;obtain⟨q0,hq0,rfl⟩:=hq;obtain⟨h2,h3⟩:=hpq j p0 q0 hp0 hq0;exact⟨by simp[h2],hρ p0 (YO hp0) _ h3⟩) (by subst hnz;simp[dP,bD]) hf
  obtain⟨m',h2,h3,h4⟩:=lO hr RJ hc1 e mu tl;have RE:=RJ.length;refine⟨.slice (some ⟨w.heap.size,0,none⟩) n n,_,m',?_,⟨_,_,n,h2,rfl,X8 _,λ_=>rfl,by show 0+0+n*i.size<=Rv.toList.length;omega⟩,h3,h4⟩;have Q4:¬(n*i.size > 2^24):=Om
  have Q7:(sizeOf e).run P w=.ok i.size w:=cw (by simp[dW,hi]) w;have e0:(Array.range 0).map (λx=>(#[] :Array Value)[x%(#[] :Array Value).size]!)=#[]:=Si
  simp only[Instr.buildSlice,Yh,Yg hu,X7,Q7,Q4,Yb];simp only[Vb,Yf,Yh,X7,Yy,e0];exact JO
 ·obtain⟨Rv,R5,RJ⟩:=qC (m:=m) (λj=>some (j*i.size,i.size)) (ps.toList.map λp=>(p.1,σ p.2)) (l.map λp=>(p.1,i.size,ρ p.2)) (dP n z.cells) ((Array.range (n*i.size)).map (cz.cells[·% cz.cells.size]!)) c (by simp[TW])
   (λj p q hp hq=>by
    simp only[Zp,Yj]at hp hq;obtain⟨p0,hp0,rfl⟩:=hp;obtain⟨q0,hq0,rfl⟩:=hq;obtain⟨h2,h3⟩:=hpq j p0 q0 hp0 hq0;exact⟨by simp[h2],hρ p0 (YO hp0) _ h3⟩) (hzero _ (by rw[eC,hzs])) hf
  obtain⟨m',h2,h3,h4⟩:=lO hr RJ hc1 e mu tl;have RE:=RJ.length;refine⟨.slice (some ⟨w.heap.size,0,none⟩) n n,_,m',?_,⟨_,_,n,h2,rfl,X8 _,λ_=>rfl,by show 0+0+n*i.size<=Rv.toList.length;omega⟩,h3,h4⟩;have Q4:¬(n*i.size > 2^24):=Om
  have Q7:(sizeOf e).run P w=.ok i.size w:=cw (by simp[dW,hi]) w;simp only[Instr.buildSlice,Yh,Yg hu,X7,Q7,Q4,Yb,Vb,Yy,TB];exact JO
def wi{op}{t:TypeId}{x y xs ys}(hm:P.eqGuardType P.depth t=false):(eqGuard op t x y (.agg xs) (.agg ys)).run P w=.ok () w:=by
 cases op<;>simp[eqGuard,run_program,hm]
def ku{op}{t:TypeId}{x y a b}(h1:∀l,a≠.agg l)(h2:a≠.nilIface):(eqGuard op t x y a b).run P w=.ok () w:=by
 cases op<;>cases a<;>first
  |rfl
  |exact absurd rfl h2
  |exact absurd rfl (h1 _)
def VR.KJ{x cx}(hx:VR m x cx)(h1:x.one=true):(∀l,cx≠.agg l)/\cx≠.nilIface:=by
 have hc:=hx.tS h1;refine⟨λl e=>?_,λe=>?_⟩
 ·subst e;cases hc
 ·subst e;cases x<;>simp[VR,AV.one]at hx h1
def DE{t:TypeId}{e:TypeId}(hu:P.underlying t=some (.slice e)){x y cx cy b}(hx:VR m x cx)(hy:VR m y cy)(hb:OA x y=some b)(d:Nat):
  (Op.equalIn (d+1) t cx cy).run P w=.ok b w/\(∀l,cx≠.agg l)/\cx≠.nilIface/\(binOp .eql t cx cy=do pure (.bool (<-Op.equal t cx cy)))/\(binOp .neq t cx cy=do pure (.bool (!(<-Op.equal t cx cy)))):=by
 unfold OA at hb;split at hb
 ·rw[VR]at hx hy;subst hx;subst hy;cases hb;exact AI
 ·rw[VR]at hx;obtain⟨_,ca,cap,_,rfl,_⟩:=hy;subst hx;cases hb;exact AI
 ·rw[VR]at hy;obtain⟨_,ca,cap,_,rfl,_⟩:=hx;subst hy;cases hb;exact AI
 ·cases hb
def DF{t:TypeId}{e:TypeId}(hu:P.underlying t=some (.pointer e)){x y cx cy b}(hx:VR m x cx)(hy:VR m y cy)(hb:OB x y=some b)(d:Nat):
  (Op.equalIn (d+1) t cx cy).run P w=.ok b w/\(∀l,cx≠.agg l)/\cx≠.nilIface/\(binOp .eql t cx cy=do pure (.bool (<-Op.equal t cx cy)))/\(binOp .neq t cx cy=do pure (.bool (!(<-Op.equal t cx cy)))):=by
 unfold OB at hb;split at hb
 ·rw[VR]at hx hy;subst hx;subst hy;cases hb;exact AI
 ·rw[VR]at hx;obtain⟨_,_,rfl⟩:=hy;subst hx;cases hb;exact AI
 ·rw[VR]at hy;obtain⟨_,_,rfl⟩:=hx;subst hy;cases hb;exact AI
 ·cases hb
def DH{t:TypeId}{e f g}(hu:P.underlying t=some (.func e f g)){x y cx cy b}(hx:VR m x cx)(hy:VR m y cy)(hb:OD x y=some b)(d:Nat):
  (Op.equalIn (d+1) t cx cy).run P w=.ok b w/\(∀l,cx≠.agg l)/\cx≠.nilIface/\(binOp .eql t cx cy=do pure (.bool (<-Op.equal t cx cy)))/\(binOp .neq t cx cy=do pure (.bool (!(<-Op.equal t cx cy)))):=by
 unfold OD at hb;split at hb
 ·rw[VR]at hx hy;subst hx;subst hy;cases hb;exact AI
 ·rw[VR]at hx;obtain⟨_,_,_,rfl,_⟩:=hy;subst hx;cases hb;exact AI
 ·rw[VR]at hy;obtain⟨_,_,_,rfl,_⟩:=hx;subst hy;cases hb;exact AI
 ·cases hb
def DG{t:TypeId}{e f:TypeId}(hu:P.underlying t=some (.map e f)){x y cx cy b}(hx:VR m x cx)(hy:VR m y cy)(hb:OC x y=some b)(d:Nat):
  (Op.equalIn (d+1) t cx cy).run P w=.ok b w/\(∀l,cx≠.agg l)/\cx≠.nilIface/\(binOp .eql t cx cy=do pure (.bool (<-Op.equal t cx cy)))/\(binOp .neq t cx cy=do pure (.bool (!(<-Op.equal t cx cy)))):=by
 unfold OC at hb;split at hb
 ·rw[VR]at hx hy;subst hx;subst hy;cases hb;exact AI
 ·rw[VR]at hx;obtain⟨_,_,rfl⟩:=hy;subst hx;cases hb;exact AI
 ·rw[VR]at hy;obtain⟨_,_,rfl⟩:=hx;subst hy;cases hb;exact AI
 ·cases hb
def FP{t:TypeId}{neg k x y ox oy cx cy}(hk:HO P neg t x y=some (.eqv neg k x y))(hx:VR m (ρ x) cx)(hy:VR m (ρ y) cy)(hf:dA (.eqv neg k x y) ρ h=some (v,h')):
  ∃cv,(do eqGuard (if neg then .neq else .eql) t ox oy cx cy;binOp (if neg then .neq else .eql) t cx cy:Sem Value).run P w=.ok cv w/\VR m v cv/\h' =h:=by
 simp only[dA]at hf;split at hf
 case h_2=>cases hf
 rename_i b hb;cases hf;have fin:(eqGuard (if neg then .neq else .eql) t ox oy cx cy).run P w=.ok () w->(Op.equalIn 10000 t cx cy).run P w=.ok b w->(binOp .eql t cx cy=do pure (.bool (<-Op.equal t cx cy)))->(binOp .neq t cx cy=do pure (.bool (!(<-Op.equal t cx cy))))->
   ∃cv,(do eqGuard (if neg then .neq else .eql) t ox oy cx cy;binOp (if neg then .neq else .eql) t cx cy:Sem Value).run P w=.ok cv w/\VR m (.bool (if neg then !b else b)) cv/\h=h:=by
  intro h1 h2 h3 h4;refine⟨.bool (if neg then !b else b),?_,rfl,rfl⟩;simp only[Yh,h1,X7];cases neg
  ·simp only[YK,Yb,h3,Yh,Op.equal,Op.maxDepth,h2,X7,Yy]
  ·simp only[Yf,h4,Yh,Op.equal,Op.maxDepth,h2,X7,Yy]
 unfold HO at hk;split at hk<;>first
  |(cases hk;done)
  |skip
 ·rename_i hu;cases hk;have hb':dx .b (ρ x) (ρ y)=some b:=hb;have hone:(ρ x).one=true:=by unfold dx at hb';split at hb'<;>first|(cases hb';done)|simp_all [AV.one]
  obtain⟨n1,n2⟩:=hx.KJ hone;obtain⟨a,c,hxa,Sr⟩:∃a c,ρ x=.bool a/\ρ y=.bool c:=by unfold dx at hb';split at hb'<;>first|(cases hb';done)|simp_all
  rw[hxa,VR]at hx;rw[Sr,VR]at hy;subst hx;subst hy;refine fin (ku n1 n2) ?_ rfl rfl;exact q8 (m:=m) (t:=t) (k:=.b) hu (x:=.bool a) (y:=.bool c) rfl rfl (by rw[<-hxa,<-Sr];exact hb') 9999
 ·rename_i fs hu;exact P3
 ·rename_i n e hu;exact P3
 ·rename_i e hu;cases hk;obtain⟨h1,h2,h3,h4,h5⟩:=DE (w:=w) hu hx hy hb 9999;exact z139
 ·rename_i e hu;cases hk;obtain⟨h1,h2,h3,h4,h5⟩:=DF (w:=w) hu hx hy hb 9999;exact z139
 ·rename_i hu;cases hk;obtain⟨h1,h2,h3,h4,h5⟩:=DH (w:=w) hu hx hy hb 9999;exact z139
 ·rename_i hu;cases hk;obtain⟨h1,h2,h3,h4,h5⟩:=DG (w:=w) hu hx hy hb 9999;exact z139
end
def mM(k:o6)(ρ:c6->AV)(h:ah)(v:AV)(h':ah):Prop:=
 match k with
 |.call _ _=>False
 |.app es w x y=>wE es w (ρ x) (ρ y) h v h'
 |.aF es n z ps=>∃c mu tl,eM (dP n z) (ps.map λp=>(p.1,es,ρ p.2))=some c/\c.all AV.one=true/\c.length=n*es/\v=.slice h.length 0 n es/\h' =h++[.cells c mu tl]
 |k=>dA k ρ h=some (v,h')
section
variable {P:Program}{m:cp}{h h':ah}{w:World}{ρ:c6->AV}{v:AV}{σ:Operand->Value}
def eU.nF{r:Result Value}(hr:HR P m h w)(hx:∃cv,r=.ok cv w/\VR m v cv/\h' =h){R:Result Next}(hR:∀cv,r=.ok cv w->R=.ok (.value cv) w):eU P m h w v h' R:=by
 obtain⟨cv,h1,h2,rfl⟩:=hx;exact eU.same hr h2 (hR cv h1)
def eU.zo{r:Result Value}(hx:∃cv w' m',r=.ok cv w'/\VR m' v cv/\HR P m' h' w'/\Grow m h w m' h' w'){R:Result Next}(hR:∀cv w',r=.ok cv w'->R=.ok (.value cv) w'):eU P m h w v h' R:=by
 obtain⟨cv,w',m',h1,h2,h3,h4⟩:=hx;exact⟨cv,w',m',.inl (hR cv w' h1),h2,h3,h4⟩
def nU{l l'}(hl:yH l=some l')(hρ:∀x∈l,∀x',cX x=some x'->VR m (ρ x') (σ x)):cL m (l'.map ρ) (l.map σ).toList:=by
 have key:∀(l:List Operand) (l':List c6),l.mapM cX=some l'->(∀x∈l,∀x',cX x=some x'->VR m (ρ x') (σ x))->cL m (l'.map ρ) (l.map σ):=by
  intro l
  induction l with
  |nil=>intro l' h _;simp at h;subst h;exact bD.2 rfl
  |cons x l ih=>
   intro l' h hρ;simp only[aaj,Z3,aar]at h;cases hx:cX x with
   |none=>simp[hx]at h
   |some y=>
    cases hl:l.mapM cX with
    |none=>simp[hx,hl]at h
    |some l2=>
     simp[hx,hl]at h;subst h;exact aS.2 ⟨_,_,rfl,hρ x Si y hx,ih l2 hl (λx' QV=>hρ x' (by simp[QV]))⟩
 have:=key l.toList l' hl (λx hx=>hρ x (by simpa using hx))
 simpa using this
def rk{lo lo'}(hl:vj lo=some lo')(hρ:∀x∈lo,∀x',cX x=some x'->VR m (ρ x') (σ x)):
  oZ m ρ lo' (lo.map σ):=by
 cases lo with
 |none=>simp[vj]at hl;subst hl;trivial
 |some x=>
  simp only[vj,Yj]at hl;obtain⟨y,hy,rfl⟩:=hl;exact hρ x rfl y hy
def Kk{op}{t:TypeId}{x y ox oy cx cy}(hr:HR P m h w)(hx:VR m (ρ x) cx)(hy:VR m (ρ y) cy)(hf:dA (.bin op x y) ρ h=some (v,h')):
  ∃cv w' m',(do eqGuard op t ox oy cx cy;binOp op t cx cy:Sem Value).run P w=.ok cv w'/\VR m' v cv/\HR P m' h' w'/\Grow m h w m' h' w':=by
 simp only[dA]at hf;split at hf
 case h_2=>cases hf
 rename_i u hu;cases hf;have fin:∀{cv:Value},(eqGuard op t ox oy cx cy).run P w=.ok () w->(binOp op t cx cy).run P w=.ok cv w->VR m v cv->
   ∃cv w' m',(do eqGuard op t ox oy cx cy;binOp op t cx cy:Sem Value).run P w=.ok cv w'/\VR m' v cv/\HR P m' h w'/\Grow m h w m' h w':=by
  intro cv h1 h2 h3;exact⟨cv,w,m,by simp only[Yh,h1,X7,h2],h3,hr,Grow.refl m h w hr.cN⟩
 unfold ez at hu;split at hu
 ·rename_i k a k' b RI Xe;rw[RI,VR]at hx;rw[Xe,VR]at hy;subst hx;subst hy;have hg:(eqGuard op t ox oy (.int k a) (.int k' b)).run P w=.ok () w:=ku (λl=>by simp) Si;split at hu
  ·rename_i hs;obtain⟨cv,h1,h2⟩:=wT (P:=P) (m:=m) (w:=w) (k':=k') hs hu t;exact fin hg h1 h2
  ·rename_i hs;split at hu
   case isFalse=>cases hu
   rename_i hk;subst hk;obtain⟨cv,h1,h2⟩:=wW (P:=P) (m:=m) (w:=w) (by simpa using hs) hu t;exact fin hg h1 h2
 ·rename_i a b RI Xe;rw[RI,VR]at hx;rw[Xe,VR]at hy;subst hx;subst hy;obtain⟨cv,h1,h2⟩:=wS (P:=P) (m:=m) (w:=w) hu t;exact fin (ku (λl=>by simp) Si) h1 h2
 ·cases hu
def sF{b ts l k R6}(hk:oh P b ts l=some k)(hargs:cL m (l.map ρ) R6.toList)(hr:HR P m h w)(hs:mM k ρ h v h')(T:TypeId)(cs:Array Bool):
  ∃cv w' m',(builtin b ts T cs R6).run P w=.ok (.value cv) w'/\VR m' v cv/\HR P m' h' w'/\Grow m h w m' h' w':=by
 have same:∀{cv:Value},(builtin b ts T cs R6).run P w=.ok (.value cv) w->VR m v cv->h' =h->∃cv w' m',(builtin b ts T cs R6).run P w=.ok (.value cv) w'/\VR m' v cv/\HR P m' h' w'/\Grow m h w m' h' w':=by
  intro cv h1 h2 h3;exact Jd
 have args1:∀{x:c6},cL m [ρ x] R6.toList->∃cx,R6=#[cx]/\VR m (ρ x) cx:=by
  intro x h1;obtain⟨cx,r,VI,TT,Ub⟩:=aS.1 h1;rw[bD]at Ub;subst Ub;exact⟨cx,by apply aam;rw[VI],TT⟩
 have WA:∀{x y:c6},cL m [ρ x,ρ y] R6.toList->∃cx cy,R6=#[cx,cy]/\VR m (ρ x) cx/\VR m (ρ y) cy:=by
  intro x y h1;obtain⟨cx,r,VI,TT,Ub⟩:=aS.1 h1;obtain⟨cy,r',hcy,hvy,hr1⟩:=aS.1 Ub;rw[bD]at hr1;subst hr1;subst hcy;exact⟨cx,cy,by apply aam;rw[VI],TT,hvy⟩
 unfold oh at hk;split at hk
 ·
  rename_i x;obtain⟨cx,rfl,hx⟩:=args1 hargs;have tZ:∀(lk:LK) (t0:TypeId) (d:TypeDesc),ts[0]? =some t0->P.underlying t0=some d->(match lk with|.sl=>∃e,d=.slice e|.st=>d=.string|.mp=>∃a b,d=.map a b)->dA (.len lk x) ρ h=some (v,h')->
    ∃cv w' m',(builtin .len ts T cs #[cx]).run P w=.ok (.value cv) w'/\VR m' v cv/\HR P m' h' w'/\Grow m h w m' h' w':=by
   intro lk t0 d S2 hu hd QQ;simp only[dA]at QQ;split at QQ
   case h_2=>cases QQ
   rename_i n hn;cases QQ;have go:(Builtin.len_ ts T #[cx]).run P w=.ok (.int .i64 n) w:=by
    unfold zN at hn;split at hn
    ·rename_i s hρ;rw[hρ,VR]at hx;subst hx;split at hn
     case isFalse=>cases hn
     rename_i S9;subst S9;cases hn;cases hd;have:(⟨⟨s⟩⟩:ByteArray).size=s.length:=rfl;simp[Builtin.len_,S2,Yg hu,goInt,this]
    ·rename_i b o n' es hρ;rw[hρ]at hx;obtain⟨_,ca,cap,_,rfl,_⟩:=hx;exact JT
    ·rename_i hρ;rw[hρ,VR]at hx;subst hx;exact JT
    ·rename_i r hρ;rw[hρ]at hx;obtain⟨e,he,rfl⟩:=hx;split at hn
     case h_2=>cases hn
     rename_i es hb;split at hn
     case isFalse=>cases hn
     rename_i S9;subst S9;cases hn;obtain⟨a,b,rfl⟩:=hd;obtain⟨_,SX,clock,hheap,hlen,_⟩:=hr.dU r e _ he hb;simp[Builtin.len_,S2,Yg hu,goInt,ki hheap rfl,hlen]
    ·rename_i hρ;rw[hρ,VR]at hx;subst hx;split at hn
     case isFalse=>cases hn
     rename_i S9;subst S9;cases hn;obtain⟨a,b,rfl⟩:=hd;simp[Builtin.len_,S2,Yg hu,goInt]
    ·cases hn
   exact⟨.int .i64 n,w,m,by simp only[builtin,Yh,go,X7,Yy],rfl,hr,Grow.refl m h w hr.cN⟩
  split at hk
  ·rename_i e hd;cases hk;obtain⟨t0,S2,TL⟩:=YX.1 hd;exact tZ .sl t0 _ S2 TL ⟨e,rfl⟩ hs
  ·rename_i hd;cases hk;obtain⟨t0,S2,TL⟩:=YX.1 hd;exact tZ .st t0 _ S2 TL rfl hs
  ·rename_i a b hd;cases hk;obtain⟨t0,S2,TL⟩:=YX.1 hd;exact tZ .mp t0 _ S2 TL ⟨a,b,rfl⟩ hs
  ·rename_i n e hd;cases hk;obtain⟨t0,S2,TL⟩:=YX.1 hd;have QQ:dA (.zM n) ρ h=some (v,h'):=hs;simp only[dA,Yq,aaf]at QQ;obtain⟨rfl,rfl⟩:=QQ;exact same (cv:=.int .i64 n) (by simp[builtin,Builtin.len_,S2,Yg TL,goInt]) rfl rfl
  ·cases hk
 ·
  rename_i x y;obtain⟨cx,cy,rfl,hx,hy⟩:=WA hargs;have appF:∀(e:TypeId) (i:TypeInfo) (d:TypeDesc),(ts[0]?).bind (dX P)=some (e,i)->(ts[1]?).bind P.underlying=some d->(∀k,d≠.int k)->
    (if 0<i.size/\0<i.bytes/\i.bytes<=2^20 then(i.zero.bind (mE 4)).bind λz=>if z.cells.length=i.size then some (o6.app i.size i.bytes x y)else none else none)=some k->
    ∃cv w' m',(builtin .append ts T cs #[cx,cy]).run P w=.ok (.value cv) w'/\VR m' v cv/\HR P m' h' w'/\Grow m h w m' h' w':=by
   intro e i d h0 h1 hd hk;obtain⟨sT,hts0,hsl⟩:=YX.1 h0;obtain⟨xT,hts1,hud⟩:=YX.1 h1;split at hk
   case isFalse=>cases hk
   rename_i hc;obtain⟨c1,c2,c3⟩:=hc;obtain⟨z,hz,hk⟩:=YX.1 hk;split at hk
   case isFalse=>cases hk
   rename_i hzl;cases hk;obtain⟨cv,w',m',h2,h3,h4,h5⟩:=Kl (w:=w) hts0 hts1 hsl c1 c2 c3 hud hd hz hzl hr hx hy hs T;exact⟨cv,w',m',by simp only[builtin,Yh,h2,X7,Yy],h3,h4,h5⟩
  split at hk
  ·rename_i e i e2 h0 h1;exact appF e i _ h0 h1 (λk=>by simp) hk
  ·rename_i e i h0 h1;exact appF e i _ h0 h1 (λk=>by simp) hk
  ·cases hk
 ·
  rename_i x y;obtain⟨cx,cy,rfl,hx,hy⟩:=WA hargs;split at hk
  case h_2=>cases hk
  rename_i e i h0;split at hk
  case isFalse=>cases hk
  rename_i hpos;cases hk;obtain⟨dT,hts0,hsl⟩:=YX.1 h0;obtain⟨cv,w',m',h2,h3,h4,h5⟩:=Kj (w:=w) hts0 hsl hpos hr hx hy hs T;exact⟨cv,w',m',by simp only[builtin,Yh,h2,X7,Yy],h3,h4,h5⟩
 ·
  rename_i x l;cases hk;have QQ:dA (.mx x l) ρ h=some (v,h'):=hs;simp only[dA]at QQ;split at QQ
  case h_2=>cases QQ
  rename_i u hu;cases QQ;obtain⟨cx,r,VI,TT,QT⟩:=aS.1 hargs;obtain⟨cv,h1,h2⟩:=v8 (P:=P) (w:=w) TT QT hu;exact same (by simp only[builtin,Builtin.max_,VI,Yh,h1,X7,Yy]) h2 rfl
 ·
  rename_i x l;cases hk;have QQ:dA (.mn x l) ρ h=some (v,h'):=hs;simp only[dA]at QQ;split at QQ
  case h_2=>cases QQ
  rename_i u hu;cases QQ;obtain⟨cx,r,VI,TT,QT⟩:=aS.1 hargs;obtain⟨cv,h1,h2⟩:=v7 (P:=P) (w:=w) TT QT hu;exact same (by simp only[builtin,Builtin.min_,VI,Yh,h1,X7,Yy]) h2 rfl
 ·cases hk
def wO{o:Oper}{k:o6}(hc:ee P o=some k)(hρ:∀x∈o.op.operands,∀x',cX x=some x'->VR m (ρ x') (σ x))(hcst:∀z,ρ (.c z)=z)(hr:HR P m h w)(hs:mM k ρ h v h'):
  eU P m h w v h' ((execOp σ o).run P w):=by
 unfold ee at hc;cases QR:o.op with
 |move x=>
  exact PX
 |assign x=>
  exact PX
 |pick c a b=>
  simp only[QR]at hc;split at hc
  case h_2=>cases hc
  rename_i c' a' b' Sc VK hb';cases hc;have QQ:dA (.pick c' a' b') ρ h=some (v,h'):=hs;simp only[dA]at QQ;split at QQ
  case h_2=>cases QQ
  rename_i t ht;cases QQ;have h1:=hρ c (by simp[QR,Op.operands]) c' Sc;rw[ht,VR]at h1;refine eU.same (cv:=if t then σ a else σ b) hr ?_ (by simp[execOp,QR,h1,asBool]);cases t
  ·exact hρ b (by simp[QR,Op.operands]) b' hb'
  ·exact hρ a (by simp[QR,Op.operands]) a' VK
 |alloc e=>
  simp only[QR]at hc;split at hc
  case h_2=>cases hc
  rename_i z hz;split at hc
  case isFalse=>cases hc
  rename_i h1;cases hc;have QQ:dA (.box (.c z)) ρ h=some (v,h'):=hs;simp only[dA,hcst,h1,Yf,Yq,aaf]at QQ;obtain⟨rfl,rfl⟩:=QQ;obtain⟨cz,TB,Ua⟩:=jQ hz w m;obtain⟨m',h2,h3,h4,h5⟩:=tf hr Ua h1 e true false;exact⟨_,_,m',.inl (by simp only[execOp,QR,Instr.alloc,Yh,TB,X7,h2,Yy]),h3,h4,h5⟩
 |box e x=>
  simp only[QR,Yj]at hc;obtain⟨x',QV,rfl⟩:=hc;have QQ:dA (.box x') ρ h=some (v,h'):=hs;simp only[dA]at QQ;split at QQ
  case isFalse=>cases QQ
  rename_i h1;cases QQ;obtain⟨m',h2,h3,h4,h5⟩:=tf hr (hρ x (by simp[QR,Op.operands]) x' QV) h1 e true false;exact⟨_,_,m',.inl (by simp only[execOp,QR,Instr.box,Yh,X7,h2,Yy]),h3,h4,h5⟩
 |build t ps=>
  simp only[QR]at hc;split at hc
  case h_2=>cases hc
  rename_i z l hz hl;split at hc
  case isFalse=>cases hc
  rename_i hp;cases hc;have QQ:dA (.build z.cells l) ρ h=some (v,h'):=hs;exact eU.nF hr (DC (w:=w) (σ:=σ) hz hl hp (λp hp y hy=>hρ p.2 (by simp only[QR,Op.operands];simp only[List.mem_toArray,Ys];exact⟨p,hp,rfl⟩) y hy) QQ) (λcv h=>by simp[execOp,QR,h])
 |buildSlice t n ps=>
  simp only[QR]at hc;split at hc
  case h_2=>cases hc
  rename_i e i hsl;split at hc
  case h_2=>cases hc
  rename_i z l hz hl;split at hc
  case isFalse=>cases hc
  rename_i Q9;obtain⟨h1,h2,h3,h4⟩:=Q9;cases hc;obtain⟨c,mu,tl,R5,hc1,hcl,rfl,rfl⟩:=hs;exact eU.zo (BA (w:=w) (σ:=σ) hsl hz hl h1 h2 h3 h4 hr (λp hp y hy=>hρ p.2 (by simp only[QR,Op.operands];simp only[List.mem_toArray,Ys];exact⟨p,hp,rfl⟩) y hy) R5 hc1 hcl mu tl) (λcv w' h=>by simp[execOp,QR,h])
 |load t a=>
  simp only[QR]at hc;split at hc
  case h_2=>cases hc
  rename_i n a' hn VK;cases hc;exact eU.nF hr (Bz hn hr (hρ a (by simp[QR,Op.operands]) a' VK) hs) (λcv h=>by simp[execOp,QR,h])
 |store t a x=>
  simp only[QR]at hc;split at hc
  case h_2=>cases hc
  rename_i n a' x' hn VK QV;cases hc;obtain⟨w',h1,rfl,h2,h3⟩:=Dz (w:=w) hn hr (hρ a (by simp[QR,Op.operands]) a' VK) (hρ x (by simp[QR,Op.operands]) x' QV) hs;exact⟨undef,w',m,.inr ⟨by simp[execOp,QR,h1],rfl⟩,jR m,h2,h3⟩
 |nilCheck x=>
  simp only[QR,Yj]at hc;obtain⟨x',QV,rfl⟩:=hc;have QQ:dA (.bz x') ρ h=some (v,h'):=hs;have h1:=hρ x (by simp[QR,Op.operands]) x' QV;simp only[dA]at QQ;split at QQ
  ·rename_i b o hv;cases QQ;rw[hv]at h1;have h1':=h1;obtain⟨e,he,h2⟩:=h1;exact eU.same hr h1' (by simp[execOp,QR,h2])
  ·rename_i f a c hv;exact MJ
  ·rename_i f a c hv;cases QQ;rw[hv]at h1;have h1':=h1;obtain⟨f',a',c',h2,h3,_⟩:=h1;obtain⟨e,he,rfl⟩:=h3;exact eU.same hr h1' (by simp[execOp,QR,h2])
  ·rename_i t' n a c hv;exact MJ
  ·rename_i t' p f q a c hv;exact MJ
  ·cases QQ
 |binOp op t x y ty=>
  simp only[QR]at hc;split at hc
  case h_2=>cases hc
  rename_i x' y' QV hy';have hx:=hρ x (by simp[QR,Op.operands]) x' QV;have hy:=hρ y (by simp[QR,Op.operands]) y' hy';have bin:∀{op':BinOp},o.op=.binOp op' t x y ty->k=.bin op' x' y'->eU P m h w v h' ((execOp σ o).run P w):=by
   intro op' ho hk;subst hk;exact eU.zo (Kk (op:=op') (t:=t) (ox:=x) (oy:=y) hr hx hy hs) (λcv w' h=>by simp only[execOp,ho];rw[Yh,h];rfl)
  have eqv:∀(neg:Bool),o.op=.binOp (if neg then .neq else .eql) t x y ty->HO P neg t x' y' =some k->eU P m h w v h' ((execOp σ o).run P w):=by
   intro neg ho hk;have hk0:=hk;unfold HO at hk;split at hk
   ·cases hk;exact bin ho rfl
   ·cases hk;exact bin ho rfl
   ·cases hk;exact bin ho rfl
   ·exact I7
   ·exact PR
   ·exact PR
   ·exact I7
   ·exact I7
   ·exact I7
   ·exact I7
   ·cases hk
  split at hc
  ·exact eqv false QR hc
  ·exact eqv true QR hc
  ·cases hc;exact bin QR rfl
 |unOp op t x=>
  simp only[QR,Yj]at hc;obtain⟨x',QV,rfl⟩:=hc;have QQ:dA (.un op x') ρ h=some (v,h'):=hs;simp only[dA]at QQ;split at QQ
  case h_2=>cases QQ
  rename_i u hu;cases QQ;obtain⟨cv,h1,h2⟩:=DD (P:=P) (w:=w) (hρ x (by simp[QR,Op.operands]) x' QV) hu;exact eU.same hr h2 (by simp[execOp,QR,h1])
 |convert s d x=>
  simp only[QR]at hc;split at hc
  case h_2=>cases hc
  rename_i ck x' R9 QV;cases hc;exact eU.zo (GZ R9 hr (hρ x (by simp[QR,Op.operands]) x' QV) hs) (λcv w' h=>by simp[execOp,QR,h])
 |makeInterface u x=>
  simp only[QR]at hc;split at hc
  ·cases hc
  ·rename_i d x' hni hd QV;cases hc;have QQ:dA (.conv (.qn u) x') ρ h=some (v,h'):=hs;simp only[dA,j8,Yq,aaf]at QQ;obtain⟨rfl,rfl⟩:=QQ;have hx2:=hρ x (by simp[QR,Op.operands]) x' QV;refine eU.same (cv:=.iface u (σ x)) hr ⟨_,rfl,hx2⟩ ?_;simp only[execOp,QR,Instr.makeInterface,Yh,Yg hd,X7];cases d<;>first|rfl|exact absurd rfl (hni _)
  ·cases hc
 |makeFunc fn a c=>
  simp only[QR]at hc;split at hc
  case isFalse=>cases hc
  rename_i hfn;split at hc
  case h_2=>cases hc
  rename_i a' c' VK Sc;cases hc;have QQ:dA (.kY fn a' c') ρ h=some (v,h'):=hs;simp only[dA,Yq,aaf]at QQ;obtain⟨rfl,rfl⟩:=QQ;have h1:=nU (m:=m) (ρ:=ρ) (σ:=σ) VK (λx hx=>hρ x (by simp only[QR,Op.operands];exact Array.mem_append.2 (.inl hx)));have h2:=nU (m:=m) (ρ:=ρ) (σ:=σ) Sc (λx hx=>hρ x (by simp only[QR,Op.operands];exact Array.mem_append.2 (.inr hx)));refine eU.same (cv:=.func fn (a.map σ) (c.map σ)) hr ⟨fn,(a.map σ).toList,(c.map σ).toList,rfl,?_,h1,h2⟩ (by simp[execOp,QR,Instr.makeFunc]);cases fn<;>first
   |rfl
   |(cases hfn;done)
 |makeMap t r=>
  simp only[QR]at hc;cases r with
  |some _=>simp at hc
  |none=>
   simp only[Yq]at hc;subst hc;have QQ:dA .lF ρ h=some (v,h'):=hs;simp only[dA,Yq,aaf]at QQ;obtain⟨rfl,rfl⟩:=QQ;have Wp:=ka hr (.map #[] 0) (.bo []) ⟨w.heap.size,0,0,true⟩ rfl rfl (λm' _=>⟨rfl,#[],0,World.alloc_heap_new w _,rfl,λi p hp=>by simp at hp⟩);exact⟨.map (some w.heap.size),_,_,.inl (by simp[execOp,QR,Instr.makeMap]),⟨⟨w.heap.size,0,0,true⟩,by simp[cp.add],rfl⟩,Wp.1,Wp.2⟩
 |makeSlice t l c=>
  simp only[QR]at hc;split at hc
  case h_2=>cases hc
  rename_i e i l' c' hsl Q1 Sc;split at hc
  case h_2=>cases hc
  rename_i z hz;split at hc
  case isFalse=>cases hc
  rename_i Q9;obtain⟨h1,h2,h3⟩:=Q9;cases hc;exact eU.zo (GS hsl hz h1 h2 h3 hr (hρ l (by simp[QR,Op.operands]) l' Q1) (hρ c (by simp[QR,Op.operands]) c' Sc) hs) (λcv w' h=>by simp[execOp,QR,h])
 |slice t x lo hi mx=>
  simp only[QR]at hc;cases mx with
  |some _=>simp at hc
  |none=>
   simp only at hc;split at hc
   case h_2=>cases hc
   rename_i x' lo' hi' QV hlo' hhi';have hx:=hρ x (by simp[QR,Op.operands]) x' QV;have hlo:=rk (m:=m) (ρ:=ρ) (σ:=σ) hlo' (λy hy=>hρ y (by simp only[QR,Op.operands];cases hy;simp));have hhi:=rk (m:=m) (ρ:=ρ) (σ:=σ) hhi' (λy hy=>hρ y (by simp only[QR,Op.operands];cases hy;simp));split at hc
   ·rename_i hu;cases hc;exact eU.nF hr (Kf hu hx hlo hhi hs) (λcv h=>by simp only[execOp,QR,aae];rw[Yh,h];rfl)
   ·rename_i e hu;simp only[Yj]at hc;obtain⟨n,hn,rfl⟩:=hc;exact eU.nF hr (M9 hu hn hx hlo hhi hs) (λcv h=>by simp only[execOp,QR,aae];rw[Yh,h];rfl)
   ·rename_i n e hu;simp only[Yj]at hc;obtain⟨es,hes,rfl⟩:=hc;exact eU.nF hr (Kg hu hes hr hx hlo hhi hs) (λcv h=>by simp only[execOp,QR,aae];rw[Yh,h];rfl)
   ·cases hc
 |fieldAddr t x i=>
  simp only[QR]at hc;split at hc
  case h_2=>cases hc
  rename_i f x' hf QV;split at hc
  case h_2=>cases hc
  rename_i n hn;split at hc
  case isFalse=>cases hc
  rename_i hpos;cases hc;exact eU.nF hr (GY hf hn hpos (hρ x (by simp[QR,Op.operands]) x' QV) hs) (λcv h=>by simp[execOp,QR,h])
 |indexAddr t x i=>
  simp only[QR]at hc;split at hc
  case h_2=>cases hc
  rename_i x' i' QV hi';have hx:=hρ x (by simp[QR,Op.operands]) x' QV;have hi:=hρ i (by simp[QR,Op.operands]) i' hi';split at hc
  ·rename_i e hu;simp only[Yj]at hc;obtain⟨n,hn,rfl⟩:=hc;exact eU.nF hr (GW hu hn hx hi hs) (λcv h=>by simp[execOp,QR,h])
  ·rename_i len e hu;simp only[Yj]at hc;obtain⟨n,hn,rfl⟩:=hc;exact eU.nF hr (GX hu hn hx hi hs) (λcv h=>by simp[execOp,QR,h])
  ·cases hc
 |field t x i=>
  simp only[QR]at hc;split at hc
  case h_2=>cases hc
  rename_i f x' hf QV;simp only[Yj]at hc;obtain⟨n,hn,rfl⟩:=hc;exact eU.nF hr (DA hf hn (hρ x (by simp[QR,Op.operands]) x' QV) hs) (λcv h=>by simp[execOp,QR,h])
 |index t x i=>
  simp only[QR]at hc;split at hc
  case h_2=>cases hc
  rename_i x' i' QV hi';have hx:=hρ x (by simp[QR,Op.operands]) x' QV;have hi:=hρ i (by simp[QR,Op.operands]) i' hi';split at hc
  ·rename_i hu;cases hc;exact eU.nF hr (Kh hu hx hi hs) (λcv h=>by simp[execOp,QR,h])
  ·rename_i len e hu;split at hc
   case h_2=>cases hc
   rename_i n q hn hq;cases hc;exact eU.nF hr (Ki hu hn hq hx hi hs) (λcv h=>by simp[execOp,QR,h])
  ·cases hc
 |lookup t x i ok=>
  simp only[QR]at hc;split at hc
  case h_2=>cases hc
  rename_i kt e x' i' hu QV hi';split at hc
  case h_2=>cases hc
  rename_i kk z hkk hz;cases hc;exact eU.nF hr (GU hu hkk hz hr (hρ x (by simp[QR,Op.operands]) x' QV) (hρ i (by simp[QR,Op.operands]) i' hi') hs) (λcv h=>by simp[execOp,QR,h])
 |mapUpdate t x i y=>
  exact P0
 |insert t x i y=>
  exact P0
 |range t x=>
  simp only[QR]at hc;split at hc
  case h_2=>cases hc
  rename_i hu;simp only[Yj]at hc;obtain⟨x',QV,rfl⟩:=hc;exact eU.zo (GQ hu hr (hρ x (by simp[QR,Op.operands]) x' QV) hs) (λcv w' h=>by simp[execOp,QR,h])
 |next x isS=>
  simp only[QR]at hc;cases isS with
  |false=>simp at hc
  |true=>
   simp only[Yj]at hc;obtain⟨x',QV,rfl⟩:=hc;exact eU.zo (DB (t:=o.type) hr (hρ x (by simp[QR,Op.operands]) x' QV) hs) (λcv w' h=>by simp[execOp,QR,h])
 |extract x i=>
  simp only[QR,Yj]at hc;obtain⟨x',QV,rfl⟩:=hc;have QQ:dA (.ext x' i) ρ h=some (v,h'):=hs;simp only[dA]at QQ;split at QQ
  case h_2=>cases QQ
  rename_i l hl;split at QQ
  case h_2=>cases QQ
  rename_i u hu;cases QQ;have h1:=hρ x (by simp[QR,Op.operands]) x' QV;rw[hl]at h1;obtain⟨l',h2,h3⟩:=h1;obtain⟨cv,SQ,QT⟩:=h3.get hu;exact eU.same hr QT (by simp[execOp,QR,Instr.extract,h2,SQ])
 |call c=>
  simp only[QR]at hc;split at hc
  case h_2=>cases hc
  rename_i l hl;have hargs:=nU (m:=m) (ρ:=ρ) (σ:=σ) hl (λx hx=>hρ x (by simp only[QR,Op.operands,Call.operands];exact Array.mem_append.2 (.inr hx)));split at hc
  ·exact z152
  ·exact z152
  ·rename_i b hb;obtain⟨cv,w',m',h1,h2,h3,h4⟩:=sF (w:=w) hc hargs hr hs o.type (c.args.map λ|.const _=>true|_=>false);refine⟨cv,w',m',.inl ?_,h2,h3,h4⟩;simp only[execOp,QR,resolve,hb,Yh,Yy,X7,invoke];exact h1
 |_=>simp[QR]at hc
end
def Rel(P:Program)(m:cp)(h:ah)(w:World)(v:AV)(h':ah)(e:Ending)(w':World):Prop:=
 ∃cv m',e=.returned cv/\VR m' v cv/\HR P m' h' w'/\Grow m h w m' h' w'
def lR(P:Program)(f:FuncId)(args:List AV)(h:ah)(v:AV)(h':ah):Prop:=
 ∀(m:cp) (w:World) (vs:List Value),HR P m h w->cL m args vs->Calls P f ⟨vs⟩ w (Rel P m h w v h')
def C5(P:Program)(R:Ending->World->Prop):Result Next->Prop
 |.ok (.value cv) w'=>R (.returned cv) w'
 |.ok (.enter f args) w'=>CallsIn Fence.wide 0 P f args w' R
 |.ok (.round l f tmps asg body) w'=>RoundIn Fence.wide 0 P l f tmps asg body w' R
 |_=>False
def fg(P:Program)(fv:AV)(args:List AV)(h:ah)(v:AV)(h':ah):Prop:=
 ∀(m:cp) (w:World) (cv:Value) (vs:List Value),HR P m h w->VR m fv cv->cL m args vs->
  ∃d,(∀w,(Deferred.ofValue cv ⟨vs⟩).run P w=.ok d w)/\C5 P (Rel P m h w v h') ((invoke d.target d.args).run P w)
def pL(P:Program)(k:o6)(ρ:c6->AV)(h:ah)(v:AV)(h':ah):Prop:=
 match k with
 |.call f args=>fg P (ρ f) (args.map ρ) h v h'
 |k=>mM k ρ h v h'
abbrev Fd(ro:Option Nat):Fence:={Fence.wide with round:=ro}
def kj{P f fn args w}(hf:P.funcs[f]? =some fn)(hb:fn.body.isSome=true)(hn:(fn.name == "runtime.NumGoroutine")=false):
  (callFunc f args).run P w=.ok (.enter f args) w:=by
 have hb':fn.body≠none:=by cases h:fn.body<;>simp_all
 have Vc:fn.name≠ "runtime.NumGoroutine":=by simpa using hn
 simp[callFunc,Yh,run_program,hf,Vc,hb',Result.andThen]
section
variable {P:Program}{m:cp}{h h':ah}{w:World}{v:AV}
def qO{ro:Option Nat}{o:Oper}{a:Act}{next:Act->World->Prop}{Q:Exit->Act->World->Prop}{r:Result Next}
  (hr:C5 P (Rel P m h w v h') r) (hn:∀cv m' w',VR m' v cv->HR P m' h' w'->Grow m h w m' h' w'->next (a.put o.dst cv) w'):o.uponIn (Fd ro) 0 P a next Q r:=by
 cases r with
 |halt x w'=>exact hr.elim
 |ok x w'=>
  cases x<;>first
   |exact hr.elim
   |skip
  case value cv=>
   obtain⟨cv',m',he,h1,h2,h3⟩:=hr;cases he;exact hn cv m' w' h1 h2 h3
  case enter f args=>
   rw[Oper.uponIn_enter];refine⟨λhd=>by simp[Fd,Fence.wide]at hd,CallsIn.mono (F:=Fd ro) (show CallsIn (Fd ro) (0-1) P f args w' (Rel P m h w v h')from hr) λe w'' he=>?_⟩;exact Jp
  case round l f tmps asg body=>
   rw[Oper.uponIn_round];refine⟨λhd=>by simp[Fd,Fence.wide]at hd,RoundIn.mono (F:=Fd ro) (show RoundIn (Fd ro) (0-1) P l f tmps asg body w' (Rel P m h w v h')from hr) λe w'' he=>?_⟩;exact Jp
def vk{o:Oper}{k:o6}{ρ:c6->AV}(hc:ee P o=some k){a:Act}(hρ:∀x∈o.op.operands,∀x',cX x=some x'->VR m (ρ x') (a.eval x))(hcst:∀z,ρ (.c z)=z)
  (hr:HR P m h w) (hs:pL P k ρ h v h') (ro:Option Nat) (next:Act->World->Prop) (Q:Exit->Act->World->Prop)
  (hn:∀cv m' w',VR m' v cv->HR P m' h' w'->Grow m h w m' h' w'->next (a.put o.dst cv) w'):o.wpIn (Fd ro) 0 P a w next Q:=by
 refine⟨λ_ _=>trivial,?_⟩;have hdef:∀c,o.op≠.defer c:=by
  intro c QR;simp[ee,QR]at hc
 rw[Oper.semAt_eq _ _ _ hdef];by_cases Tf:∃f args,k=.call f args
 ·obtain⟨f,args,rfl⟩:=Tf;have QQ:fg P (ρ f) (args.map ρ) h v h':=hs;cases QR:o.op with
  |call c=>
   have Sc:=hc;simp only[ee,QR]at Sc;split at Sc
   case h_2=>cases Sc
   rename_i l hl;have hargs:=nU (m:=m) (ρ:=ρ) (σ:=a.eval) hl (λx hx=>hρ x (by simp only[QR,Op.operands,Call.operands];exact Array.mem_append.2 (.inr hx)));split at Sc
   ·rename_i g hg;simp only[Yj]at Sc;obtain⟨g',Re,he⟩:=Sc;cases he;have hf:=hρ g (by simp[QR,Op.operands,Call.operands,hg]) _ Re;obtain⟨d,hd,haf⟩:=QQ m w _ _ hr hf hargs;refine qO (m:=m) (h:=h) (w:=w) (v:=v) (h':=h') ?_ hn;simp only[execOp,QR,resolve,hg,Yh];have Rl:(Deferred.ofValue (a.eval g) (c.args.map a.eval)).run P w=.ok d w:=hd w;rw[Rl];exact haf
   ·rename_i r name hg;simp only[Yj]at Sc;obtain⟨r',hr',he⟩:=Sc;cases he;have hrv:=hρ r (by simp[QR,Op.operands,Call.operands,hg]) _ hr';have hf:VR m (ρ (.c (.func (.method name) [] []))) (.func (.method name) #[] #[]):=by
     rw[hcst,VR];exact⟨_,[],[],rfl,rfl,rfl,rfl⟩
    obtain⟨d,hd,haf⟩:=QQ m w _ (a.eval r:: (c.args.map a.eval).toList) hr hf (aS.2 ⟨_,_,rfl,hrv,hargs⟩);refine qO (m:=m) (h:=h) (w:=w) (v:=v) (h':=h') ?_ hn;simp only[execOp,QR,resolve,hg,Yh];have Rl:=hd w;have:(#[]++(⟨a.eval r:: (c.args.map a.eval).toList⟩:Array Value))=#[a.eval r]++c.args.map a.eval:=by
     apply aam;simp
    simp only[Deferred.ofValue,this]at Rl;cases Rl;exact haf
   ·rename_i b hb;exfalso;unfold oh at Sc
    repeat' split at Sc
    all_goals first|(cases Sc;done)|(simp only[YX]at Sc;obtain⟨z,_,hz⟩:=Sc;split at hz<;>cases hz)
  |makeMap t r=>cases r<;>simp[ee,QR]at hc
  |next x b=>
   cases b
   ·simp[ee,QR]at hc
   ·simp[ee,QR,Yj]at hc
  |slice t x lo hi mx=>
   cases mx with
   |some _=>simp[ee,QR]at hc
   |none=>
    exfalso;simp only[ee,QR]at hc
    repeat' split at hc
    all_goals first
     |(cases hc;done)
     |(simp[Yj]at hc;done)
  |_=>
   exfalso;simp only[ee,QR]at hc
   repeat' split at hc
   all_goals first
    |(cases hc;done)
    |(simp[Yj,YX]at hc;done)
    |(unfold HO at hc;repeat' split at hc;all_goals first|(cases hc;done)|(simp[Yj]at hc;done))
 ·have QQ:mM k ρ h v h':=by
   cases k<;>first|exact hs|exact absurd ⟨_,_,rfl⟩ Tf
  obtain⟨cv,w',m',he,h1,h2,h3⟩:=wO (w:=w) hc hρ hcst hr QQ;rcases he with he|⟨he,rfl⟩
  ·rw[he];exact hn cv m' w' h1 h2 h3
  ·rw[he];exact hn undef m' w' h1 h2 h3
def GV(P:Program)(m:cp):Prop:=∀g,g<P.globals.size->∃e,m g=some e/\e.cb=g/\e.d=0
def HR.gv(hr:HR P m h w):GV P m:=λg hg=>by obtain⟨e,h1,h2,h3,_⟩:=hr.fZ g hg;exact⟨e,h1,h2,h3⟩
def yY(hg:GV P m){ts:TS}{a:Act}{x:Operand}{x':c6}(hx:cX x=some x')(hok:Mz P x=true)(ht:∀t,x=.tmp t->VR m (ts.getD t az) (a.tmps.getD t undef)):VR m (val ts x') (a.eval x):=by
 cases x with
 |tmp t=>cases hx;exact ht t rfl
 |const c=>
  simp only[cX,Yj]at hx;obtain⟨y,hy,rfl⟩:=hx;exact qG m 4 _ _ hy
 |global g=>
  cases hx;simp only[Mz,YG]at hok;obtain⟨e,he,hcb,hd⟩:=hg g hok;exact⟨e,he,by rw[hcb,hd];rfl⟩
 |func f=>cases hx;exact⟨.func f,[],[],rfl,rfl,rfl,rfl⟩
def nO{ts:TS}{vs:Array Value}(h:cL m ts vs.toList)(t:Nat):VR m (ts.getD t az) (vs.getD t undef):=by
 have hl:=h.length;by_cases ht:t<ts.length
 ·have hx:ts[t]? =some ts[t]:=XY ht;obtain⟨y,hy,hr⟩:=h.get hx;have e1:ts.getD t az=ts[t]:=by simp[List.getD,hx]
  have e2:vs.getD t undef=y:=by
   simp only[Zm]at hy;simp[YH,hy]
  rw[e1,e2];exact hr
 ·have e1:ts.getD t az=az:=by simp[List.getD,ZS (by omega:ts.length<=t)]
  have e2:vs.getD t undef=undef:=by
   have:vs.size<=t:=by simp at hl;omega
   simp[YH,Zt this]
  rw[e1,e2];exact jR m
def DQ{ts:TS}{a:Act}(h:cL m ts a.tmps.toList){x:AV}{cv:Value}(hx:VR m x cv)(d:Option Nat):cL m (put ts d x) (a.put d cv).tmps.toList:=by
 cases d with
 |none=>exact h
 |some d=>simp only[put,Act.put,Array.toList_setIfInBounds];exact h.set d hx
def put_defers(a:Act)(d:Option Nat)(cv:Value):(a.put d cv).defers=a.defers:=by cases d<;>rfl
def qN{ts:TS}{a:Act}{ops:Array Oper}{o:Oper}{g:Option (Nat×Bool)}(hg:uc ops o.guard=some g)
  (ht:∀t b,g=some (t,b)->(t<ts.length↔t<a.tmps.size)/\VR m (ts.getD t az) (a.tmps.getD t undef)):Region.wanted o (yielded ops a.tmps)=true↔wanted g ts:=by
 unfold uc at hg;unfold Region.wanted wanted;cases Ud:o.guard with
 |none=>rw[Ud]at hg;cases hg;simp
 |some p=>
  obtain⟨j,b⟩:=p;rw[Ud]at hg;simp only[Yj]at hg;obtain⟨d,hd,rfl⟩:=hg;simp only[yielded,hd,Option.bind_some,beq_iff_eq];obtain⟨hlt,QT⟩:=ht d b rfl;by_cases hdl:d<ts.length
  ·have Uf:=hlt.1 hdl;have e1:ts.getD d az=ts[d]:=by simp[List.getD,XY hdl]
   have e2:a.tmps.getD d undef=a.tmps[d]:=by simp[YH,YL Uf]
   rw[e1,e2]at QT;rw[YL Uf,XY hdl];generalize a.tmps[d]=cv at QT;generalize ts[d]=av at QT;cases av with
   |bool t=>rw[VR]at QT;subst QT;simp
   |int k n=>rw[VR]at QT;subst QT;simp
   |wG k n=>rw[VR]at QT;obtain⟨_,rfl,_⟩:=QT;simp
   |wm k x y=>rw[VR]at QT;obtain⟨_,_,rfl,_⟩:=QT;simp
   |str s=>rw[VR]at QT;subst QT;simp
   |ptr b o=>rw[VR]at QT;obtain⟨_,_,rfl⟩:=QT;simp
   |nilPtr=>rw[VR]at QT;subst QT;simp
   |slice b o n e=>rw[VR]at QT;obtain⟨_,_,_,_,rfl,_⟩:=QT;simp
   |af=>rw[VR]at QT;subst QT;simp
   |map r=>rw[VR]at QT;obtain⟨_,_,rfl⟩:=QT;simp
   |cY=>rw[VR]at QT;subst QT;simp
   |func f x y=>rw[VR]at QT;obtain⟨_,_,_,rfl,_⟩:=QT;simp
   |nilFunc=>rw[VR]at QT;subst QT;simp
   |agg l=>rw[VR]at QT;obtain⟨_,rfl,_⟩:=QT;simp
   |dN l=>rw[VR]at QT;obtain⟨_,rfl,_⟩:=QT;simp
   |qn u l=>rw[VR]at QT;obtain⟨_,rfl,_⟩:=QT;simp
   |km=>rw[VR]at QT;subst QT;simp
  ·have Uf:¬d<a.tmps.size:=λx=>hdl (hlt.2 x)
   rw[Zt Om,ZS Om];simp
inductive dD (P:Program) (o:bI) (ts:TS) (h:ah):TS->ah->Prop
 |run {v:AV}{h':ah}(hw:wanted o.gd ts) (hb:yT o.dst o.k ts.length) (hs:pL P o.k (val ts) h v h'):dD P o ts h (put ts o.dst v) h'
 |skip (hw:¬wanted o.gd ts):dD P o ts h (put ts o.dst az) h
def yi(P:Program):List bI->TS->ah->TS->ah->Prop
 |[],ts,h,ts',h'=>ts' =ts/\h' =h
 |o::r,ts,h,ts',h'=>∃Ss h1,dD P o ts h Ss h1/\(o.q=true->∃g,h1=h++g)/\yi P r Ss h1 ts' h'
structure St(P:Program)(m:cp)(ts:TS)(h:ah)(a:Act)(w:World):Prop where
 hr:HR P m h w
 ts:cL m ts a.tmps.toList
def oE{ρ}:¬pL P .bad ρ h v h':=λhs=>by
 have QQ:dA .bad ρ h=some (v,h'):=hs;simp[dA]at QQ
def fB{ops:Array Oper}{i:Nat}{o:Oper}(ho:ops[i]? =some o){q:Bool}{io:bI}(hc:bU P ops q o=some io){ts ts':TS}{a:Act}
  (hg:GV P m) (hr:HR P m h w) (hlen:a.tmps.size=ts.length)
  (ht:∀t,t∈o.looksAt ops->VR m (ts.getD t az) (a.tmps.getD t undef)) (hs:dD P io ts h ts' h') (ro:Option Nat) (K:Act->World->Prop) (Q:Exit->Act->World->Prop)
  (hn:∀cv v m' w',ts' =put ts o.dst v->VR m' v cv->HR P m' h' w'->Grow m h w m' h' w'->K (a.put o.dst cv) w'):wpOpIn (Fd ro) 0 P ops Q i K a w:=by
 unfold bU at hc;split at hc
 case h_2=>cases hc
 rename_i g Ud;cases hc;have hw:=qN (m:=m) (ts:=ts) (a:=a) Ud (λt b T2=>⟨Om,ht t (by
  unfold Oper.looksAt;refine List.mem_append_right _ ?_;unfold uc at Ud;cases hog:o.guard with
  |none=>rw[hog]at Ud;cases Ud;cases T2
  |some p=>
   obtain⟨j,b'⟩:=p;rw[hog]at Ud;simp only[Yj]at Ud;obtain⟨d,hd,rfl⟩:=Ud;cases T2;simp[hd])⟩)
 unfold wpOpIn;rw[ho];cases hs with
 |run hwa hb hs=>
  clear hb;simp only;rw[X9 (hw.2 hwa)];simp only at hs;split at hs
  case isFalse=>exact absurd hs oE
  rename_i XE;cases hk:ee P o with
  |none=>rw[hk]at hs;exact absurd hs oE
  |some k=>
   rw[hk]at hs;refine vk hk (λx hx x' QV=>?_) (λz=>rfl) hr hs ro K Q (λcv m' w' h1 h2 h3=>hn cv _ m' w' rfl h1 h2 h3);exact PO
 |skip hwa=>
  simp only;rw[X5 (λx=>hwa (hw.1 x))];exact⟨λ_ _=>trivial,hn undef _ m w rfl (jR m) hr (Grow.refl m h w hr.cN)⟩
theorem gh{α β:Type}{f:Nat->α->Option β}:∀{l:List α}{i:Nat}{r:List β},eO f l i=some r->r.length=l.length/\∀(j:Nat) (x:α),l[j]? =some x->∃y,r[j]? =some y/\f (i+j) x=some y
 |[],i,r,h=>by cases h;exact⟨rfl,λj x hx=>by simp at hx⟩
 |x::xs,i,r,h=>by
  unfold eO at h;split at h
  case h_2=>cases h
  rename_i y ys hy hys;cases h;obtain⟨h1,h2⟩:=gh hys;refine⟨by simp[h1],λj z hz=>?_⟩;cases j with
  |zero=>simp at hz;subst hz;exact⟨y,Si,hy⟩
  |succ j=>
   simp at hz;obtain⟨u,hu,hf⟩:=h2 j z hz;exact⟨u,by simpa using hu,by rw[show i+(j+1)=i+1+j from by omega];exact hf⟩
structure Row(P:Program)(l:List bI)(T:Nat->TS)(H:Nat->ah):Prop where
 step:∀i o,l[i]? =some o->dD P o (T i) (H i) (T (i+1)) (H (i+1))/\(o.q=true->∃g,H (i+1)=H i++g)
theorem yi.row:∀{l}{ts ts'}{h h'},yi P l ts h ts' h'->∃T H,T 0=ts/\H 0=h/\T l.length=ts'/\H l.length=h'/\Row P l T H
 |[],ts,ts',h,h',hs=>by
  obtain⟨rfl,rfl⟩:=hs;exact⟨λ_=>ts',λ_=>h',rfl,rfl,rfl,rfl,⟨λi o ho=>by simp at ho⟩⟩
 |o::r,ts,ts',h,h',hs=>by
  obtain⟨Ss,h1,bW,hq,hr⟩:=hs;obtain⟨T,H,hT,hH,Se,hH',hrow⟩:=hr.row;refine⟨λi=>match i with| 0=>ts|i+1=>T i,λi=>match i with| 0=>h|i+1=>H i,rfl,rfl,Se,hH',⟨λi x hx=>?_⟩⟩;cases i with
  |zero=>
   simp at hx;subst hx;show dD P o ts h (T 0) (H 0)/\_;rw[hT,hH];exact⟨bW,λq=>by show ∃g,H 0=h++g;rw[hH];exact hq q⟩
  |succ i=>exact hrow.step i x (by simpa using hx)
def mY(ts:TS)(d:Option Nat)(v:AV):(put ts d v).length=ts.length:=by cases d<;>simp[put]
theorem dD.put{o ts ts'}(hs:dD P o ts h ts' h'):∃v,ts' =put ts o.dst v:=by
 cases hs with
 |run=>exact⟨_,rfl⟩
 |skip=>exact⟨_,rfl⟩
def dy{ops q o io}(hc:bU P ops q o=some io):io.dst=o.dst/\io.q=q:=by
 unfold bU at hc;split at hc
 ·cases hc;exact⟨rfl,rfl⟩
 ·cases hc
def xE{ops:Array Oper}{l:List bI}(hc:cQ P ops false=some l){ts ts':TS}{h h':ah}(hs:yi P l ts h ts' h'){m:cp}{a:Act}{w:World}(st:St P m ts h a w)(ro:Option Nat)
  (Q:Exit->Act->World->Prop) (hQ:∀m' a' w',St P m' ts' h' a' w'->Grow m h w m' h' w'->a'.defers=a.defers->Q .normal a' w') (id:Nat):(Code.region id ops false).wpIn (Fd ro) 0 P Q a w:=by
 refine wpIn_region ?_;obtain⟨T,H,rfl,rfl,rfl,rfl,hrow⟩:=hs.row;obtain⟨hlen,QY⟩:=gh (show eO (λ_ o=>bU P ops false o) ops.toList 0=some l from hc);simp only[Z5]at hlen;have key:∀(k j:Nat),j+k=ops.size->∀(m1:cp) (a1:Act) (w1:World),St P m1 (T j) (H j) a1 w1->Grow m (H 0) w m1 (H j) w1->a1.defers=a.defers->
   wpOpsIn (Fd ro) 0 P ops Q (List.range' j k) a1 w1:=by
  intro k
  induction k with
  |zero=>
   intro j hj m1 a1 w1 s1 g1 hd;have:j=l.length:=Om
   subst this;exact hQ m1 a1 w1 s1 g1 hd
  |succ k ih=>
   intro j hj m1 a1 w1 s1 g1 hd;rw[List.range'_succ,wpOpsIn_cons];have XA:j<ops.size:=Om
   have ho:ops[j]? =some ops[j]:=YL XA;obtain⟨io,hio,Q2⟩:=QY j ops[j] Si;obtain⟨bW,_⟩:=hrow.step j io hio;refine fB ho Q2 s1.hr.gv s1.hr (by simpa using s1.ts.length) (λt _=>nO s1.ts t) bW ro _ Q ?_;intro cv v m' w' QP h1 h2 h3;have hle:=h3.le s1.hr.cN;exact ih (j+1) Om m' _ w' ⟨h2,by rw[QP];exact DQ (cL.mono hle _ _ s1.ts) h1 _⟩ (g1.trans h3 st.hr.cN) (by rw[put_defers];exact hd)
 have:=key ops.size 0 Om m a w st (Grow.refl m _ w st.hr.cN) rfl
 rwa [<-List.range_eq_range']at this
end
end Go.Abs
