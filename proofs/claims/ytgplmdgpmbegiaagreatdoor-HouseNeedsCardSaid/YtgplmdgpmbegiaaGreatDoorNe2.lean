/- A part of the proof that HouseNeeds holds. No condition. -/
import Derived.Shelf.Strings.Builder1
import Derived.Shelf.Strings.Builder2
import Derived.Shelf.Strings.OnBuilder
import Derived.Test.YtgplmdgpmbegiaaGreatDoorProg
import Derived.Shelf.Strings.Repeat
import Derived.Tactics
import Derived.OrdersIn
import Derived.RangeFuncLeaves
import Derived.RangeFuncIn
import Derived.RangeFuncOwn
import Derived.Laws.Sem
import Derived.Laws.World
import Derived.Laws.Cells
import Derived.Laws.Entries
import Derived.Below
import Derived.MapKept
import Derived.Laws.Tables
import Derived.Laws.StructEq
import Derived.Test.YtgplmdgpmbegiaaGreatDoorNe0
set_option linter.all false
namespace Go.Proofs
open Go.Shelf
def Tryz.qj:Go.Shelf.Ren:=⟨λ| 156=>114| 165=>210| 166=>211| 169=>212| 240=>257| 241=>258| 276=>282| 277=>283|n=>n,λ| 31=>28| 9=>9| 3=>3| 4=>4| 0=>0| 20=>20| 72=>271| 76=>275| 70=>269| 37=>119| 75=>274| 127=>308| 164=>332| 5=>5| 80=>97|n=>n,λn=>n⟩
def Tryz.zv:Go.Proofs.Lays.n156 Tryz.prog Tryz.qj:={
 mixed:=by kernel_rfl
 f156:=Tryz.func114.trans (congrArg some (by kernel_rfl))
 f165:=Tryz.func210.trans (congrArg some (by kernel_rfl))
 f166:=Tryz.func211.trans (congrArg some (by kernel_rfl))
 f169:=Tryz.func212.trans (congrArg some (by kernel_rfl))
 f240:=Tryz.func257.trans (congrArg some (by kernel_rfl))
 f241:=Tryz.func258.trans (congrArg some (by kernel_rfl))
 f276:=Tryz.func282.trans (congrArg some (by kernel_rfl))
 f277:=Tryz.func283.trans (congrArg some (by kernel_rfl))
 t0:=Tryz.underlying0
 a0:=Tryz.isAgg0
 z0:=Tryz.sizeOf0
 v0:=Tryz.zeroValue0
 t3:=Tryz.underlying3
 a3:=Tryz.isAgg3
 z3:=Tryz.sizeOf3
 v3:=Tryz.zeroValue3
 t4:=Tryz.underlying4
 a4:=Tryz.isAgg4
 z4:=Tryz.sizeOf4
 v4:=Tryz.zeroValue4
 t9:=Tryz.underlying9
 a9:=Tryz.isAgg9
 z9:=Tryz.sizeOf9
 v9:=Tryz.zeroValue9
 t20:=Tryz.underlying20
 a20:=Tryz.isAgg20
 z20:=Tryz.sizeOf20
 v20:=Tryz.zeroValue20
 t31:=Tryz.underlying28
 a31:=Tryz.isAgg28
 z31:=Tryz.sizeOf28
 v31:=Tryz.zeroValue28
 t37:=Tryz.underlying119
 a37:=Tryz.isAgg119
 z37:=Tryz.sizeOf119
 v37:=Tryz.zeroValue119
 t70:=Tryz.underlying269
 a70:=Tryz.isAgg269
 z70:=Tryz.sizeOf269
 v70:=Tryz.zeroValue269
 t72:=Tryz.underlying271
 a72:=Tryz.isAgg271
 z72:=Tryz.sizeOf271
 v72:=Tryz.zeroValue271
 t75:=Tryz.underlying274
 a75:=Tryz.isAgg274
 z75:=Tryz.sizeOf274
 v75:=Tryz.zeroValue274
 t76:=Tryz.underlying275
 a76:=Tryz.isAgg275
 z76:=Tryz.sizeOf275
 v76:=Tryz.zeroValue275
 t127:=Tryz.underlying308
 a127:=Tryz.isAgg308
 z127:=Tryz.sizeOf308
 v127:=Tryz.zeroValue308
 t164:=Tryz.underlying332
 a164:=Tryz.isAgg332
 z164:=Tryz.sizeOf332
 v164:=Tryz.zeroValue332}
def Tryz.jS:Builder.Extra Tryz.prog Tryz.qj:={
 sizeBuilder:=by kernel_rfl
 liesBuilder:=by kernel_rfl
 t5:=Tryz.underlying5
 a5:=Tryz.isAgg5
 z5:=Tryz.sizeOf5
 v5:=Tryz.zeroValue5
 infoByte:=by kernel_rfl
 cellsByte:=by kernel_rfl
 sizeByte:=by kernel_rfl
 neB5:=by decide}
open Go.RowKit in
theorem Tryz.strings_Join_none(a:Option Addr)(c:Nat)(sep:ByteArray)(w:World):
  Calls Tryz.prog 114 #[.slice a 0 c,.string sep] w λe w'=>e=.returned (.string ⟨#[]⟩)/\w' =w:=Any.strings_Join_none Tryz.zv Tryz.jS a c sep w
open Go.RowKit in
theorem Tryz.strings_Join(bk o c:Nat)(xs:List ByteArray)(sep:ByteArray)(w:World)(hcells:∀(j:Nat) x,xs[j]? =some x->w.cell? ⟨bk,o+j,none⟩=some (.string x))(hbk:bk<w.heap.size)(hN:xs.length<=140737488355328)(hcap:xs.length<=c)(hlen:(Lib.join (xs.map (·.data.toList)) sep.data.toList).length<=140737488355328):
  Calls Tryz.prog 114 #[.slice (some ⟨bk,o,none⟩) xs.length c,.string sep] w λe w'=>e=.returned (.string ⟨(Lib.join (xs.map (·.data.toList)) sep.data.toList).toArray⟩)/\Below w.heap.size w w':=Any.strings_Join Tryz.zv Tryz.jS bk o c xs sep w hcells hbk hN hcap hlen
end Go.Proofs
namespace Go.Proofs
open Go.Shelf
def Tryz.qk:Go.Shelf.Ren:=⟨λ| 105=>252| 212=>267| 99=>270| 165=>210| 166=>211| 170=>271| 169=>212| 263=>285| 264=>286| 206=>287| 240=>257| 241=>258| 276=>282| 277=>283|n=>n,λ| 9=>9| 3=>3| 4=>4| 20=>20| 0=>0| 46=>319| 109=>320| 5=>5| 72=>271| 76=>275| 51=>335| 146=>336| 53=>327| 148=>338| 70=>269| 37=>119| 75=>274| 127=>308| 164=>332| 80=>97|n=>n,λn=>n⟩
def Tryz.Ff:Go.Proofs.Lays.n105 Tryz.prog Tryz.qk:={
 mixed:=by kernel_rfl
 f99:=Tryz.func270.trans (congrArg some (by kernel_rfl))
 f105:=Tryz.func252.trans (congrArg some (by kernel_rfl))
 f165:=Tryz.func210.trans (congrArg some (by kernel_rfl))
 f166:=Tryz.func211.trans (congrArg some (by kernel_rfl))
 f169:=Tryz.func212.trans (congrArg some (by kernel_rfl))
 f170:=Tryz.func271.trans (congrArg some (by kernel_rfl))
 f206:=Tryz.func287.trans (congrArg some (by kernel_rfl))
 f212:=Tryz.func267.trans (congrArg some (by kernel_rfl))
 f240:=Tryz.func257.trans (congrArg some (by kernel_rfl))
 f241:=Tryz.func258.trans (congrArg some (by kernel_rfl))
 f263:=Tryz.func285.trans (congrArg some (by kernel_rfl))
 f264:=Tryz.func286.trans (congrArg some (by kernel_rfl))
 f276:=Tryz.func282.trans (congrArg some (by kernel_rfl))
 f277:=Tryz.func283.trans (congrArg some (by kernel_rfl))
 t0:=Tryz.underlying0
 a0:=Tryz.isAgg0
 z0:=Tryz.sizeOf0
 v0:=Tryz.zeroValue0
 t3:=Tryz.underlying3
 a3:=Tryz.isAgg3
 z3:=Tryz.sizeOf3
 v3:=Tryz.zeroValue3
 t4:=Tryz.underlying4
 a4:=Tryz.isAgg4
 z4:=Tryz.sizeOf4
 v4:=Tryz.zeroValue4
 t5:=Tryz.underlying5
 a5:=Tryz.isAgg5
 z5:=Tryz.sizeOf5
 v5:=Tryz.zeroValue5
 t9:=Tryz.underlying9
 a9:=Tryz.isAgg9
 z9:=Tryz.sizeOf9
 v9:=Tryz.zeroValue9
 t20:=Tryz.underlying20
 a20:=Tryz.isAgg20
 z20:=Tryz.sizeOf20
 v20:=Tryz.zeroValue20
 t37:=Tryz.underlying119
 a37:=Tryz.isAgg119
 z37:=Tryz.sizeOf119
 v37:=Tryz.zeroValue119
 t46:=Tryz.underlying319
 a46:=Tryz.isAgg319
 z46:=Tryz.sizeOf319
 v46:=Tryz.zeroValue319
 t51:=Tryz.underlying335
 a51:=Tryz.isAgg335
 z51:=Tryz.sizeOf335
 v51:=Tryz.zeroValue335
 t53:=Tryz.underlying327
 a53:=Tryz.isAgg327
 z53:=Tryz.sizeOf327
 v53:=Tryz.zeroValue327
 t70:=Tryz.underlying269
 a70:=Tryz.isAgg269
 z70:=Tryz.sizeOf269
 v70:=Tryz.zeroValue269
 t72:=Tryz.underlying271
 a72:=Tryz.isAgg271
 z72:=Tryz.sizeOf271
 v72:=Tryz.zeroValue271
 t75:=Tryz.underlying274
 a75:=Tryz.isAgg274
 z75:=Tryz.sizeOf274
 v75:=Tryz.zeroValue274
 t76:=Tryz.underlying275
 a76:=Tryz.isAgg275
 z76:=Tryz.sizeOf275
 v76:=Tryz.zeroValue275
 t109:=Tryz.underlying320
 a109:=Tryz.isAgg320
 z109:=Tryz.sizeOf320
 v109:=Tryz.zeroValue320
 t127:=Tryz.underlying308
 a127:=Tryz.isAgg308
 z127:=Tryz.sizeOf308
 v127:=Tryz.zeroValue308
 t146:=Tryz.underlying336
 a146:=Tryz.isAgg336
 z146:=Tryz.sizeOf336
 v146:=Tryz.zeroValue336
 t148:=Tryz.underlying338
 a148:=Tryz.isAgg338
 z148:=Tryz.sizeOf338
 v148:=Tryz.zeroValue338
 t164:=Tryz.underlying332
 a164:=Tryz.isAgg332
 z164:=Tryz.sizeOf332
 v164:=Tryz.zeroValue332}
def Tryz.pz:Builder.Extra Tryz.prog Tryz.qk:={
 sizeBuilder:=by kernel_rfl
 liesBuilder:=by kernel_rfl
 t5:=Tryz.underlying5
 a5:=Tryz.isAgg5
 z5:=Tryz.sizeOf5
 v5:=Tryz.zeroValue5
 infoByte:=by kernel_rfl
 cellsByte:=by kernel_rfl
 sizeByte:=by kernel_rfl
 neB5:=by decide}
end Go.Proofs
namespace Go.Abs
inductive AV where
 |bool (b:Bool)
 |int (k:IntKind) (n:Int)
 |xH (k:FloatKind) (b:Nat)
 |wX (k:FloatKind) (re im:Nat)
 |str (s:By)
 |ptr (b o:Nat)
 |nilPtr
 |slice (b o n e:Nat)
 |af
 |map (r:Nat)
 |dh
 |func (f:Fn) (a c:List AV)
 |nilFunc
 |agg (l:List AV)
 |dL (l:List AV)
 |uS (u:TypeId) (v:AV)
 |kN
 deriving Inhabited
def az:AV:=.dL []
def AV.cells:AV->List AV
 |.agg l=>l
 |v=>[v]
def AV.one:AV->Bool
 |.agg _=>false
 |.dL _=>false
 |.kN=>false
 |_=>true
inductive cZ where
 |t (i:Nat)
 |c (v:AV)
 |g (i:Nat)
 |f (i:Nat)
 deriving Inhabited
inductive CK where
 |b
 |i
 |s
 deriving DecidableEq,Inhabited
inductive Q3 where
 |one (k:CK)
 |agg (ks:List CK)
 |Ay
 |E3
 |qx
 |Mc
 deriving Inhabited
inductive Aa where
 |MJ (k:IntKind)
 |OF
 |NS
 |same
 |PQ (k:FloatKind)
 |P5 (k:IntKind)
 |P6 (k:FloatKind)
 |uS (u:TypeId)
 deriving Inhabited
inductive LK where
 |sl
 |st
 |mp
 deriving DecidableEq,Inhabited
inductive pv where
 |cg (x:cZ)
 |pick (c a b:cZ)
 |box (x:cZ)
 |oX (n:Nat) (x:cZ)
 |build (z:List AV) (ps:List (Nat×Nat×cZ))
 |ba (es:Nat) (n:Nat) (z:List AV) (ps:List (Nat×cZ))
 |load (n:Option Nat) (a:cZ)
 |store (n:Nat) (a x:cZ)
 |bQ (x:cZ)
 |bin (op:BinOp) (x y:cZ)
 |eqv (neg:Bool) (t:Q3) (x y:cZ)
 |un (op:UnOp) (x:cZ)
 |conv (k:Aa) (x:cZ)
 |uk (f:Fn) (a c:List cZ)
 |lu
 |vY (es w:Nat) (z:List AV) (l c:cZ)
 |sl (es:Nat) (x:cZ) (lo hi:Option cZ)
 |J5 (x:cZ) (lo hi:Option cZ)
 |NP (n es:Nat) (x:cZ) (lo hi:Option cZ)
 |bu (off:Nat) (x:cZ)
 |bG (es:Nat) (x i:cZ)
 |sN (len es:Nat) (x i:cZ)
 |part (n:Option Nat) (off:Nat) (x:cZ)
 |J7 (len es:Nat) (n:Option Nat) (x i:cZ)
 |Ea (x i:cZ)
 |look (kk:CK) (z:AV) (ok:Bool) (m k:cZ)
 |fj (kk:CK) (m k x:cZ)
 |Cj (x:cZ)
 |rE (x:cZ)
 |ext (x:cZ) (i:Nat)
 |call (f:cZ) (args:List cZ)
 |len (lk:LK) (x:cZ)
 |AJ (n:Nat)
 |app (es w:Nat) (x y:cZ)
 |zL (es:Nat) (x y:cZ)
 |mx (x:cZ) (l:List cZ)
 |mn (x:cZ) (l:List cZ)
 |bad
 deriving Inhabited
structure bL where
 dst:Option Nat
 k:pv
 gd:Option (Nat×Bool)
 q:Bool
 deriving Inhabited
def zB(d:Option Nat)(k:pv)(n:Nat):Prop:=
 match k,d with
 |.oX _ _,some d=>d<n
 |_,_=>True
inductive ai where
 |skip
 |ops (l:List bL)
 |sL (l:List bL)
 |mM (l:List bL)
 |seq (a b:ai)
 |cond (c:cZ) (a b:ai)
 |block (id:Nat) (a:ai)
 |loop (a:ai)
 |exit (id:Nat)
 |ret
 |fW (g:cZ) (ps:List Nat) (asg body:ai)
 |bad
 deriving Inhabited
inductive Ex where
 |normal
 |exit (id:Nat)
 |ret
 deriving DecidableEq,Inhabited
def Ex.Dv:Ex->Exit
 |.normal=>.normal
 |.exit id=>.exit id
 |.ret=>.ret
def Ex.jump:Ex->Option Code
 |.normal=>none
 |.exit id=>some (.exit id)
 |.ret=>some .ret
inductive ak where
 |cells (c:List AV) (mu tl:Bool)
 |dead
 |aR (es:List (AV×AV))
 |iter (s:By) (pos:Nat)
 |loop (st:LoopState) (ex:Ex) (ts:List AV) (ps:List Nat) (asg body:ai)
 deriving Inhabited
abbrev ah:=List ak
abbrev TS:=List AV
structure sW where
 cb:Nat
 d:Nat
 sz:Nat
 own:Bool
abbrev bY:=Nat->Option sW
def bY.le(m m':bY):Prop:=∀b e,m b=some e->m' b=some e
def bY.le_trans{a b c:bY}(h:a.le b)(k:b.le c):a.le c:=λx e hx=>k x e (h x e hx)
def E9(k:FloatKind)(b:Nat):Bool:=(k.format.order b b).isNone
def FR(k:FloatKind)(b b':Nat):Prop:=b' =b\/(E9 k b=true/\E9 k b' =true)
def Bu(m:bY):Fn->Fn->Prop
 |.yield l,g=>∃e,m l=some e/\g=.yield e.cb
 |f,g=>g=f
mutual
def VR(m:bY):AV->Value->Prop
 |.bool b,v=>v=.bool b
 |.int k n,v=>v=.int k n
 |.xH k b,v=>∃b',v=.float k b'/\FR k b b'
 |.wX k x y,v=>∃x' y',v=.complex k x' y'/\FR k x x'/\FR k y y'
 |.str s,v=>v=.string ⟨⟨s⟩⟩
 |.ptr b o,v=>∃e,m b=some e/\v=.pointer (some ⟨e.cb,o+e.d,none⟩)
 |.nilPtr,v=>v=.pointer none
 |.slice b o n es,v=>∃e ca cap,m b=some e/\v=.slice (some ca) n cap/\n<=cap/\(0<cap->ca=⟨e.cb,o+e.d,none⟩)/\o+e.d+cap*es<=e.sz
 |.af,v=>v=.slice none 0 0
 |.map r,v=>∃e,m r=some e/\v=.map (some e.cb)
 |.dh,v=>v=.map none
 |.func f a c,v=>∃f' a' c',v=.func f' ⟨a'⟩ ⟨c'⟩/\Bu m f f'/\cK m a a'/\cK m c c'
 |.nilFunc,v=>v=.nilFunc
 |.agg l,v=>∃l',v=.agg ⟨l'⟩/\cK m l l'
 |.dL l,v=>∃l',v=.tuple ⟨l'⟩/\cK m l l'
 |.uS u a,v=>∃v',v=.iface u v'/\VR m a v'
 |.kN,v=>v=.nilIface
def cK(m:bY):List AV->List Value->Prop
 |[],vs=>vs=[]
 |x::xs,vs=>∃y ys,vs=y::ys/\VR m x y/\cK m xs ys
end
def Bu.mono{m m'}(h:m.le m'):∀{f g},Bu m f g->Bu m' f g:=by
 intro f g hf;cases f<;>simp only[Bu]at hf ⊢<;>try exact hf
 obtain⟨e,he,hg⟩:=hf;exact⟨e,h _ _ he,hg⟩
mutual
theorem VR.mono{m m'}(h:m.le m'):∀(a:AV) (v:Value),VR m a v->VR m' a v
 |.bool _,v,hv=>hv
 |.int _ _,v,hv=>hv
 |.xH _ _,v,hv=>hv
 |.wX _ _ _,v,hv=>hv
 |.str _,v,hv=>hv
 |.ptr b o,v,hv=>by
  obtain⟨e,he,hv⟩:=(show ∃e,m b=some e/\v=.pointer (some ⟨e.cb,o+e.d,none⟩)from hv);exact⟨e,h _ _ he,hv⟩
 |.nilPtr,v,hv=>hv
 |.slice b o n es,v,hv=>by
  obtain⟨e,ca,cap,he,hr⟩:=(show ∃e ca cap,m b=some e/\v=.slice (some ca) n cap/\n<=cap/\(0<cap->ca=⟨e.cb,o+e.d,none⟩)/\o+e.d+cap*es<=e.sz from hv);exact⟨e,ca,cap,h _ _ he,hr⟩
 |.af,v,hv=>hv
 |.map r,v,hv=>by
  obtain⟨e,he,hv⟩:=(show ∃e,m r=some e/\v=.map (some e.cb)from hv);exact⟨e,h _ _ he,hv⟩
 |.dh,v,hv=>hv
 |.func f a c,v,hv=>by
  obtain⟨f',a',c',hv,hf,ha,hc⟩:=(show ∃f' a' c',v=.func f' ⟨a'⟩ ⟨c'⟩/\Bu m f f'/\cK m a a'/\cK m c c' from hv);exact⟨f',a',c',hv,hf.mono h,cK.mono h a a' ha,cK.mono h c c' hc⟩
 |.nilFunc,v,hv=>hv
 |.agg l,v,hv=>by
  obtain⟨l',hv,hl⟩:=(show ∃l',v=.agg ⟨l'⟩/\cK m l l' from hv);exact⟨l',hv,cK.mono h l l' hl⟩
 |.dL l,v,hv=>by
  obtain⟨l',hv,hl⟩:=(show ∃l',v=.tuple ⟨l'⟩/\cK m l l' from hv);exact⟨l',hv,cK.mono h l l' hl⟩
 |.uS u a,v,hv=>by
  obtain⟨v',hv,ha⟩:=(show ∃v',v=.iface u v'/\VR m a v' from hv);exact⟨v',hv,VR.mono h a v' ha⟩
 |.kN,v,hv=>hv
theorem cK.mono{m m'}(h:m.le m'):∀(l:List AV) (vs:List Value),cK m l vs->cK m' l vs
 |[],_,hv=>hv
 |x::xs,vs,hv=>by
  obtain⟨y,ys,hv,hx,U1⟩:=(show ∃y ys,vs=y::ys/\VR m x y/\cK m xs ys from hv);exact⟨y,ys,hv,VR.mono h x y hx,cK.mono h xs ys U1⟩
end
def bB{m vs}:cK m [] vs↔vs=[]:=Iff.rfl
def aQ{m x xs vs}:cK m (x::xs) vs↔∃y ys,vs=y::ys/\VR m x y/\cK m xs ys:=Iff.rfl
theorem cK.length{m}:∀{l}{vs},cK m l vs->vs.length=l.length
 |[],_,h=>by rw[bB]at h;simp[h]
 |x::xs,vs,h=>by
  obtain⟨y,ys,rfl,_,U1⟩:=aQ.1 h;simp[cK.length U1]
theorem cK.get{m:bY}:∀{l:List AV}{vs:List Value},cK m l vs->∀{i:Nat}{x:AV},l[i]? =some x->∃y,vs[i]? =some y/\VR m x y
 |[],_,_,i,x,h=>by simp at h
 |z::zs,vs,h,i,x,hx=>by
  obtain⟨y,ys,rfl,hy,hys⟩:=aQ.1 h;cases i with
  |zero=>simp at hx;subst hx;exact⟨y,Si,hy⟩
  |succ i=>simp at hx;simpa using cK.get hys hx
theorem cK.iu{m}:∀{l}{vs},vs.length=l.length->(∀(i:Nat) (x:AV),l[i]? =some x->∃y,vs[i]? =some y/\VR m x y)->cK m l vs
 |[],vs,hl,_=>by rw[bB];exact aay.1 (by simpa using hl)
 |x::xs,[],hl,_=>by simp at hl
 |x::xs,v::vs,hl,h=>by
  refine aQ.2 ⟨v,vs,rfl,?_,cK.iu (by simpa using hl) λi z hz=>?_⟩
  ·obtain⟨y,hy,hr⟩:=h 0 x Si;simp at hy;subst hy;exact hr
  ·obtain⟨y,hy,hr⟩:=h (i+1) z (by simpa using hz);exact⟨y,by simpa using hy,hr⟩
theorem cK.append{m}:∀{a b}{va vb},cK m a va->cK m b vb->cK m (a++b) (va++vb)
 |[],b,va,vb,ha,hb=>by rw[bB]at ha;subst ha;simpa using hb
 |x::xs,b,va,vb,ha,hb=>by
  obtain⟨y,ys,rfl,hy,hys⟩:=aQ.1 ha;exact aQ.2 ⟨y,ys++vb,Si,hy,cK.append hys hb⟩
theorem cK.set{m:bY}{l:List AV}{vs:List Value}(h:cK m l vs)(i:Nat){x:AV}{v:Value}(hx:VR m x v):cK m (l.set i x) (vs.set i v):=by
 refine cK.iu (by simp[h.length]) λj z hz=>?_
 rw[List.getElem?_set]at hz ⊢;by_cases hij:i=j
 ·simp only[hij,Z1]at hz ⊢;split at hz
  ·simp only[aaa]at hz;subst hz;rename_i hlt;exact⟨v,by simp[h.length,hlt],hx⟩
  ·simp at hz
 ·simp only[hij,ZY]at hz ⊢;exact h.get hz
theorem cK.take{m}:∀{l}{vs}(n:Nat),cK m l vs->cK m (l.take n) (vs.take n)
 |[],vs,n,h=>by rw[bB]at h;subst h;simp[bB]
 |x::xs,vs,0,h=>by simp[bB]
 |x::xs,vs,n+1,h=>by
  obtain⟨y,ys,rfl,hy,hys⟩:=aQ.1 h;exact aQ.2 ⟨y,ys.take n,Si,hy,cK.take n hys⟩
theorem cK.drop{m}:∀{l}{vs}(n:Nat),cK m l vs->cK m (l.drop n) (vs.drop n)
 |[],vs,n,h=>by rw[bB]at h;subst h;simp[bB]
 |x::xs,vs,0,h=>by simpa using h
 |x::xs,vs,n+1,h=>by
  obtain⟨y,ys,rfl,hy,hys⟩:=aQ.1 h
  simpa using cK.drop n hys
theorem VR.one{m x v}(h:VR m x v)(hx:x.one=true):v.cells=#[v]:=by
 exact Ry
def VR.ud{m x v}(h:VR m x v)(hx:x.one=true):v.oneCell' =true:=by
 exact Ry
theorem VR.cells{m x v}(h:VR m x v):cK m x.cells v.cells.toList:=by
 by_cases hx:x.one=true
 ·have hc:x.cells=[x]:=by cases x<;>first|rfl|cases hx
  rw[h.one hx,hc];exact aQ.2 ⟨v,[],rfl,h,bB.2 rfl⟩
 ·cases x with
  |agg l=>rw[VR]at h;obtain⟨l',rfl,hl⟩:=h;exact hl
  |dL l=>exact aQ.2 ⟨v,[],by rw[VR]at h;obtain⟨l',rfl,hl⟩:=h;rfl,h,bB.2 rfl⟩
  |kN=>exact aQ.2 ⟨v,[],by rw[VR]at h;subst h;rfl,h,bB.2 rfl⟩
  |_=>exact absurd rfl hx
def val(ts:TS):cZ->AV
 |.t i=>ts.getD i az
 |.c v=>v
 |.g i=>.ptr i 0
 |.f i=>.func (.func i) [] []
def put(ts:TS)(d:Option Nat)(v:AV):TS:=
 match d with
 |some d=>ts.set d v
 |none=>ts
def wanted(g:Option (Nat×Bool))(ts:TS):Prop:=
 match g with
 |none=>True
 |some (t,b)=>ts[t]? =some (.bool b)
def eI(h:ah)(b:Nat):Bool:=
 match h[b]? with
 |some (.cells _ _ tl)=>tl
 |_=>false
def mN:Nat->Value->Option AV
 | 0,_=>none
 |n+1,v=>
  match v with
  |.bool b=>some (.bool b)
  |.int k i=>some (.int k i)
  |.float k b=>some (.xH k b)
  |.complex k x y=>some (.wX k x y)
  |.string s=>some (.str s.data.toList)
  |.pointer none=>some .nilPtr
  |.slice none 0 0=>some .af
  |.map none=>some .dh
  |.nilFunc=>some .nilFunc
  |.agg cs=>(cs.toList.mapM (mN n)).map .agg
  |.tuple cs=>(cs.toList.mapM (mN n)).map .dL
  |_=>none
def cV:Operand->Option cZ
 |.tmp t=>some (.t t)
 |.const v=>(mN 4 v).map .c
 |.global g=>some (.g g)
 |.func f=>some (.f f)
def EW:Operand->Option cZ
 |.global _=>none
 |x=>cV x
def zi(l:Array Operand):Option (List cZ):=l.toList.mapM cV
def vH:Option Operand->Option (Option cZ)
 |none=>some none
 |some x=>(cV x).map some
def jV:TypeDesc->Bool
 |.struct _=>true
 |.array _ _=>true
 |_=>false
def BB(P:Program)(t:TypeId):Option (Option Nat):=
 match P.underlying t with
 |some d=>if jV d then(P.info? t).map λi=>some i.size else some none
 |none=>none
def dZ(P:Program)(t:TypeId):Option Nat:=(P.info? t).map (·.size)
def jG(P:Program)(t:TypeId):Option AV:=(P.info? t).bind λi=>i.zero.bind (mN 4)
def wP(P:Program)(F:TypeId->Option (List CK)):List Field->Nat->Option (List CK)
 |[],_=>some []
 |f::fs,off=>
  match F f.type,P.info? f.type with
  |some ks,some i=>
   if f.name≠ "_"/\f.offset=off/\i.size=ks.length/\0<ks.length then
    match wP P F fs (off+ks.length)with
    |some r=>some (ks++r)
    |none=>none
   else none
  |_,_=>none
def flat(P:Program):Nat->TypeId->Option (List CK)
 | 0,_=>none
 |d+1,t=>
  match P.underlying t with
  |some .bool=>some [.b]
  |some (.int _)=>some [.i]
  |some .string=>some [.s]
  |some (.struct fs)=>if P.stoodInHeld t=false then wP P (flat P d) fs.toList 0 else none
  |some (.array len e)=>
   match flat P d e,P.info? e with
   |some ks,some i=>if i.size=ks.length/\0<ks.length then some (List.replicate len ks).flatten else none
   |_,_=>none
  |_=>none
def I9(P:Program)(neg:Bool)(t:TypeId)(x y:cZ):Option pv:=
 match P.underlying t with
 |some (.int _)=>some (.bin (if neg then .neq else .eql) x y)
 |some .string=>some (.bin (if neg then .neq else .eql) x y)
 |some (.float _)=>some (.bin (if neg then .neq else .eql) x y)
 |some .bool=>some (.eqv neg (.one .b) x y)
 |some (.struct _)=>if P.eqGuardType P.depth t=false then(flat P 20 t).map λks=>.eqv neg (.agg ks) x y else none
 |some (.array _ _)=>if P.eqGuardType P.depth t=false then(flat P 20 t).map λks=>.eqv neg (.agg ks) x y else none
 |some (.slice _)=>some (.eqv neg .Ay x y)
 |some (.pointer _)=>some (.eqv neg .E3 x y)
 |some (.func _ _ _)=>some (.eqv neg .qx x y)
 |some (.map _ _)=>some (.eqv neg .Mc x y)
 |_=>none
def Fq(P:Program)(e:TypeId):Bool:=
 match P.underlying e with
 |some (.int .u8)=>true
 |_=>false
def Du(P:Program)(s d:TypeId):Option Aa:=
 match P.underlying s,P.underlying d with
 |some (.int _),some (.int k)=>some (.MJ k)
 |some (.int _),some (.float k)=>some (.PQ k)
 |some (.float _),some (.int k)=>some (.P5 k)
 |some (.float _),some (.float k)=>some (.P6 k)
 |some .string,some .string=>some .same
 |some .string,some (.slice e)=>if Fq P e=true then some .OF else none
 |some (.slice e),some .string=>if Fq P e=true then some .NS else none
 |_,_=>none
def fieldAt(P:Program)(t:TypeId)(i:Nat):Option Field:=
 match P.underlying t with
 |some (.struct fs)=>fs[i]?
 |_=>none
def jK(P:Program)(t:TypeId)(i:Nat):Option (Nat×Nat):=
 match P.underlying t with
 |some (.struct fs)=>
  match fs.toList.mapM (λf=>(P.info? f.type).map λi=>(f.offset,i.size))with
  |some places=>places[i]?
  |none=>none
 |some (.array _ e)=>(P.info? e).map λie=>(i*ie.size,ie.size)
 |_=>none
def n9(P:Program)(t:TypeId):Bool:=
 match P.underlying t with
 |some (.struct fs)=>(fs.toList.mapM (λf=>(P.info? f.type).map λi=>(f.offset,i.size))).isSome
 |some (.array _ e)=>(P.info? e).isSome
 |_=>false
def mG(P:Program)(t:TypeId):List (Nat×Operand)->Option (List (Nat×Nat×cZ))
 |[]=>some []
 |(i,x)::r=>
  match jK P t i,cV x,mG P t r with
  |some (off,n),some y,some r=>some ((off,n,y)::r)
  |_,_,_=>none
def ed(P:Program)(t:TypeId):Option (TypeId×TypeInfo):=
 match P.underlying t with
 |some (.slice e)=>(P.info? e).map λi=>(e,i)
 |_=>none
def oS(P:Program)(b:Builtin)(ts:Array TypeId)(args:List cZ):Option pv:=
 match b,args with
 |.len,[x]=>
  match (ts[0]?).bind P.underlying with
  |some (.slice _)=>some (.len .sl x)
  |some .string=>some (.len .st x)
  |some (.map _ _)=>some (.len .mp x)
  |some (.array n _)=>some (.AJ n)
  |_=>none
 |.append,[x,y]=>
  match (ts[0]?).bind (ed P),(ts[1]?).bind P.underlying with
  |some (_,i),some (.slice _)=>if 0<i.size/\0<i.bytes/\i.bytes<=2^20 then(i.zero.bind (mN 4)).bind λz=>if z.cells.length=i.size then some (.app i.size i.bytes x y)else none else none
  |some (_,i),some .string=>if 0<i.size/\0<i.bytes/\i.bytes<=2^20 then(i.zero.bind (mN 4)).bind λz=>if z.cells.length=i.size then some (.app i.size i.bytes x y)else none else none
  |_,_=>none
 |.copy,[x,y]=>
  match (ts[0]?).bind (ed P)with
  |some (_,i)=>if 0<i.size then some (.zL i.size x y)else none
  |_=>none
 |.max,x::l=>some (.mx x l)
 |.min,x::l=>some (.mn x l)
 |_,_=>none
def yu(P:Program)(t:TypeId):Option CK:=
 match P.underlying t with
 |some (.int _)=>some .i
 |some .string=>some .s
 |some .bool=>some .b
 |_=>none
def CF:Fn->Bool
 |.yield _=>false
 |_=>true
def ep(P:Program)(o:Oper):Option pv:=
 match o.op with
 |.move x=>(cV x).map .cg
 |.assign x=>(cV x).map .cg
 |.pick c a b=>
  match cV c,cV a,cV b with
  |some c,some a,some b=>some (.pick c a b)
  |_,_,_=>none
 |.alloc e=>
  match jG P e with
  |some z=>if z.cells.all AV.one then some (.box (.c z))else none
  |none=>none
 |.box _ x=>(cV x).map .box
 |.build t ps=>
  match jG P t,mG P t ps.toList with
  |some z,some l=>if n9 P t=true then some (.build z.cells l)else none
  |_,_=>none
 |.buildSlice t n ps=>
  match ed P t with
  |some (e,i)=>
   match jG P e,ps.toList.mapM λp=>(cV p.2).map λy=>(p.1*i.size,y)with
   |some z,some l=>if 0<i.size/\z.cells.length=i.size/\z.cells.all AV.one/\n*i.size<=2^24 then some (.ba i.size n z.cells l)else none
   |_,_=>none
  |none=>none
 |.load t a=>
  match BB P t,cV a with
  |some n,some a=>some (.load n a)
  |_,_=>none
 |.store t a x=>
  match dZ P t,cV a,cV x with
  |some n,some a,some x=>some (.store n a x)
  |_,_,_=>none
 |.nilCheck x=>(cV x).map .bQ
 |.binOp op t x y _=>
  match cV x,cV y with
  |some x,some y=>
   match op with
   |.eql=>I9 P false t x y
   |.neq=>I9 P true t x y
   |_=>some (.bin op x y)
  |_,_=>none
 |.unOp op _ x=>(cV x).map (.un op)
 |.convert s d x=>
  match Du P s d,cV x with
  |some k,some x=>some (.conv k x)
  |_,_=>none
 |.makeInterface t x=>
  match P.underlying t,cV x with
  |some (.interface _),_=>none
  |some _,some x=>some (.conv (.uS t) x)
  |_,_=>none
 |.makeFunc fn a c=>
  if CF fn=true then
   match zi a,zi c with
   |some a,some c=>some (.uk fn a c)
   |_,_=>none
  else none
 |.makeMap _ none=>some .lu
 |.makeSlice t l c=>
  match ed P t,cV l,cV c with
  |some (e,i),some l,some c=>
   match jG P e with
   |some z=>if 0<i.size/\z.cells.length=i.size/\z.cells.all AV.one then some (.vY i.size i.bytes z.cells l c)else none
   |none=>none
  |_,_,_=>none
 |.slice t x lo hi none=>
  match cV x,vH lo,vH hi with
  |some x,some lo,some hi=>
   match P.underlying t with
   |some .string=>some (.J5 x lo hi)
   |some (.slice e)=>(dZ P e).map λn=>.sl n x lo hi
   |some (.array k e)=>(dZ P e).map λn=>.NP k n x lo hi
   |_=>none
  |_,_,_=>none
 |.fieldAddr t x i=>
  match fieldAt P t i,cV x with
  |some f,some x=>
   match dZ P f.type with
   |some n=>if 0<n then some (.bu f.offset x)else none
   |none=>none
  |_,_=>none
 |.indexAddr t x i=>
  match cV x,cV i with
  |some x,some i=>
   match P.underlying t with
   |some (.slice e)=>(dZ P e).map λn=>.bG n x i
   |some (.array k e)=>(dZ P e).map λn=>.sN k n x i
   |_=>none
  |_,_=>none
 |.field t x i=>
  match fieldAt P t i,cV x with
  |some f,some x=>(BB P f.type).map λn=>.part n f.offset x
  |_,_=>none
 |.index t x i=>
  match cV x,cV i with
  |some x,some i=>
   match P.underlying t with
   |some .string=>some (.Ea x i)
   |some (.array k e)=>
    match dZ P e,BB P e with
    |some n,some q=>some (.J7 k n q x i)
    |_,_=>none
   |_=>none
  |_,_=>none
 |.lookup t m k ok=>
  match P.underlying t,cV m,cV k with
  |some (.map kt e),some m,some k=>
   match yu P kt,jG P e with
   |some kk,some z=>some (.look kk z ok m k)
   |_,_=>none
  |_,_,_=>none
 |.mapUpdate t m k x=>
  match P.underlying t,cV m,cV k,cV x with
  |some (.map kt _),some m,some k,some x=>(yu P kt).map λkk=>.fj kk m k x
  |_,_,_,_=>none
 |.insert t m k x=>
  match P.underlying t,cV m,cV k,cV x with
  |some (.map kt _),some m,some k,some x=>(yu P kt).map λkk=>.fj kk m k x
  |_,_,_,_=>none
 |.range t x=>
  match P.underlying t with
  |some .string=>(cV x).map .Cj
  |_=>none
 |.next x true=>(cV x).map .rE
 |.extract x i=>(cV x).map λx=>.ext x i
 |.call c=>
  match zi c.args with
  |some l=>
   match c.callee with
   |.value f=>(cV f).map λf=>.call f l
   |.invoke r name=>(cV r).map λr=>.call (.c (.func (.method name) [] [])) (r::l)
   |.builtin b=>oS P b c.argTypes l
  |none=>none
 |_=>none
def uq(ops:Array Oper)(g:Option (Nat×Bool)):Option (Option (Nat×Bool)):=
 match g with
 |none=>some none
 |some (j,b)=>((ops[j]?).bind (·.dst)).map λd=>some (d,b)
def NR(P:Program):Operand->Bool
 |.global g=>decide (g<P.globals.size)
 |_=>true
def bU(P:Program)(ops:Array Oper)(q:Bool)(o:Oper):Option bL:=
 match uq ops o.guard with
 |some g=>some {dst:=o.dst,k:=if o.op.operands.toList.all (NR P)then(ep P o).getD .bad else .bad,gd:=g,q:=q}
 |none=>none
def ahead(M:Array Nat)(i j:Nat):Bool:=(M.getD j 0).testBit i
def kS(M:Array Nat)(ops:Array Oper):Bool:=
 (List.range ops.size).all λj=>
  match ops[j]? with
  |none=>true
  |some o=>
   (o.after.toList.all λe=>!Region.binds .any e||decide (e.on<j)) &&
   ((List.range ops.size).all λi=>!ahead M i j||o.after.toList.any λe=>Region.binds .any e&&(e.on==i||ahead M i e.on))
def mi(M:Array Nat)(ops:Array Oper):Bool:=
 (List.range ops.size).all λj=>
  (List.range j).all λi=>
   match ops[i]?,ops[j]? with
   |some x,some y=>
    (match x.dst with
     |some d=>y.dst !=some d&&(!(y.looksAt ops).contains d||ahead M i j)
     |none=>true) &&
    (match y.dst with
     |some d=>!(x.looksAt ops).contains d||ahead M i j
     |none=>true)
   |_,_=>true
def gO(M:Array Nat)(n j:Nat):Bool:=
 (List.range n).all λi=>i==j||(if i<j then ahead M i j else ahead M j i)
def eU{α β:Type}(f:Nat->α->Option β):List α->Nat->Option (List β)
 |[],_=>some []
 |x::xs,i=>
  match f i x,eU f xs (i+1)with
  |some y,some ys=>some (y::ys)
  |_,_=>none
def yz:AV->Bool
 |.bool _=>true
 |.int _ _=>true
 |.xH _ _=>true
 |.wX _ _ _=>true
 |.str _=>true
 |.nilPtr=>true
 |.af=>true
 |.dh=>true
 |.nilFunc=>true
 |_=>false
def mh(o:bL):Option (Nat×Nat×cZ):=
 match o.dst,o.k,o.gd,o.q with
 |none,.store n (.t t) x,none,true=>some (n,t,x)
 |_,_,_,_=>none
def tO(o:bL):Option (Nat×AV):=
 match o.dst,o.k,o.gd,o.q with
 |some t,.box (.c z),none,true=>some (t,z)
 |_,_,_,_=>none
def fG(ops:Array Oper)(j t:Nat):Bool:=
 match ops[j]? with
 |some o=>(o.looksAt ops).contains t
 |none=>false
def pG(ops:Array Oper)(l:List bL)(k s:Nat):Bool:=
 match (l[k]?).bind tO,(l[s]?).bind mh with
 |some (t,z),some (n,t',x)=>
  t==t'&&z.cells.length==n&&z.cells.all yz&&(match x with|.t u=>u !=t&&fG ops s u|_=>true)&&fG ops s t&&(List.range ops.size).all λj=>j==s || !fG ops j t
 |_,_=>false
def PN(ops:Array Oper)(l:List bL)(s:Nat):Option Nat:=(List.range s).find? λk=>pG ops l k s
def OD(ops:Array Oper)(l:List bL)(k:Nat):Option Nat:=(List.range l.length).find? λs=>decide (k<s)&&pG ops l k s
def tH(ops:Array Oper)(l:List bL)(j:Nat)(o:bL):bL:=
 match mh o with
 |some (n,t,x)=>
  match PN ops l j with
  |some _=>{dst:=some t,k:=.oX n x,gd:=none,q:=true}
  |none=>o
 |none=>
  match tO o with
  |some _=>
   match OD ops l j with
   |some _=>{dst:=none,k:=.cg (.c (.bool false)),gd:=none,q:=true}
   |none=>o
  |none=>o
def qn(ops:Array Oper)(l:List bL):Nat->List bL->List bL
 |_,[]=>[]
 |j,o::r=>tH ops l j o::qn ops l (j+1) r
def cP(P:Program)(ops:Array Oper)(draw:Bool):Option (List bL):=
 if draw then
  let M:=Region.before ops
  if kS M ops&&mi M ops then
   (eU (λi o=>bU P ops (!gO M ops.size i) o) ops.toList 0).map λl=>qn ops l 0 l
  else none
 else eU (λ_ o=>bU P ops false o) ops.toList 0
def fC:pv->Bool
 |.cg _=>true
 |.pick _ _ _=>true
 |.bin _ _ _=>true
 |.eqv _ _ _ _=>true
 |.un _ _=>true
 |.conv (.MJ _) _=>true
 |.bu _ _=>true
 |.sN _ _ _ _=>true
 |.bG _ _ _=>true
 |.part _ _ _=>true
 |.J7 _ _ _ _ _=>true
 |.Ea _ _=>true
 |.ext _ _=>true
 |.bQ _=>true
 |.mx _ _=>true
 |.mn _ _=>true
 |.build _ _=>true
 |.J5 _ _ _=>true
 |.sl _ _ _ _=>true
 |.AJ _=>true
 |.uk _ _ _=>true
 |.len .sl _=>true
 |.len .st _=>true
 |_=>false
def cE:pv->Bool
 |.load _ _=>true
 |k=>fC k
def DM:pv->Bool
 |.box _=>true
 |.ba _ _ _ _=>true
 |.lu=>true
 |_=>false
def Fu:pv->Bool
 |.call _ _=>true
 |_=>false
def kW(o:bL):Bool:=DM o.k||(o.q&&Fu o.k)
def Ft(o:Oper):Bool:=
 match o.op with
 |.call c=>
  match c.callee with
  |.builtin _=>false
  |_=>true
 |_=>false
def Fs(o:Oper):Bool:=
 o.guard.isNone&&match o.op with
 |.load _ _=>true
 |_=>false
def sM(c:Nat)(o:Oper):Bool:=(decide (1<=c)&&Ft o)||(decide (2<=c)&&Fs o)
def mR(o:bL):Bool:=
 o.q&&match o.k with
 |.load _ _=>true
 |_=>false
def oz(M:Array Nat)(l:List bL):Bool:=
 (List.range l.length).all λj=>
  (List.range j).all λi=>
   match l[i]?,l[j]? with
   |some x,some y=>fC x.k||fC y.k||mR x||mR y||(cE x.k&&(cE y.k||kW y))||(kW x&&cE y.k)||ahead M i j
   |_,_=>true
def zf(o:bL):Bool:=
 o.q&&match o.k with
  |.store _ _ _=>true
  |_=>false
def MQ(o:bL):Bool:=
 o.q&&match o.k with
  |.store _ _ _=>true
  |.app _ _ _ _=>true
  |.zL _ _ _=>true
  |.fj _ _ _ _=>true
  |_=>false
def C3(o:bL):Bool:=fC o.k||match o.k with
 |.store _ _ _=>true
 |_=>false
def MH(o:bL):Bool:=match o.k with
 |.store _ _ _=>true
 |_=>false
def kO(l:List bL):Bool:=l.all C3&&decide ((l.filter MH).length<=2)
def dI:List bL->Nat
 |[]=>0
 |o::r=>if kO (o::r)=true then 0 else dI r+1
def nG(M:Array Nat)(l:List bL):Bool:=
 (List.range l.length).all λi=>
  match l[i]? with
  |some x=>!mR x||(List.range l.length).all λj=>
    match l[j]? with
    |some y=>cE y.k||decide (j<dI l)||ahead M i j
    |none=>true
  |none=>true
def rI(M:Array Nat)(l:List bL)(f:Nat):Bool:=
 (List.range l.length).all λj=>
  (List.range j).all λi=>
   match l[i]?,l[j]? with
   |some x,some y=>fC x.k||fC y.k||mR x||mR y||decide (j=f)||ahead M i j
   |_,_=>true
def wO(ops:Array Oper)(l:List bL)(f:Nat):Bool:=
 match l[f]? with
 |some {dst:=some d,k:=.ba _ _ z ps,gd:=none,q:=_}=>z.all yz&&ps.all (λp=>match p.2 with|.t u=>fG ops f u|_=>false)&&(List.range l.length).all λj=>
   match l[j]? with
   |some o=>!cE o.k||((fC o.k||mR o) && !fG ops j d)
   |none=>true
 |_=>false
def Hi(M:Array Nat)(ops:Array Oper)(l:List bL):Option Nat:=(List.range l.length).find? λf=>wO ops l f&&rI M l f
def Nk(l:List bL):Bool:=l.any λo=>o.q&&match o.k with
 |.app _ _ (.t d) _=>l.any λp=>p.dst==some d&&match p.k with
  |.app _ _ _ _=>true
  |_=>false
 |_=>false
def nK(P:Program)(ops:Array Oper)(draw:Bool):Option ai:=
 match cP P ops draw with
 |none=>none
 |some l=>
  if l.any MQ=true/\draw=true then
   match eU (λ_ o=>bU P ops (sM 0 o) o) ops.toList 0,eU (λ_ o=>bU P ops (sM 1 o) o) ops.toList 0,eU (λ_ o=>bU P ops (sM 2 o) o) ops.toList 0 with
   |some l',some l2,some l3=>if(oz (Region.before ops) l' && !l'.any mR)=true then some (.ops l')else if(oz (Region.before ops) l2 && !l2.any mR)=true then some (.ops l2)else if(l.any zf&&(Hi (Region.before ops) ops l3).isSome&&nG (Region.before ops) l3)=true then some (.mM l3)else if l.any zf=true then(if(decide (2<(l.filter MH).length)&&oz (Region.before ops) l3&&nG (Region.before ops) l3)=true then some (.mM l3)else some (.sL l'))else if(oz (Region.before ops) l3&&nG (Region.before ops) l3)=true then some (.mM l3)else if(Nk l&&(Hi (Region.before ops) ops l3).isSome&&nG (Region.before ops) l3)=true then some (.mM l3)else some (.ops l)
   |_,_,_=>none
  else some (.ops l)
def compile(P:Program):Code->Option ai
 |.skip=>some .skip
 |.region _ ops draw=>nK P ops draw
 |.seq a b=>
  match compile P a,compile P b with
  |some x,some y=>some (.seq x y)
  |_,_=>none
 |.cond c a b=>
  match EW c,compile P a,compile P b with
  |some c,some x,some y=>some (.cond c x y)
  |_,_,_=>none
 |.block id a=>(compile P a).map (.block id)
 |.loop a=>(compile P a).map .loop
 |.exit id=>some (.exit id)
 |.ret=>some .ret
 |.label _=>some .skip
 |.scope a=>compile P a
 |.rangeFunc g ps asg body=>
  match EW g,compile P asg,compile P body with
  |some g,some x,some y=>some (.fW g ps.toList x y)
  |_,_,_=>none
 |.goto _=>some .bad
 |.refuse _=>some .bad
structure au where
 nt:Nat
 np:Nat
 rs:List (Nat×Option (Option Nat))
 body:ai
def ua(P:Program):ResultVar->Option (Nat×Option (Option Nat))
 |.tmp t=>some (t,none)
 |.cell a t=>(BB P t).map λn=>(a,some n)
def bR(P:Program)(f:FuncId):Option au:=
 match P.funcs[f]? with
 |none=>none
 |some fn=>
  match fn.body with
  |none=>none
  |some c=>
   match compile P c,fn.results.toList.mapM (ua P)with
   |some b,some rs=>if fn.name == "runtime.NumGoroutine" then none else some {nt:=fn.ntmps,np:=fn.params.size,rs:=rs,body:=b}
   |_,_=>none
def Fw(P:Program)(g:Nat):Nat:=
 match P.globals[g]? with
 |some G=>
  match P.info? G.type with
  |some i=>i.size
  |none=>0
 |none=>0
def BR(P:Program)(m:bY)(w:World)(e:sW):ak->Prop
 |.cells c mu tl=>∃cc el fz,w.heap[e.cb]? =some (.cells cc el fz)/\(e.d+c.length<=cc.size/\e.d+c.length<=e.sz/\cc.size=e.sz)/\
   (∀(i:Nat) (x:AV),c[i]? =some x->x.one=true/\∃v,cc[e.d+i]? =some v/\VR m x v)/\
   (e.own=true->cc.size=e.sz/\∀i,i<cc.size->¬(fz.1<=i/\i<fz.2))/\((mu=true\/tl=true)->e.own=true/\(tl=false->e.sz=e.d+c.length))
 |.dead=>True
 |.aR es=>e.own=true/\∃UD clock,w.heap[e.cb]? =some (.map UD clock)/\UD.size=es.length/\
   ∀(i:Nat) (p:AV×AV),es[i]? =some p->∃q,UD[i]? =some q/\VR m p.1 q.key/\VR m p.2 q.val
 |.iter s pos=>e.own=true/\e.d=0/\w.heap[e.cb]? =some (.stringIter ⟨⟨s⟩⟩ pos)
 |.loop st ex ts ps asg body=>e.own=true/\∃fn tmps Ty SY df,w.heap[e.cb]? =some (.loop {state:=st,pending:=ex.jump,fn:=fn,tmps:=tmps,params:=⟨ps⟩,assign:=Ty,body:=SY,defers:=df})/\
   cK m ts tmps.toList/\compile P Ty=some asg/\compile P SY=some body
def ak.live:ak->Bool
 |.dead=>false
 |_=>true
def p7(e1 e2:sW):ak->ak->Prop
 |.cells c1 mu1 tl1,.cells c2 mu2 tl2=>mu1=false/\mu2=false/\(tl1=true->tl2=false/\e2.d+c2.length<=e1.d+c1.length)
 |.dead,_=>True
 |_,.dead=>True
 |_,_=>False
structure HR(P:Program)(m:bY)(h:ah)(w:World):Prop where
 cN:∀b e,m b=some e->b<h.length
 dU:∀b e k,m b=some e->h[b]? =some k->BR P m w e k
 sep:∀b1 b2 e1 e2 k1 k2,b1≠b2->m b1=some e1->m b2=some e2->h[b1]? =some k1->h[b2]? =some k2->e1.cb=e2.cb->p7 e1 e2 k1 k2
 gu:∀g,g<P.globals.size->∃e,m g=some e/\e.cb=g/\e.d=0/\e.own=false/\e.sz=Fw P g
 lt:∀b e,m b=some e->e.cb<w.heap.size
structure Grow(m:bY)(h:ah)(w:World)(m':bY)(h':ah)(w':World):Prop where
 ext:∀b,b<h.length->m' b=m b
 len:h.length<=h'.length
 new:∀b e,h.length<=b->m' b=some e->e.own=true/\(w.heap.size<=e.cb\/∃b0 e0,m b0=some e0/\e0.cb=e.cb/\e0.own=true/\eI h b0=true/\eI h' b0=false)
 tl:∀b,b<h.length->eI h' b=true->eI h b=true
 size:w.heap.size<=w'.heap.size
 os:w'.os=w.os
 out:w'.output=w.output
 tape:w'.tape=w.tape
 frame:∀i,i<w.heap.size->(∀b e,m b=some e->e.own=true->e.cb≠i)->w'.heap[i]? =w.heap[i]?
def Grow.refl(m:bY)(h:ah)(w:World)(hd:∀b e,m b=some e->b<h.length):Grow m h w m h w where
 ext:=λ_ _=>rfl
 len:=ZO _
 new:=λb e hb he=>absurd (hd b e he) Om
 tl:=λ_ _ h=>h
 size:=ZO _
 os:=rfl
 out:=rfl
 tape:=rfl
 frame:=λ_ _ _=>rfl
theorem Grow.le{m m' h h' w w'}(g:Grow m h w m' h' w')(hd:∀b e,m b=some e->b<h.length):m.le m':=
 λb e he=>by rw[g.ext b (hd b e he)];exact he
theorem Grow.trans{m m1 m2 h h1 h2 w w1 w2}(a:Grow m h w m1 h1 w1)(b:Grow m1 h1 w1 m2 h2 w2)
  (hd:∀b e,m b=some e->b<h.length):Grow m h w m2 h2 w2 where
 ext:=λi hi=>(b.ext i (aax hi a.len)).trans (a.ext i hi)
 len:=aat a.len b.len
 new:=by
  intro i e hi he;by_cases h1i:h1.length<=i
  ·obtain⟨ho,hc⟩:=b.new i e h1i he;refine⟨ho,?_⟩;rcases hc with hc|⟨b0,e0,TM,hcb,ho0,UH,Xz⟩
   ·exact .inl (aat a.size hc)
   ·by_cases hb:h.length<=b0
    ·obtain⟨_,hc0⟩:=a.new b0 e0 hb TM;rcases hc0 with hc0|⟨b00,e00,hb00,Zt,ho00,ht00,Yb⟩
     ·exact .inl (hcb▸hc0)
     ·refine .inr ⟨b00,e00,hb00,Zt.trans hcb,ho00,ht00,?_⟩;cases hx:eI h2 b00 with
      |false=>rfl
      |true=>
       have hlt:=hd _ _ hb00;rw[b.tl b00 (aax hlt a.len) hx]at Yb;cases Yb
    ·have hlt:b0<h.length:=Om
     rw[a.ext b0 hlt]at TM;exact .inr ⟨b0,e0,TM,hcb,ho0,a.tl b0 hlt UH,Xz⟩
  ·have hi1:i<h1.length:=Om
   rw[b.ext i hi1]at he;obtain⟨ho,hc⟩:=a.new i e hi he;refine⟨ho,?_⟩;rcases hc with hc|⟨b0,e0,TM,hcb,ho0,UH,Xz⟩
   ·exact .inl hc
   ·refine .inr ⟨b0,e0,TM,hcb,ho0,UH,?_⟩;cases hx:eI h2 b0 with
    |false=>rfl
    |true=>
     have hlt:=hd _ _ TM;rw[b.tl b0 (aax hlt a.len) hx]at Xz;cases Xz
 tl:=λi hi ht=>a.tl i hi (b.tl i (aax hi a.len) ht)
 size:=aat a.size b.size
 os:=b.os.trans a.os
 out:=b.out.trans a.out
 tape:=b.tape.trans a.tape
 frame:=by
  intro i hi hno;refine(b.frame i (aax hi a.size) ?_).trans (a.frame i hi hno);intro j e he ho hcb;by_cases hj:h.length<=j
  ·obtain⟨_,hc⟩:=a.new j e hj he;rcases hc with hc|⟨b0,e0,TM,Zt,ho0,_,_⟩
   ·omega
   ·exact hno b0 e0 TM ho0 (Zt.trans hcb)
  ·rw[a.ext j Om]at he;exact hno j e he ho hcb
theorem BR.heap{P m w w' e k}(h:BR P m w e k)(hw:w'.heap[e.cb]? =w.heap[e.cb]?):BR P m w' e k:=by
 cases k<;>simp only[BR,hw]at h ⊢<;>exact h
theorem BR.mono{P m m' w e k}(hm:m.le m')(h:BR P m w e k):BR P m' w e k:=by
 cases k with
 |cells c mu tl=>
  obtain⟨cc,el,fz,h1,h2,h3,h4⟩:=h;exact⟨cc,el,fz,h1,h2,λi x hx=>by obtain⟨ho,v,hv,hr⟩:=h3 i x hx;exact⟨ho,v,hv,VR.mono hm _ _ hr⟩,h4⟩
 |dead=>trivial
 |aR es=>
  obtain⟨ho,UD,clock,h1,h2,h3⟩:=h;exact⟨ho,UD,clock,h1,h2,λi p hp=>by obtain⟨q,hq,ha,hb⟩:=h3 i p hp;exact⟨q,hq,VR.mono hm _ _ ha,VR.mono hm _ _ hb⟩⟩
 |iter s pos=>exact h
 |loop st ex ts ps asg body=>
  obtain⟨ho,fn,tmps,Ty,SY,df,h1,h2,h3,h4⟩:=h;exact⟨ho,fn,tmps,Ty,SY,df,h1,cK.mono hm _ _ h2,h3,h4⟩
theorem HR.drew{P m h w}(hr:HR P m h w):HR P m h w.drew where
 cN:=hr.cN
 dU:=λb e k hb hk=>(hr.dU b e k hb hk).heap rfl
 sep:=hr.sep
 gu:=hr.gu
 lt:=hr.lt
theorem Grow.drew{m h w m' h' w'}(g:Grow m h w m' h' w'):Grow m h w m' h' w'.drew:=
 ⟨g.ext,g.len,g.new,g.tl,g.size,g.os,g.out,g.tape,g.frame⟩
def Grow.Dq{m h w m' h' w'}(g:Grow m h w.drew m' h' w'):Grow m h w m' h' w':=
 ⟨g.ext,g.len,g.new,g.tl,g.size,g.os,g.out,g.tape,g.frame⟩
def BR.lt{P m w e k}(h:BR P m w e k)(hl:k.live=true):e.cb<w.heap.size:=by
 cases k with
 |cells c mu tl=>obtain⟨cc,el,fz,h1,_⟩:=h;exact(ZX.1 h1).1
 |dead=>cases hl
 |aR es=>obtain⟨_,UD,clock,h1,_⟩:=h;exact(ZX.1 h1).1
 |iter s pos=>exact(ZX.1 h.2.2).1
 |loop st ex ts ps asg body=>obtain⟨_,fn,tmps,Ty,SY,df,h1,_⟩:=h;exact(ZX.1 h1).1
def bY.add(m:bY)(b:Nat)(e:sW):bY:=λx=>if x=b then some e else m x
def bY.si{m:bY}{b:Nat}(e:sW)(h:m b=none):m.le (m.add b e):=by
 intro x y hx;unfold bY.add;by_cases hb:x=b
 ·subst hb;rw[h]at hx;cases hx
 ·rw[ZN hb];exact hx
def fK{h k b}(hb:b<h.length):eI (h++[k]) b=eI h b:=by
 unfold eI;rw[ZF hb]
def kC{P:Program}{m:bY}{h:ah}{w:World}(hr:HR P m h w)(o:Obj)(k:ak)(e:sW)(he:e.cb=w.heap.size)(ho:e.own=true)
  (hk:∀m':bY,m.le m'->BR P m' (w.alloc o) e k):
  HR P (m.add h.length e) (h++[k]) (w.alloc o)/\Grow m h w (m.add h.length e) (h++[k]) (w.alloc o):=by
 have TC:m h.length=none:=by
  exact NI
 have hle:=bY.si e TC;have hold:∀b x,m b=some x->(m.add h.length e) b=some x:=hle;have hheap:∀i,i<w.heap.size->(w.alloc o).heap[i]? =w.heap[i]? :=λi hi=>Go.RowKit.Below.heap_alloc w o i hi
 have Wq:∀b x k',m b=some x->h[b]? =some k'->k'.live=true->x.cb<w.heap.size:=λb x k' hb hk' hl=>(hr.dU b x k' hb hk').lt hl
 refine⟨⟨?_,?_,?_,?_,?_⟩,⟨?_,Si,?_,?_,Si,rfl,rfl,rfl,λi hi _=>hheap i hi⟩⟩
 ·intro b x hb;unfold bY.add at hb;by_cases hbl:b=h.length
  ·subst hbl;simp
  ·rw[ZN hbl]at hb;have:=hr.cN _ _ hb;simp;omega
 ·intro b x k' hb hk';unfold bY.add at hb;by_cases hbl:b=h.length
  ·subst hbl;rw[ZS rfl]at hb;cases hb;simp at hk';subst hk';exact hk _ hle
  ·rw[ZN hbl]at hb;have hlt:=hr.cN _ _ hb;rw[ZF hlt]at hk';have h0:=hr.dU b x k' hb hk';by_cases hl:k'.live=true
   ·exact(h0.mono hle).heap (hheap _ (h0.lt hl))
   ·cases k'<;>first|trivial|exact absurd rfl hl
 ·intro b1 b2 e1 e2 k1 k2 hne h1 h2 hk1 Sz hcb;unfold bY.add at h1 h2;by_cases S9:b1=h.length
  ·subst S9;rw[ZS rfl]at h1;cases h1;have Tk:b2≠h.length:=λx=>hne x.symm
   rw[ZN Tk]at h2;have hlt:=hr.cN _ _ h2;rw[ZF hlt]at Sz;by_cases hl:k2.live=true
   ·have:=Wq _ _ _ h2 Sz hl;omega
   ·cases k2<;>first|(cases k1<;>trivial)|exact absurd rfl hl
  ·rw[ZN S9]at h1;have hlt1:=hr.cN _ _ h1;rw[ZF hlt1]at hk1;by_cases Tk:b2=h.length
   ·subst Tk;rw[ZS rfl]at h2;cases h2;by_cases hl:k1.live=true
    ·have:=Wq _ _ _ h1 hk1 hl;omega
    ·cases k1<;>first|trivial|exact absurd rfl hl
   ·rw[ZN Tk]at h2;have TE:=hr.cN _ _ h2;rw[ZF TE]at Sz;exact hr.sep b1 b2 e1 e2 k1 k2 hne h1 h2 hk1 Sz hcb
 ·intro g hg;obtain⟨x,hx,h1⟩:=hr.gu g hg;exact⟨x,hold _ _ hx,h1⟩
 ·intro b x hb;unfold bY.add at hb;simp only[World.size_alloc];by_cases hbl:b=h.length
  ·rw[ZS hbl]at hb;cases hb;omega
  ·rw[ZN hbl]at hb;have:=hr.lt _ _ hb;omega
 ·intro b hb;unfold bY.add;rw[ZN Om]
 ·intro b x hb hx;unfold bY.add at hx;by_cases hbl:b=h.length
  ·rw[ZS hbl]at hx;cases hx;exact⟨ho,.inl Om⟩
  ·rw[ZN hbl]at hx;exact absurd (hr.cN _ _ hx) Om
 ·intro b hb ht
  rwa [fK hb]at ht
def uR{P:Program}{m:bY}{w:World}{c:List AV}{vs:List Value}(hc:cK m c vs)(h1:c.all AV.one=true)(el:TypeId)(mu tl:Bool)(m':bY)(hm:m.le m'):
  BR P m' (w.alloc (.cells ⟨vs⟩ el)) ⟨w.heap.size,0,vs.length,true⟩ (.cells c mu tl):=by
 refine⟨⟨vs⟩,el,(0,0),World.alloc_heap_new w _,⟨by simp[hc.length],by simp[hc.length]⟩,?_,?_,λ_=>⟨rfl,λ_=>by simp[hc.length]⟩⟩
 ·intro i x hx;obtain⟨v,hv,hr⟩:=hc.get hx;exact⟨aae.1 h1 x (aaz hx),v,by simpa using hv,VR.mono hm _ _ hr⟩
 ·intro _;exact⟨Si,λi _=>by simp⟩
def lX{P m h w}(hr:HR P m h w){c vs}(hc:cK m c vs)(h1:c.all AV.one=true)(el:TypeId)(mu tl:Bool):
  ∃m',m' h.length=some ⟨w.heap.size,0,vs.length,true⟩/\HR P m' (h++[.cells c mu tl]) (w.alloc (.cells ⟨vs⟩ el))/\Grow m h w m' (h++[.cells c mu tl]) (w.alloc (.cells ⟨vs⟩ el)):=
 ⟨_,by simp[bY.add],kC hr (.cells ⟨vs⟩ el) (.cells c mu tl) ⟨w.heap.size,0,vs.length,true⟩ rfl rfl (λm' hm=>uR hc h1 el mu tl m' hm)⟩
def gQ(b o n:Nat):(⟨b,o,none⟩:Addr).add n=⟨b,o+n,none⟩:=by
 unfold Addr.add;by_cases h:n=0
 ·simp[h]
 ·simp[h]
def cell_of{P m h w}(hr:HR P m h w){b e c mu tl}(he:m b=some e)(hb:h[b]? =some (.cells c mu tl))
  {i}{x}(hx:c[i]? =some x):x.one=true/\∃v,w.cell? ⟨e.cb,i+e.d,none⟩=some v/\VR m x v:=by
 obtain⟨cc,el,fz,h1,_,h3,_⟩:=hr.dU b e _ he hb;obtain⟨ho,v,hv,SA⟩:=h3 i x hx;exact⟨ho,v,by simp only[World.cell?,h1];rw[Nat.add_comm];simpa using hv,SA⟩
def nC{P m h w}(hr:HR P m h w){b e c mu tl}(he:m b=some e)(hb:h[b]? =some (.cells c mu tl))
  (o n:Nat) (hn:o+n<=c.length):∃vs,(loadCells ⟨e.cb,o+e.d,none⟩ n).run P w=.ok ⟨vs⟩ w/\cK m ((c.drop o).take n) vs/\((c.drop o).take n).all AV.one=true:=by
 have SF:∀j,j<n->∃x,c[o+j]? =some x:=λj hj=>⟨c[o+j],ZH Om⟩
 have Tr:∀j,j<n->∃v,w.cell? ⟨e.cb,o+e.d+j,none⟩=some v/\∃x,c[o+j]? =some x/\VR m x v:=by
  intro j hj;obtain⟨x,hx⟩:=SF j hj;obtain⟨_,v,hv,SA⟩:=cell_of hr he hb hx;exact⟨v,by rw[show o+e.d+j=o+j+e.d from by omega];exact hv,x,hx,SA⟩
 obtain⟨f,hf⟩:∃f:Nat->Value,∀j,j<n->w.cell? ⟨e.cb,o+e.d+j,none⟩=some (f j):=
  ⟨λj=>(w.cell? ⟨e.cb,o+e.d+j,none⟩).getD default,λj hj=>by obtain⟨v,hv,_⟩:=Tr j hj;simp[hv]⟩
 have Tu:cK m ((c.drop o).take n) ((List.range n).map f):=by
  refine cK.iu (by simp;omega) λi x hx=>?_
  have hi:i<n:=by
   have:=(ZC.1 hx).1;simp at this;omega
  rw[abG hi,abT]at hx;obtain⟨v,hv,y,hy,SA⟩:=Tr i hi;rw[hx]at hy;cases hy;refine⟨f i,by simp[hi],?_⟩;have:=hf i hi;rw[hv]at this;cases this;exact SA
 refine⟨(List.range n).map f,?_,Tu,?_⟩
 ·have:=run_loadCells_list (P:=P) (w:=w) ⟨e.cb,o+e.d,none⟩ ((List.range n).map f) (λj v hj=>by
   have hi:j<n:=by
    have:=(ZC.1 hj).1
    simpa using this
   rw[gQ];simp[hi]at hj;rw[<-hj];exact hf j hi)
  simpa using this
 ·rw[aae];intro x hx;have SC:x∈c:=List.mem_of_mem_drop (aaD hx);obtain⟨i,hi,rfl⟩:=abt SC;exact(cell_of hr he hb (ZH hi)).1
def fU(c:List AV)(o:Nat):List AV->List AV
 |[]=>c
 |x::xs=>fU (c.set o x) (o+1) xs
def bH(h:ah)(b b':Nat)(k:ak)(hb:b<h.length):(h.set b k)[b']? =if b' =b then some k else h[b']? :=by
 rw[List.getElem?_set];by_cases e:b=b'
 ·subst e;simp[hb]
 ·have e':¬b' =b:=λx=>e x.symm
  rw[ZN e,ZN e']
def oP{w:World}{cb i:Nat}{cc:Array Value}{el:TypeId}{fz:Nat×Nat}(h1:w.heap[cb]? =some (.cells cc el fz))(h:¬(fz.1<=i/\i<fz.2)):w.frozen? ⟨cb,i,none⟩=false:=by
 obtain⟨lo,hi⟩:=fz;simp only[World.frozen?,h1];simp only[Bool.and_eq_false_iff,abp];simp only at h;omega
def heap_setCell_same{w:World}{cb i:Nat}{cc:Array Value}{el:TypeId}{fz:Nat×Nat}(h1:w.heap[cb]? =some (.cells cc el fz))(v:Value):
  (w.setCell ⟨cb,i,none⟩ v).heap[cb]? =some (.cells (cc.setIfInBounds i v) el fz):=by
 obtain⟨hlt,hk⟩:=ZX.1 h1;simp only[World.setCell];rw[aaw (by rw[Array.size_modify];exact hlt),Array.getElem_modify_self,hk];simp
def Ak{P:Program}{m:bY}{h:ah}{w:World}(hr:HR P m h w){b:Nat}{e:sW}{c:List AV}{tl:Bool}(he:m b=some e)(hb:h[b]? =some (.cells c true tl))
  {i:Nat}(hi:i<c.length) {x:AV}{v:Value}(hx:x.one=true) (hv:VR m x v):
  (store ⟨e.cb,i+e.d,none⟩ v).run P w=.ok () (w.setCell ⟨e.cb,i+e.d,none⟩ v)/\
  HR P m (h.set b (.cells (c.set i x) true tl)) (w.setCell ⟨e.cb,i+e.d,none⟩ v)/\Grow m h w m (h.set b (.cells (c.set i x) true tl)) (w.setCell ⟨e.cb,i+e.d,none⟩ v):=by
 obtain⟨cc,el,fz,h1,⟨h2,h2'⟩,h3,h4,h5⟩:=hr.dU b e _ he hb;have hown:e.own=true:=(h5 (.inl rfl)).1;obtain⟨eG,hfz⟩:=h4 hown;have hbl:b<h.length:=hr.cN _ _ he;have Tr:∃u,w.cell? ⟨e.cb,i+e.d,none⟩=some u:=⟨cc[i+e.d]'Om,by simp only[World.cell?,h1];exact aaw Om⟩;obtain⟨u,hu⟩:=Tr;have hfr:w.frozen? ⟨e.cb,i+e.d,none⟩=false:=oP h1 (hfz _ Om);have hother:∀k,k≠e.cb->(w.setCell ⟨e.cb,i+e.d,none⟩ v).heap[k]? =w.heap[k]? :=λk hk=>Go.RowKit.Below.heap_setCell w _ v k hk
 have Wf:=heap_setCell_same (i:=i+e.d) h1 v;refine⟨?_,⟨?_,?_,?_,hr.gu,λb' e' hb'=>by simpa using hr.lt b' e' hb'⟩,⟨λ_ _=>rfl,Si,?_,?_,Si,rfl,rfl,rfl,?_⟩⟩
 ·rw[run_store P w _ v .plain (hv.ud hx),hu];simp[hfr]
 ·intro b' e' hb';simpa using hr.cN b' e' hb'
 ·intro b' e' k TA hk;rw[bH h b b' _ hbl]at hk;by_cases hbb:b' =b
  ·subst hbb;rw[ZS rfl]at hk;cases hk;rw[he]at TA;cases TA;refine⟨_,el,fz,Wf,⟨by simpa using h2,by simpa using h2'⟩,?_,λho=>⟨by simpa using eG,λj hj=>hfz j (by simpa using hj)⟩,λz=>⟨hown,λy=>by rw[aap];exact(h5 (.inl rfl)).2 y⟩⟩;intro j y hy;rw[List.getElem?_set]at hy;by_cases hij:i=j
   ·subst hij;rw[ZS rfl,ZS hi]at hy;cases hy;refine⟨hx,v,?_,hv⟩;rw[show e.d+i=i+e.d from by omega];rw[aaV Om]
   ·rw[ZN hij]at hy;obtain⟨ho,u',Wd,hr'⟩:=h3 j y hy;refine⟨ho,u',?_,hr'⟩;rw[abk Om];exact Wd
  ·rw[ZN hbb]at hk;have h0:=hr.dU b' e' k TA hk;by_cases hl:k.live=true
   ·refine h0.heap (hother _ ?_);intro hcb;have:=hr.sep b b' e e' _ k (λx=>hbb x.symm) he TA hb hk hcb.symm;cases k<;>first|(cases hl;done)|exact absurd this.1 Si|exact this
   ·cases k<;>first|trivial|exact absurd rfl hl
 ·intro b1 b2 e1 e2 k1 k2 hne TW SH hk1 Sz hcb;rw[bH h b _ _ hbl]at hk1 Sz;by_cases S9:b1=b
  ·subst S9;rw[ZS rfl]at hk1;cases hk1;rw[ZN (λx=>hne x.symm)]at Sz;have:=hr.sep b1 b2 e1 e2 _ k2 hne TW SH hb Sz hcb;cases k2<;>first|trivial|exact absurd this.1 Si|exact this.elim
  ·rw[ZN S9]at hk1;by_cases Tk:b2=b
   ·subst Tk;rw[ZS rfl]at Sz;cases Sz;have:=hr.sep b1 b2 e1 e2 k1 _ hne TW SH hk1 hb hcb;cases k1<;>first|trivial|exact absurd this.2.1 Si|exact this.elim
   ·exact NH
 ·intro b' e' hb' TA;exact absurd (hr.cN _ _ TA) Om
 ·intro b' hb' ht;unfold eI at ht ⊢;rw[bH h b b' _ hbl]at ht;by_cases hbb:b' =b
  ·subst hbb;rw[ZS rfl]at ht;rw[hb];exact ht
  ·exact Ee
 ·intro k hk hno;exact hother k (λhcb=>hno b e he hown hcb.symm)
theorem pD{P m}:∀(xs:List AV) (vs:List Value) {h}{w}(_:HR P m h w) {b}{e}{c}{tl}(_:m b=some e) (_:h[b]? =some (.cells c true tl))
  (a j:Nat) (_:a+j+xs.length<=c.length) (_:xs.all AV.one=true) (_:cK m xs vs),
  ∃w',(storeCells ⟨e.cb,a+e.d,none⟩ vs j).run P w=.ok () w'/\HR P m (h.set b (.cells (fU c (a+j) xs) true tl)) w'/\Grow m h w m (h.set b (.cells (fU c (a+j) xs) true tl)) w'
 |[],vs,h,w,hr,b,e,c,tl,he,hb,a,j,hlen,h1,hv=>by
  rw[bB]at hv;subst hv;have hbl:b<h.length:=hr.cN _ _ he;have aW:h.set b (.cells (fU c (a+j) []) true tl)=h:=by
   simp only[fU]
   apply abZ
   intro i;rw[bH h b i _ hbl];by_cases hi:i=b
   ·subst hi;simp[hb]
   ·simp[hi]
  exact⟨w,rfl,by rw[aW];exact hr,by rw[aW];exact Grow.refl m h w hr.cN⟩
 |x::xs,vs,h,w,hr,b,e,c,tl,he,hb,a,j,hlen,h1,hv=>by
  obtain⟨v,vs',rfl,hxv,Tu⟩:=aQ.1 hv;simp only[abc,aad]at h1;simp only[ZG]at hlen;obtain⟨SB,hr1,hg1⟩:=Ak hr he hb (i:=a+j) Om h1.1 hxv;have hbl:b<h.length:=hr.cN _ _ he;have S9:(h.set b (.cells (c.set (a+j) x) true tl))[b]? =some (.cells (c.set (a+j) x) true tl):=by rw[bH h b b _ hbl,ZS rfl]
  obtain⟨w',hrun',hr',SV⟩:=pD xs vs' hr1 he S9 a (j+1) (by simp;omega) h1.2 Tu;have aW:(h.set b (.cells (c.set (a+j) x) true tl)).set b (.cells (fU (c.set (a+j) x) (a+(j+1)) xs) true tl)=h.set b (.cells (fU c (a+j) (x::xs)) true tl):=by
   rw[List.set_set];rfl
  rw[aW]at hr' SV;refine⟨w',?_,hr',Grow.trans hg1 SV hr.cN⟩;simp only[storeCells,Z0];rw[gQ,show a+e.d+j=a+j+e.d from by omega,SB];exact hrun'
def fX(op:BinOp)(k:IntKind)(a b:Int):Option AV:=
 match op with
 |.add=>some (.int k (k.wrap (a+b)))
 |.sub=>some (.int k (k.wrap (a-b)))
 |.mul=>some (.int k (k.wrap (a*b)))
 |.quo=>if b=0 then none else some (.int k (k.wrap (a.tdiv b)))
 |.rem=>if b=0 then none else some (.int k (a.tmod b))
 |.and=>some (.int k (k.wrap (BitVec.ofInt k.bits a &&& BitVec.ofInt k.bits b).toNat))
 |.or=>some (.int k (k.wrap (BitVec.ofInt k.bits a |||BitVec.ofInt k.bits b).toNat))
 |.xor=>some (.int k (k.wrap (BitVec.ofInt k.bits a^^^BitVec.ofInt k.bits b).toNat))
 |.andNot=>some (.int k (k.wrap (BitVec.ofInt k.bits a &&& ~~~ (BitVec.ofInt k.bits b)).toNat))
 |.eql=>some (.bool (a==b))
 |.neq=>some (.bool (a !=b))
 |.lss=>some (.bool (decide (a<b)))
 |.leq=>some (.bool (decide (a<=b)))
 |.gtr=>some (.bool (decide (a > b)))
 |.geq=>some (.bool (decide (a>=b)))
 |_=>none
def ri(op:BinOp)(x y:By):Option AV:=
 match op with
 |.add=>if x.length+y.length<2^62 then some (.str (x++y))else none
 |.eql=>some (.bool (x==y))
 |.neq=>some (.bool !(x==y))
 |.lss=>some (.bool (Op.bytesLess x y))
 |.leq=>some (.bool (Op.bytesLess x y||x==y))
 |.gtr=>some (.bool !(Op.bytesLess x y||x==y))
 |.geq=>some (.bool !(Op.bytesLess x y))
 |_=>none
def xR(op:BinOp)(k:IntKind)(a b:Int):Option AV:=
 if b<0 then none
 else match op with
  |.shl=>some (.int k (k.wrap (a*2^(min b.toNat k.bits))))
  |.shr=>some (.int k (a.fdiv (2^(min b.toNat k.bits))))
  |_=>none
def eZ:BinOp->Bool
 |.shl=>true
 |.shr=>true
 |_=>false
def eF(op:BinOp):AV->AV->Option AV
 |.int k a,.int k' b=>if eZ op then xR op k a b else if k=k' then fX op k a b else none
 |.str a,.str b=>ri op a b
 |_,_=>none
def xL(op:UnOp):AV->Option AV
 |.int k n=>
  match op with
  |.neg=>some (.int k (k.wrap (0-n)))
  |.xor=>fX .xor k (if k.signed then -1 else k.max) n
  |_=>none
 |.bool b=>
  match op with
  |.not=>some (.bool !b)
  |_=>none
 |_=>none
def cY:CK->AV->AV->Option Bool
 |.b,.bool a,.bool b=>some (a==b)
 |.i,.int k a,.int k' b=>if k=k' then some (a==b)else none
 |.s,.str a,.str b=>some (a==b)
 |_,_,_=>none
def dF:List CK->List AV->List AV->Option Bool
 |[],[],[]=>some true
 |k::ks,x::xs,y::ys=>
  match cY k x y with
  |some true=>dF ks xs ys
  |some false=>some false
  |none=>none
 |_,_,_=>none
def zG(ks:List CK):AV->AV->Option Bool
 |.agg xs,.agg ys=>if xs.length=ks.length/\ys.length=ks.length then dF ks xs ys else none
 |_,_=>none
def P7:AV->AV->Option Bool
 |.af,.af=>some true
 |.af,.slice _ _ _ _=>some false
 |.slice _ _ _ _,.af=>some false
 |_,_=>none
def P8:AV->AV->Option Bool
 |.nilPtr,.nilPtr=>some true
 |.nilPtr,.ptr _ _=>some false
 |.ptr _ _,.nilPtr=>some false
 |_,_=>none
def Qa:AV->AV->Option Bool
 |.nilFunc,.nilFunc=>some true
 |.nilFunc,.func _ _ _=>some false
 |.func _ _ _,.nilFunc=>some false
 |_,_=>none
def P9:AV->AV->Option Bool
 |.dh,.dh=>some true
 |.dh,.map _=>some false
 |.map _,.dh=>some false
 |_,_=>none
def oQ(t:Q3)(x y:AV):Option Bool:=
 match t with
 |.one k=>cY k x y
 |.agg ks=>zG ks x y
 |.Ay=>P7 x y
 |.E3=>P8 x y
 |.qx=>Qa x y
 |.Mc=>P9 x y
def byteOf:AV->Option UInt8
 |.int .u8 n=>some (UInt8.ofNat n.toNat)
 |_=>none
def cellsIn(es:Nat)(h:ah):AV->Option (List AV×Nat)
 |.af=>some ([],0)
 |.slice b o n es'=>
  if es' =es then
   match h[b]? with
   |some (.cells c _ _)=>if o+n*es<=c.length then some ((c.drop o).take (n*es),n)else none
   |_=>none
  else none
 |.str s=>if es=1 then some (s.map λb=>.int .u8 b.toNat,s.length)else none
 |_=>none
def ku(k:Aa)(x:AV)(h:ah):Option (AV×ah):=
 match k with
 |.MJ k=>
  match x with
  |.int _ n=>some (.int k (k.wrap n),h)
  |_=>none
 |.same=>
  match x with
  |.str s=>some (.str s,h)
  |_=>none
 |.PQ k=>
  match x with
  |.int _ n=>some (.xH k (k.nearest n),h)
  |_=>none
 |.P5 k=>
  match x with
  |.xH s b=>
   match (s.decode b).toInt .zero with
   |some n=>if E9 s b=false/\k.min<=n/\n<=k.max then some (.int k n,h)else none
   |none=>none
  |_=>none
 |.P6 k=>
  match x with
  |.xH s b=>if s=k then some (.xH k b,h)else none
  |_=>none
 |.uS u=>some (.uS u x,h)
 |.NS=>
  match x with
  |.af=>some (.str [],h)
  |.slice b o n es=>
   match cellsIn 1 h (.slice b o n es)with
   |some (l,_)=>
    match l.mapM byteOf with
    |some r=>some (.str r,h)
    |none=>none
   |none=>none
  |_=>none
 |.OF=>
  match x with
  |.str s=>some (.slice h.length 0 s.length 1,h++[.cells (s.map λb=>.int .u8 b.toNat) true true])
  |_=>none
def dO(n:Nat)(z:List AV):List AV:=(List.replicate n z).flatten
def eT(c:List AV):List (Nat×Nat×AV)->Option (List AV)
 |[]=>some c
 |(off,n,v)::r=>if v.cells.length=n/\off+n<=c.length then eT (fU c off v.cells) r else none
def IH:Option AV->Option Int
 |none=>some 0
 |some (.int _ i)=>some i
 |_=>none
def Hf(n:Nat):Option AV->Option Int
 |none=>some n
 |some (.int _ i)=>some i
 |_=>none
def jg(lo hi:Option AV)(n:Nat):Option (Nat×Nat):=
 match IH lo,Hf n hi with
 |some l,some h=>if 0<=l/\l<=h/\h<=n then some (l.toNat,h.toNat)else none
 |_,_=>none
def hO(kk:CK)(k:AV):List (AV×AV)->Option (Option AV)
 |[]=>some none
 |(a,v)::r=>
  match cY kk k a with
  |some true=>some (some v)
  |some false=>hO kk k r
  |none=>none
def mL(kk:CK)(k v:AV):List (AV×AV)->Option (List (AV×AV))
 |[]=>some [(k,v)]
 |(a,u)::r=>
  match cY kk k a with
  |some true=>some ((k,v)::r)
  |some false=>(mL kk k v r).map ((a,u)::·)
  |none=>none
def qh:AV->AV->Option AV
 |.int k a,.int k' b=>if k=k' then some (.int k (if b > a then b else a))else none
 |_,_=>none
def qe:AV->AV->Option AV
 |.int k a,.int k' b=>if k=k' then some (.int k (if b<a then b else a))else none
 |_,_=>none
def iH(f:AV->AV->Option AV):AV->List AV->Option AV
 |x,[]=>some x
 |x,y::r=>
  match f x y with
  |some z=>iH f z r
  |none=>none
def AK(lk:LK)(h:ah):AV->Option Nat
 |.str s=>if lk=.st then some s.length else none
 |.slice _ _ n _=>if lk=.sl then some n else none
 |.af=>if lk=.sl then some 0 else none
 |.map r=>
  match h[r]? with
  |some (.aR es)=>if lk=.mp then some es.length else none
  |_=>none
 |.dh=>if lk=.mp then some 0 else none
 |_=>none
def dx(k:pv)(ρ:cZ->AV)(h:ah):Option (AV×ah):=
 match k with
 |.cg x=>some (ρ x,h)
 |.pick c a b=>
  match ρ c with
  |.bool t=>some (if t then ρ a else ρ b,h)
  |_=>none
 |.box x=>if(ρ x).cells.all AV.one then some (.ptr h.length 0,h++[.cells (ρ x).cells true false])else none
 |.oX n x=>if(ρ x).cells.all AV.one=true/\(ρ x).cells.length=n then some (.ptr h.length 0,h++[.cells (ρ x).cells true false])else none
 |.build z ps=>
  match eT z (ps.map λp=>(p.1,p.2.1,ρ p.2.2))with
  |some c=>some (.agg c,h)
  |none=>none
 |.load n a=>
  match ρ a with
  |.ptr b o=>
   match h[b]? with
   |some (.cells c _ _)=>
    match n with
    |none=>
     match c[o]? with
     |some x=>some (x,h)
     |none=>none
    |some n=>if o+n<=c.length then some (.agg ((c.drop o).take n),h)else none
   |_=>none
  |_=>none
 |.store n a x=>
  match ρ a with
  |.ptr b o=>
   match h[b]? with
   |some (.cells c true tl)=>
    if(ρ x).cells.length=n/\(ρ x).cells.all AV.one=true/\o+n<=c.length then some (az,h.set b (.cells (fU c o (ρ x).cells) true tl))else none
   |_=>none
  |_=>none
 |.bQ x=>
  match ρ x with
  |.ptr b o=>some (.ptr b o,h)
  |.func (.func f) a c=>some (.func (.func f) a c,h)
  |.func (.yield f) a c=>some (.func (.yield f) a c,h)
  |.func (.methodOf t n) a c=>some (.func (.methodOf t n) a c,h)
  |.func (.via t p f q) a c=>some (.func (.via t p f q) a c,h)
  |_=>none
 |.bin op x y=>
  match eF op (ρ x) (ρ y)with
  |some v=>some (v,h)
  |none=>none
 |.eqv neg t x y=>
  match oQ t (ρ x) (ρ y)with
  |some b=>some (.bool (if neg then !b else b),h)
  |none=>none
 |.un op x=>
  match xL op (ρ x)with
  |some v=>some (v,h)
  |none=>none
 |.conv k x=>ku k (ρ x) h
 |.uk f a c=>some (.func f (a.map ρ) (c.map ρ),h)
 |.lu=>some (.map h.length,h++[.aR []])
 |.vY es w z l c=>
  match ρ l,ρ c with
  |.int _ l,.int _ c=>
   if 0<=l/\l<=c/\(w:Int)*c<=2^48/\c<2^63 then some (.slice h.length 0 l.toNat es,h++[.cells (dO l.toNat z) true true])else none
  |_,_=>none
 |.sl es x lo hi=>
  match ρ x with
  |.slice b o n es'=>
   if es' =es then
    match jg (lo.map ρ) (hi.map ρ) n with
    |some (l,h')=>some (.slice b (o+l*es) (h'-l) es,h)
    |none=>none
   else none
  |.af=>
   match jg (lo.map ρ) (hi.map ρ) 0 with
   |some _=>some (.af,h)
   |none=>none
  |_=>none
 |.J5 x lo hi=>
  match ρ x with
  |.str s=>
   match jg (lo.map ρ) (hi.map ρ) s.length with
   |some (l,h')=>some (.str ((s.drop l).take (h'-l)),h)
   |none=>none
  |_=>none
 |.NP k es x lo hi=>
  match ρ x with
  |.ptr b o=>
   match h[b]? with
   |some (.cells c _ _)=>
    if o+k*es<=c.length then
     match jg (lo.map ρ) (hi.map ρ) k with
     |some (l,h')=>some (.slice b (o+l*es) (h'-l) es,h)
     |none=>none
    else none
   |_=>none
  |_=>none
 |.bu off x=>
  match ρ x with
  |.ptr b o=>some (.ptr b (o+off),h)
  |_=>none
 |.bG es x i=>
  match ρ x,ρ i with
  |.slice b o n es',.int _ i=>if es' =es/\0<=i/\i<n then some (.ptr b (o+i.toNat*es),h)else none
  |_,_=>none
 |.sN len es x i=>
  match ρ x,ρ i with
  |.ptr b o,.int _ i=>if 0<=i/\i<len then some (.ptr b (o+i.toNat*es),h)else none
  |_,_=>none
 |.part n off x=>
  match ρ x with
  |.agg cs=>
   match n with
   |none=>
    match cs[off]? with
    |some v=>some (v,h)
    |none=>none
   |some n=>some (.agg ((cs.drop off).take n),h)
  |_=>none
 |.J7 len es n x i=>
  match ρ x,ρ i with
  |.agg cs,.int _ i=>
   if 0<=i/\i<len then
    match n with
    |none=>
     match cs[i.toNat*es]? with
     |some v=>some (v,h)
     |none=>none
    |some n=>some (.agg ((cs.drop (i.toNat*es)).take n),h)
   else none
  |_,_=>none
 |.Ea x i=>
  match ρ x,ρ i with
  |.str s,.int _ i=>
   if 0<=i then
    match s[i.toNat]? with
    |some b=>some (.int .u8 b.toNat,h)
    |none=>none
   else none
  |_,_=>none
 |.look kk z ok m k=>
  match ρ m with
  |.dh=>some (if ok then .dL [z,.bool false]else z,h)
  |.map r=>
   match h[r]? with
   |some (.aR es)=>
    match hO kk (ρ k) es with
    |some (some v)=>some (if ok then .dL [v,.bool true]else v,h)
    |some none=>some (if ok then .dL [z,.bool false]else z,h)
    |none=>none
   |_=>none
  |_=>none
 |.fj kk m k x=>
  match ρ m with
  |.map r=>
   match h[r]? with
   |some (.aR es)=>
    match mL kk (ρ k) (ρ x) es with
    |some es'=>some (az,h.set r (.aR es'))
    |none=>none
   |_=>none
  |_=>none
 |.Cj x=>
  match ρ x with
  |.str s=>some (.ptr h.length 0,h++[.iter s 0])
  |_=>none
 |.rE x=>
  match ρ x with
  |.ptr b 0=>
   match h[b]? with
   |some (.iter s pos)=>
    if pos<s.length then
     let d:=Utf8.decode ⟨⟨s⟩⟩ pos
     some (.dL [.bool true,.int .i64 pos,.int .i32 d.1],h.set b (.iter s (pos+d.2)))
    else some (.dL [.bool false],h)
   |_=>none
  |_=>none
 |.ext x i=>
  match ρ x with
  |.dL l=>
   match l[i]? with
   |some v=>some (v,h)
   |none=>none
  |_=>none
 |.len lk x=>
  match AK lk h (ρ x)with
  |some n=>some (.int .i64 n,h)
  |none=>none
 |.AJ n=>some (.int .i64 n,h)
 |.zL es x y=>
  match ρ x,cellsIn es h (ρ y)with
  |.slice b o n es',some (ys,k)=>
   if es' =es then
    if min k n=0 then some (.int .i64 0,h)
    else
     match h[b]? with
     |some (.cells c true tl)=>if o+min k n*es<=c.length then some (.int .i64 (min k n:Nat),h.set b (.cells (fU c o (ys.take (min k n*es))) true tl))else none
     |_=>none
   else none
  |.af,some _=>some (.int .i64 0,h)
  |_,_=>none
 |.mx x l=>
  match iH qh (ρ x) (l.map ρ)with
  |some v=>some (v,h)
  |none=>none
 |.mn x l=>
  match iH qe (ρ x) (l.map ρ)with
  |some v=>some (v,h)
  |none=>none
 |_=>none
inductive xE (es w:Nat) (s y:AV) (h:ah):AV->ah->Prop
 |none (hy:cellsIn es h y=some ([],0)) (hs:s=.af\/∃b o n,s=.slice b o n es):xE es w s y h s h
 |new (ys:List AV) (k:Nat) (mu:Bool) (hy:cellsIn es h y=some (ys,k)) (hk:0<k) (hb:k*w<=2^46) (hs:s=.af):
   xE es w s y h (.slice h.length 0 k es) (h++[.cells ys mu true])
 |on (ys:List AV) (k b o n:Nat) (c:List AV) (mu:Bool) (hy:cellsIn es h y=some (ys,k)) (hk:0<k) (hb:(n+k)*w<=2^46) (hs:s=.slice b o n es)
   (hc:h[b]? =some (.cells c mu true)) (hl:o+n*es=c.length):
   xE es w s y h (.slice h.length 0 (n+k) es) (h.set b (.cells c false false)++[.cells (c.drop o++ys) false true])
 |over (ys:List AV) (k b o n:Nat) (c:List AV) (mu:Bool) (hy:cellsIn es h y=some (ys,k)) (hk:0<k) (hb:(n+k)*w<=2^46) (hs:s=.slice b o n es)
   (hc:h[b]? =some (.cells c true true)) (hl:o+n*es<=c.length):
   xE es w s y h (.slice h.length 0 (n+k) es) (h.set b .dead++[.cells ((c.drop o).take (n*es)++ys) mu true])
 |full (ys:List AV) (k b o n:Nat) (c:List AV) (hy:cellsIn es h y=some (ys,k)) (hk:0<k) (hb:(n+k)*w<=2^46) (hs:s=.slice b o n es)
   (hc:h[b]? =some (.cells c true false)) (hl:o+n*es=c.length):
   xE es w s y h (.slice h.length 0 (n+k) es) (h++[.cells (c.drop o++ys) true true])
def wrap64{n}(h0:-9223372036854775808<=n)(h1:n<9223372036854775808):IntKind.i64.wrap n=n:=by
 show(if(true&&decide (n%(18446744073709551616:Int)>=(9223372036854775808:Int)))=true then n%(18446744073709551616:Int)-18446744073709551616 else n%(18446744073709551616:Int))=n;simp only[aa4,aah];split<;>omega
def HS{n}(h0:0<=n)(h1:n<256):IntKind.u8.wrap n=n:=by
 show(if(false&&decide (n%(256:Int)>=(128:Int)))=true then n%(256:Int)-256 else n%(256:Int))=n;exact Kl
def yN{n}(h0:0<=n)(h1:n<18446744073709551616):IntKind.u64.wrap n=n:=by
 show(if(false&&decide (n%(18446744073709551616:Int)>=(9223372036854775808:Int)))=true then n%(18446744073709551616:Int)-18446744073709551616 else n%(18446744073709551616:Int))=n;exact Kl
def e9(P:Program)(m:bY)(h:ah)(w:World)(v:AV)(h':ah)(r:Result Next):Prop:=
 ∃cv w' m',(r=.ok (.value cv) w'\/(r=.ok .skip w'/\cv=undef))/\VR m' v cv/\HR P m' h' w'/\Grow m h w m' h' w'
def e9.same{P m h w v cv r}(hr:HR P m h w)(hv:VR m v cv)(e:r=.ok (.value cv) w):e9 P m h w v h r:=
 ⟨cv,w,m,.inl e,hv,hr,Grow.refl m h w hr.cN⟩
def j5(m:bY):VR m az undef:=⟨[],rfl,rfl⟩
theorem v7(m:bY)(n:Nat)(ih:∀v a,mN n v=some a->VR m a v):∀(l:List Value) (r:List AV),l.mapM (mN n)=some r->cK m r l
 |[],r,h=>by simp at h;subst h;exact bB.2 rfl
 |v::l,r,h=>by
  simp only[ab2,abL,ab9]at h;cases hv:mN n v with
  |none=>simp[hv]at h
  |some a=>
   cases hl:l.mapM (mN n)with
   |none=>simp[hv,hl]at h
   |some r'=>
    simp[hv,hl]at h;subst h;exact aQ.2 ⟨v,l,rfl,ih v a hv,v7 m n ih l r' hl⟩
def qT(m:bY):∀(n:Nat) (v:Value) (a:AV),mN n v=some a->VR m a v
 | 0,v,a,h=>by simp[mN]at h
 |n+1,v,a,h=>by
  unfold mN at h;split at h
  ·cases h;rfl
  ·cases h;rfl
  ·cases h;exact⟨_,rfl,.inl rfl⟩
  ·cases h;exact⟨_,_,rfl,.inl rfl,.inl rfl⟩
  ·cases h;rfl
  ·cases h;rfl
  ·cases h;rfl
  ·cases h;rfl
  ·cases h;rfl
  ·exact z80
  ·exact z80
  ·cases h
def bZ{P}{t:TypeId}{n}(h:dZ P t=some n)(w:World):(sizeOf t).run P w=.ok n w:=by
 unfold dZ at h;cases hi:P.info? t with
 |none=>simp[hi]at h
 |some i=>simp[hi]at h;subst h;simp[sizeOf,typeInfo,hi]
def ml{P}{t:TypeId}{d:TypeDesc}(h:P.underlying t=some d)(w:World):(isAgg t).run P w=.ok (jV d) w:=by
 cases d<;>simp[isAgg,ZZ h,jV]
def vW{P}{t:TypeId}{n}(h:BB P t=some (some n))(w:World):(isAgg t).run P w=.ok true w/\dZ P t=some n:=by
 unfold BB at h;split at h
 case h_2=>cases h
 rename_i d hu;split at h
 case isFalse=>simp at h
 rename_i hd;refine⟨by rw[ml hu,hd],?_⟩;cases hi:P.info? t with
 |none=>simp[hi]at h
 |some i=>simp[hi]at h;simp[dZ,hi,h]
def vX{P}{t:TypeId}(h:BB P t=some none)(w:World):(isAgg t).run P w=.ok false w:=by
 unfold BB at h;split at h
 case h_2=>cases h
 rename_i d hu;split at h
 case isTrue=>cases hi:P.info? t<;>simp[hi]at h
 rename_i hd;rw[ml hu];simp at hd;rw[hd]
def jZ{P}{t:TypeId}{z}(h:jG P t=some z)(w:World)(m:bY):∃cz,(zeroValue t).run P w=.ok cz w/\VR m z cz:=by
 unfold jG at h;cases hi:P.info? t with
 |none=>simp[hi]at h
 |some i=>
  cases hz:i.zero with
  |none=>simp[hi,hz]at h
  |some cz=>
   simp[hi,hz]at h;exact⟨cz,by simp[zeroValue,typeInfo,hi,hz],qT m 4 cz z h⟩
section
variable {P:Program}{m:bY}{h h':ah}{w:World}{v:AV}{ρ:cZ->AV}{hr:HR P m h w}
def tv(hr:HR P m h w){x cx}(hx:VR m x cx)(h1:x.cells.all AV.one=true)(t:TypeId)(mu tl:Bool):
  ∃m',(newVar t cx).run P w=.ok ⟨w.heap.size,0,none⟩ (w.alloc (.cells cx.cells t))/\VR m' (.ptr h.length 0) (.pointer (some ⟨w.heap.size,0,none⟩))/\
   HR P m' (h++[.cells x.cells mu tl]) (w.alloc (.cells cx.cells t))/\Grow m h w m' (h++[.cells x.cells mu tl]) (w.alloc (.cells cx.cells t)):=by
 obtain⟨m',h0,h2,h3⟩:=lX hr hx.cells h1 t mu tl;refine⟨m',by simp[newVar,newRow],⟨_,h0,rfl⟩,h2,h3⟩
def Cg{t:TypeId}{n a ca}(hn:BB P t=some n)(hr:HR P m h w)(ha:VR m (ρ a) ca)(hf:dx (.load n a) ρ h=some (v,h')):
  ∃cv,(Instr.loadAt t ca).run P w=.ok cv w/\VR m v cv/\h' =h:=by
 simp only[dx]at hf;split at hf
 case h_2=>cases hf
 rename_i b o hρ;rw[hρ]at ha;obtain⟨e,he,rfl⟩:=ha;split at hf
 case h_2=>cases hf
 rename_i c mu tl hb;cases n with
 |none=>
  simp only at hf;split at hf
  case h_2=>cases hf
  rename_i x hx;cases hf;obtain⟨_,cv,Uy,SA⟩:=cell_of hr he hb hx;exact⟨cv,by simp[Instr.loadAt,Instr.sureAddr,loadVar,vX hn,Uy],SA,rfl⟩
 |some n=>
  simp only at hf;split at hf
  case isFalse=>cases hf
  rename_i hle;cases hf;obtain⟨hagg,eG⟩:=vW hn w;obtain⟨vs,SB,Tu,_⟩:=nC hr he hb o n hle;exact⟨.agg ⟨vs⟩,by simp[Instr.loadAt,Instr.sureAddr,loadVar,hagg,bZ eG,SB],⟨vs,rfl,Tu⟩,rfl⟩
def Ey{t:TypeId}{n a x ca cx}(hn:dZ P t=some n)(hr:HR P m h w)(ha:VR m (ρ a) ca)(hx:VR m (ρ x) cx)(hf:dx (.store n a x) ρ h=some (v,h')):
  ∃w',(Instr.storeAt t ca cx).run P w=.ok () w'/\v=az/\HR P m h' w'/\Grow m h w m h' w':=by
 simp only[dx]at hf;split at hf
 case h_2=>cases hf
 rename_i b o hρ;rw[hρ]at ha;obtain⟨e,he,rfl⟩:=ha;split at hf
 case h_2=>cases hf
 rename_i c tl hb;split at hf
 case isFalse=>cases hf
 rename_i hc;cases hf;obtain⟨h1,h2,h3⟩:=hc;have hcl:=hx.cells;obtain⟨w',SB,hr',SV⟩:=pD (ρ x).cells cx.cells.toList hr he hb o 0 Om h2 hcl;have hlen:cx.cells.size=n:=by have:=hcl.length;simp at this;omega
 refine⟨w',?_,rfl,hr',SV⟩;simp only[Instr.storeAt,Instr.sureAddr,storeVar,Z0,aak,ZQ,bZ hn];simp[hlen,SB]
def vt(c:List Value)(o:Nat):List Value->List Value
 |[]=>c
 |x::xs=>vt (c.set o x) (o+1) xs
theorem th{m}:∀{xs}{vs},cK m xs vs->∀{c}{cv}(o:Nat),cK m c cv->cK m (fU c o xs) (vt cv o vs)
 |[],vs,hx,c,cv,o,hc=>by rw[bB]at hx;subst hx;exact hc
 |x::xs,vs,hx,c,cv,o,hc=>by
  obtain⟨v,vs',rfl,hv,Tu⟩:=aQ.1 hx;exact th Tu (o+1) (hc.set o hv)
theorem tI(off:Nat):∀(xs:List Value) (k:Nat) (cs:Array Value),(List.foldl (λcs (p:Value×Nat)=>cs.setIfInBounds (off+p.2) p.1) cs (xs.zipIdx k)).toList=vt cs.toList (off+k) xs
 |[],k,cs=>rfl
 |x::xs,k,cs=>by
  simp only[List.zipIdx_cons,abV,vt];rw[tI off xs (k+1)];simp[Nat.add_assoc]
theorem qP{m}(place:Nat->Option (Nat×Nat)):∀(ps:List (Nat×Value)) (qs:List (Nat×Nat×AV)) (c:List AV) (cc:Array Value) (c':List AV),
  ps.length=qs.length->(∀(i:Nat) p q,ps[i]? =some p->qs[i]? =some q->place p.1=some (q.1,q.2.1)/\VR m q.2.2 p.2)->cK m c cc.toList->eT c qs=some c'->
  ∃Tj,Instr.fill place cc ps=some Tj/\cK m c' Tj.toList
 |[],[],c,cc,c',_,_,hc,hf=>by simp[eT]at hf;subst hf;exact⟨cc,rfl,hc⟩
 |[],q::qs,c,cc,c',hl,_,_,_=>by simp at hl
 |p::ps,[],c,cc,c',hl,_,_,_=>by simp at hl
 |(i,x)::ps,(off,n,y)::qs,c,cc,c',hl,hp,hc,hf=>by
  obtain⟨U5,hxy⟩:=hp 0 (i,x) (off,n,y) Si Si;simp only at U5 hxy;simp only[eT]at hf;split at hf
  case isFalse=>cases hf
  rename_i SQ;obtain⟨hlen,hle⟩:=SQ;have hcells:=hxy.cells;have eG:x.cells.size=n:=by have:=hcells.length;simp at this;omega
  have UW:cc.size=c.length:=by have:=hc.length;simpa using this
  have hfold:(x.cells.zipIdx.foldl (λcs (p:Value×Nat)=>cs.setIfInBounds (off+p.2) p.1) cc).toList=vt cc.toList off x.cells.toList:=by
   rw[<-Array.foldl_toList];have:=tI off x.cells.toList 0 cc
   simpa using this
  obtain⟨Tj,h1,h2⟩:=qP place ps qs (fU c off y.cells) (x.cells.zipIdx.foldl (λcs (p:Value×Nat)=>cs.setIfInBounds (off+p.2) p.1) cc) c' (by simpa using hl)
   (λj p q hj hq=>hp (j+1) p q (by simpa using hj) (by simpa using hq)) (by rw[hfold];exact th hcells off hc) hf
  refine⟨Tj,?_,h2⟩;simp only[Instr.fill,U5];rw[ZN (by simp;omega)];exact h1
theorem qv{P}{t:TypeId}:∀{ps}{l},mG P t ps=some l->ps.length=l.length/\
  ∀(i:Nat) p q,ps[i]? =some p->l[i]? =some q->jK P t p.1=some (q.1,q.2.1)/\cV p.2=some q.2.2
 |[],l,h=>by simp[mG]at h;subst h;exact⟨rfl,λi p q hp=>by simp at hp⟩
 |(i,x)::ps,l,h=>by
  simp only[mG]at h;split at h
  case h_2=>cases h
  rename_i off n y r h1 h2 h3;cases h;obtain⟨hl,hp⟩:=qv h3;refine⟨by simp[hl],λj p q hj hq=>?_⟩;cases j with
  |zero=>simp at hj hq;subst hj;subst hq;exact⟨h1,h2⟩
  |succ j=>exact hp j p q (by simpa using hj) (by simpa using hq)
def Dx{t:TypeId}{z:AV}{ps:List (Nat×Value)}{cz:Value}{Tj:Array Value}(hz:(P.info? t).bind (·.zero)=some cz)(hp:n9 P t=true)(hf:Instr.fill (jK P t) cz.cells ps=some Tj):
  P.built t ps=some Tj:=by
 unfold Program.built;cases hi:P.info? t with
 |none=>simp[hi]at hz
 |some it=>
  simp[hi]at hz;unfold n9 at hp;split at hp
  ·rename_i fs hu;obtain⟨places,hpls⟩:=Option.isSome_iff_exists.1 hp;have U5:jK P t=λi=>places[i]? :=by
    funext i;simp only[jK,hu,hpls]
   rw[U5]at hf;simp only[hu,hz,hpls]
   simpa using hf
  ·rename_i n e hu;obtain⟨ie,hie⟩:=Option.isSome_iff_exists.1 hp;have U5:jK P t=λi=>some (i*ie.size,ie.size):=by
    funext i;simp only[jK,hu,hie];rfl
   rw[U5]at hf;simp only[hu,hz,hie];exact hf
  ·cases hp
def EB{t:TypeId}{z:AV}{ps:Array (Nat×Operand)}{l:List (Nat×Nat×cZ)}{σ:Operand->Value}(hz:jG P t=some z)(hl:mG P t ps.toList=some l)(hp:n9 P t=true)
  (hρ:∀p∈ps.toList,∀y,cV p.2=some y->VR m (ρ y) (σ p.2)) (hf:dx (.build z.cells l) ρ h=some (v,h')):
  ∃cv,(Instr.build t (ps.map λ(i,x)=>(i,σ x))).run P w=.ok cv w/\VR m v cv/\h' =h:=by
 simp only[dx]at hf;split at hf
 case h_2=>cases hf
 rename_i c hc;cases hf;obtain⟨hlen,hpq⟩:=qv hl;have YU:∃cz,(P.info? t).bind (·.zero)=some cz/\VR m z cz:=by
  unfold jG at hz;cases hi:P.info? t with
  |none=>simp[hi]at hz
  |some i=>
   cases hzz:i.zero with
   |none=>simp[hi,hzz]at hz
   |some cz=>simp[hi,hzz]at hz;exact⟨cz,by simp[hzz],qT m 4 cz z hz⟩
 obtain⟨cz,Vg,VM⟩:=YU;obtain⟨Tj,TO,Tu⟩:=qP (m:=m) (jK P t) (ps.toList.map λp=>(p.1,σ p.2)) (l.map λp=>(p.1,p.2.1,ρ p.2.2)) z.cells cz.cells c (by simp[hlen])
  (λi p q Yg hq=>by
   simp only[aa8,Z2]at Yg hq;obtain⟨p0,hp0,rfl⟩:=Yg;obtain⟨q0,hq0,rfl⟩:=hq;obtain⟨h1,h2⟩:=hpq i p0 q0 hp0 hq0;exact⟨h1,hρ p0 (aaz hp0) _ h2⟩) VM.cells hc
 refine⟨.agg Tj,run_build w t _ Tj ?_,⟨Tj.toList,rfl,Tu⟩,rfl⟩;have:=Dx (z:=z) Vg hp TO
 simpa using this
def Ce{t:TypeId}{n off l l'}(hn:BB P t=some n)(hl:cK m l l')
  (hf:(match n with|none=>(match l[off]? with|some v=>some (v,h)|none=>none)|some n=>some (.agg ((l.drop off).take n),h))=some (v,h')):
  ∃cv,(part t ⟨l'⟩ off).run P w=.ok cv w/\VR m v cv/\h' =h:=by
 cases n with
 |none=>
  simp only at hf;split at hf
  case h_2=>cases hf
  rename_i x hx;cases hf;obtain⟨cv,Uy,SA⟩:=hl.get hx;exact⟨cv,by simp[part,vX hn,Uy],SA,rfl⟩
 |some n=>
  cases hf;obtain⟨h1,h2⟩:=vW hn w;refine⟨.agg ⟨(l'.drop off).take n⟩,?_,⟨_,rfl,(hl.drop off).take n⟩,rfl⟩;simp only[part,Z0,h1,ZQ,Z1,bZ h2,aak];simp[List.extract_eq_take_drop]
end
section
variable {P:Program}{m:bY}{h h':ah}{w:World}
def xW{op k a b v}(hs:eZ op=false)(hf:fX op k a b=some v)(t:TypeId):
  ∃cv,(binOp op t (.int k a) (.int k b)).run P w=.ok cv w/\VR m v cv:=by
 cases op<;>simp only[fX,eZ]at hf hs<;>first
  |(cases hs;done)
  |(cases hf;done)
  |skip
 all_goals first
  |(cases hf;exact⟨_,by simp[binOp,Op.intArith,Op.intBits,Op.intCmp],rfl⟩)
  |(split at hf
    ·cases hf
    ·rename_i hb;cases hf;exact⟨_,by simp[binOp,Op.intDiv,hb],rfl⟩)
def xU{op k k' a b v}(hs:eZ op=true)(hf:xR op k a b=some v)(t:TypeId):
  ∃cv,(binOp op t (.int k a) (.int k' b)).run P w=.ok cv w/\VR m v cv:=by
 unfold xR at hf;split at hf
 ·cases hf
 ·rename_i hb;cases op<;>first
   |(cases hs;done)
   |(cases hf;exact⟨_,by simp[binOp,Op.shift,hb],rfl⟩)
def toList_mk(l:By):(⟨⟨l⟩⟩:ByteArray).toList=l:=by rw[ByteArray.toList_eq]
def Bi(a b:By):(⟨⟨a⟩⟩:ByteArray)++⟨⟨b⟩⟩=⟨⟨a++b⟩⟩:=by
 apply ByteArray.ext
 rw[ByteArray.data_append];simp
def xS{op a b v}(hf:ri op a b=some v)(t:TypeId):
  ∃cv,(binOp op t (.string ⟨⟨a⟩⟩) (.string ⟨⟨b⟩⟩)).run P w=.ok cv w/\VR m v cv:=by
 cases op<;>simp only[ri]at hf<;>first
  |(cases hf;done)
  |skip
 all_goals first
  |(cases hf;exact⟨_,by simp[binOp,Op.stringOp,toList_mk],rfl⟩)
  |(split at hf
    ·rename_i hlen;cases hf;refine⟨.string ⟨⟨a++b⟩⟩,?_,rfl⟩;have hn:¬(IntKind.i64.max<(((⟨⟨a⟩⟩:ByteArray).size+(⟨⟨b⟩⟩:ByteArray).size:Nat):Int)):=by
      show ¬((9223372036854775807:Int)<((a.length+b.length:Nat):Int));omega
     simp only[binOp,Op.stringOp,GT.gt,ZN hn,Bi,aak]
    ·cases hf)
def EC{op x v cx}(hx:VR m x cx)(hf:xL op x=some v):∃cv,(Op.unary op cx).run P w=.ok cv w/\VR m v cv:=by
 cases x with
 |int k n=>
  rw[VR]at hx;subst hx;cases op with
  |neg=>simp only[xL,aaa]at hf;subst hf;exact⟨_,rfl,rfl⟩
  |xor=>simp only[xL,fX,aaa]at hf;subst hf;exact⟨_,rfl,rfl⟩
  |not=>simp[xL]at hf
  |plus=>simp[xL]at hf
 |bool b=>
  rw[VR]at hx;subst hx;cases op<;>simp only[xL]at hf<;>first
   |(cases hf;done)
   |(cases hf;exact⟨_,by simp[Op.unary],rfl⟩)
 |_=>cases op<;>simp[xL]at hf
def rq{t:TypeId}{k}(ht:match k with|.b=>P.underlying t=some .bool|.i=>∃k,P.underlying t=some (.int k)|.s=>P.underlying t=some .string)
  {x y}{cx cy}{b}(hx:VR m x cx) (hy:VR m y cy) (hf:cY k x y=some b) (d:Nat):(Op.equalIn (d+1) t cx cy).run P w=.ok b w:=by
 unfold cY at hf;split at hf
 ·rw[VR]at hx hy;subst hx;subst hy;cases hf;exact run_equalIn_bool' w d t _ _ ht
 ·split at hf
  ·rename_i hk;rw[VR]at hx hy;subst hx;subst hy;subst hk;cases hf;obtain⟨k',hu⟩:=ht;exact run_equalIn_int w d t _ k' _ _ hu
  ·cases hf
 ·rw[VR]at hx hy;subst hx;subst hy;cases hf;rw[run_equalIn_string w d t _ _ ht,toList_mk,toList_mk]
 ·cases hf
theorem jy:∀(ks ks':List CK) (xs ys xs' ys':List AV) (b:Bool),xs.length=ks.length->ys.length=ks.length->dF (ks++ks') (xs++xs') (ys++ys')=some b->
  (∃c,dF ks xs ys=some c/\((c=true/\dF ks' xs' ys' =some b)\/(c=false/\b=false)))
 |[],ks',[],[],xs',ys',b,_,_,h=>⟨true,rfl,.inl ⟨rfl,h⟩⟩
 |k::ks,ks',x::xs,y::ys,xs',ys',b,hx,hy,h=>by
  simp only[aaS,dF]at h ⊢;cases hc:cY k x y with
  |none=>simp[hc]at h
  |some c=>
   cases c with
   |false=>simp[hc]at h;subst h;exact⟨false,Si,.inr ⟨rfl,rfl⟩⟩
   |true=>
    simp only[hc]at h;obtain⟨c,h1,h2⟩:=jy ks ks' xs ys xs' ys' b (by simpa using hx) (by simpa using hy) h;exact⟨c,by simpa using h1,h2⟩
 |[],_,_::_,_,_,_,_,h,_,_=>by simp at h
 |[],_,_,_::_,_,_,_,_,h,_=>by simp at h
 |_::_,_,[],_,_,_,_,h,_,_=>by simp at h
 |_::_,_,_,[],_,_,_,_,h,_=>by simp at h
def iZ(d:TypeDesc)(l:List Value):Value:=if jV d then .agg ⟨l⟩else l.headD default
def n6{t:TypeId}{d:TypeDesc}{n}(hd:P.underlying t=some d)(hn:dZ P t=some n)(h1:jV d=false->n=1){l off}(hl:off+n<=l.length):
  (part t ⟨l⟩ off).run P w=.ok (iZ d ((l.drop off).take n)) w:=by
 unfold iZ;cases ha:jV d with
 |true=>
  simp only[part,Z0,ml hd,ha,ZQ,Z1,bZ hn,aak];simp[List.extract_eq_take_drop]
 |false=>
  have:=h1 ha;subst this;have hlt:off<l.length:=Om
  simp only[part,Z0,ml hd,ha,ZQ];have e:(l.drop off).take 1=[l[off]]:=by
   rw[abD hlt,abu,List.take_zero]
  simp[e,hlt]
def tJ{d}{t:TypeId}{ks}(hf:flat P d t=some ks):∃ds,P.underlying t=some ds/\(jV ds=false->ks.length=1):=by
 cases d with
 |zero=>simp[flat]at hf
 |succ d=>
  unfold flat at hf;split at hf
  ·exact z130
  ·exact z130
  ·exact z130
  ·rename_i hu;exact⟨_,hu,λh=>by cases h⟩
  ·rename_i hu;exact⟨_,hu,λh=>by cases h⟩
  ·cases hf
def qq{t:TypeId}{fs}(hu:P.underlying t=some (.struct fs)):P.fieldsOf t=fs:=by simp[Program.fieldsOf,hu]
def Ci:∀(d:Nat) (t:TypeId) (ks:List CK),flat P d t=some ks->∀(D:Nat),d<=D->∀(ds:TypeDesc),P.underlying t=some ds->
  ∀(xs ys:List AV) (vx vy:List Value) (b:Bool),xs.length=ks.length->ys.length=ks.length->cK m xs vx->cK m ys vy->dF ks xs ys=some b->
  ∀w:World,(Op.equalIn D t (iZ ds vx) (iZ ds vy)).run P w=.ok b w:=by
 intro d
 induction d with
 |zero=>intro t ks hf;simp[flat]at hf
 |succ d ih=>
  intro t ks hf D hD ds VU xs ys vx vy b Vr Vq hx hy he w;obtain⟨D,rfl⟩:∃D',D=D'+1:=⟨D-1,Om⟩;have hone:∀{k:CK},ks=[k]->jV ds=false->(match k with|.b=>P.underlying t=some .bool|.i=>∃k,P.underlying t=some (.int k)|.s=>P.underlying t=some .string)->(Op.equalIn (D+1) t (iZ ds vx) (iZ ds vy)).run P w=.ok b w:=by
   intro k hk hd ht;subst hk
   match xs,ys,Vr,Vq with
   |[x],[y],_,_=>
    obtain⟨cx,_,rfl,XQ,h2⟩:=aQ.1 hx;obtain⟨cy,_,rfl,hcy,h3⟩:=aQ.1 hy;rw[bB]at h2 h3;subst h2;subst h3;simp only[dF]at he;have TA:cY k x y=some b:=by
     cases hc:cY k x y with
     |none=>simp[hc]at he
     |some c=>cases c<;>simp[hc]at he<;>simp[he]
    simp only[iZ,hd,List.headD_cons,aav,ZY];exact rq ht XQ hcy TA D
  unfold flat at hf;split at hf
  ·exact KA
  ·rename_i hu;rw[hu]at VU;cases VU;cases hf;exact hone rfl rfl ⟨_,hu⟩
  ·exact KA
  ·rename_i fs hu;rw[hu]at VU;cases VU;split at hf
   case isFalse=>cases hf
   rename_i bS;simp only[iZ,jV,Z1];rw[run_equalIn_struct w D t ⟨vx⟩ ⟨vy⟩ (by rw[qq hu];exact hu) bS,qq hu];have key:∀(fl:List Field) (off:Nat) (ks:List CK) (xs ys:List AV) (b:Bool),wP P (flat P d) fl off=some ks->xs.length=ks.length->ys.length=ks.length->
     cK m xs (vx.drop off)->cK m ys (vy.drop off)->dF ks xs ys=some b->(Op.eqFields D ⟨vx⟩ ⟨vy⟩ fl).run P w=.ok b w:=by
    intro fl
    induction fl with
    |nil=>
     intro off ks xs ys b S4 Vr Vq hx hy he;simp only[wP,aaa]at S4;subst S4
     match xs,ys,Vr,Vq with
     |[],[],_,_=>cases he;rfl
    |cons f fl ihf=>
     intro off ks xs ys b S4 Vr Vq hx hy he;simp only[wP]at S4;split at S4
     case h_2=>cases S4
     rename_i k1 i hk1 hi;split at S4
     case isFalse=>cases S4
     rename_i SQ;obtain⟨hname,hoff,eG,hpos⟩:=SQ;split at S4
     case h_2=>cases S4
     rename_i k2 Sz;cases S4;subst hoff;obtain⟨ds',Ve,h1'⟩:=tJ hk1;have Tg:dZ P f.type=some k1.length:=by simp[dZ,hi,eG]
     have Zf:xs=xs.take k1.length++xs.drop k1.length:=(aa5 _ _).symm;have Ze:ys=ys.take k1.length++ys.drop k1.length:=(aa5 _ _).symm;simp only[ZB]at Vr Vq;rw[Zf,Ze]at he;obtain⟨c,hc1,Zv⟩:=jy k1 k2 _ _ _ _ b (by simp;omega) (by simp;omega) he;have Vx:f.offset+k1.length<=vx.length:=by have:=hx.length;simp at this;omega
     have hvy:f.offset+k1.length<=vy.length:=by have:=hy.length;simp at this;omega
     simp only[Op.eqFields,ZS hname,Z0,n6 Ve Tg (λh=>h1' h) Vx,n6 Ve Tg (λh=>h1' h) hvy,ZQ];rw[ih f.type k1 hk1 D Om ds' Ve _ _ _ _ c (by simp;omega) (by simp;omega) (hx.take k1.length) (hy.take k1.length) hc1 w];rcases Zv with⟨rfl,hr⟩|⟨rfl,rfl⟩
     ·simp only[ZQ,Z7,aav,ZY];exact ihf (f.offset+k1.length) k2 _ _ b Sz (by simp;omega) (by simp;omega) (by have:=hx.drop k1.length;rwa [abb]at this) (by have:=hy.drop k1.length;rwa [abb]at this) hr
     ·simp
   exact key fs.toList 0 ks xs ys b hf Vr Vq (by simpa using hx) (by simpa using hy) he
  ·rename_i len e hu;rw[hu]at VU;cases VU;split at hf
   case h_2=>cases hf
   rename_i k1 i hk1 hi;split at hf
   case isFalse=>cases hf
   rename_i SQ;obtain⟨eG,hpos⟩:=SQ;cases hf;obtain⟨ds',Ve,h1'⟩:=tJ hk1;have Tg:dZ P e=some k1.length:=by simp[dZ,hi,eG]
   simp only[iZ,jV,Z1];have key:∀(n j:Nat) (xs ys:List AV) (b:Bool),j+n=len->xs.length=(List.replicate n k1).flatten.length->ys.length=(List.replicate n k1).flatten.length->
     cK m xs (vx.drop (j*k1.length))->cK m ys (vy.drop (j*k1.length))->dF (List.replicate n k1).flatten xs ys=some b->
     (forIn (m:=Sem) (List.range' j n) ((none,()):Option Bool×Unit) λ(i:Nat) (_:Option Bool×Unit)=>do
      let a <-part e ⟨vx⟩ (i*k1.length)
      let c <-part e ⟨vy⟩ (i*k1.length)
      let r <-Op.equalIn D e a c
      if(!r)=true then pure (ForInStep.done (some false,()))else pure (ForInStep.yield (none,()))).run P w=.ok (if b then(none,())else(some false,())) w:=by
    intro n
    induction n with
    |zero=>
     intro j xs ys b _ Vr Vq _ _ he;simp only[ab3,List.flatten_nil,ZJ]at Vr Vq he
     match xs,ys,Vr,Vq with
     |[],[],_,_=>cases he;rfl
    |succ n ihn=>
     intro j xs ys b hj Vr Vq hx hy he;simp only[abe,aaR,ZB]at Vr Vq he;have Zf:xs=xs.take k1.length++xs.drop k1.length:=(aa5 _ _).symm;have Ze:ys=ys.take k1.length++ys.drop k1.length:=(aa5 _ _).symm;rw[Zf,Ze]at he;obtain⟨c,hc1,Zv⟩:=jy k1 _ _ _ _ _ b (by simp;omega) (by simp;omega) he;have Vx:j*k1.length+k1.length<=vx.length:=by have:=hx.length;simp at this;omega
     have hvy:j*k1.length+k1.length<=vy.length:=by have:=hy.length;simp at this;omega
     simp only[List.range'_succ,List.forIn_cons,Z0,n6 Ve Tg (λh=>h1' h) Vx,n6 Ve Tg (λh=>h1' h) hvy,ZQ];rw[ih e k1 hk1 D Om ds' Ve _ _ _ _ c (by simp;omega) (by simp;omega) (hx.take k1.length) (hy.take k1.length) hc1 w];rcases Zv with⟨rfl,hr⟩|⟨rfl,rfl⟩
     ·simp only[ZQ,Z7,aav,ZY,aak];exact ihn (j+1) _ _ b Om (by rw[abz];omega) (by rw[abz];omega) (by have:=hx.drop k1.length;rw[abb]at this;rwa [aaW]) (by have:=hy.drop k1.length;rw[abb]at this;rwa [aaW]) hr
     ·simp
   have hk:=key len 0 xs ys b Om Vr Vq (by simpa using hx) (by simpa using hy) he;simp only[Op.equalIn,Z0,ZZ hu,ZQ,bZ Tg,Std.Legacy.Range.forIn_eq_forIn_range',Std.Legacy.Range.size];simp only[Nat.sub_zero,Nat.add_one_sub_one,Nat.div_one];rw[hk];cases b<;>rfl
  ·cases hf
end
def pt(m:bY)(ρ:cZ->AV):Option cZ->Option Value->Prop
 |none,none=>True
 |some x,some cx=>VR m (ρ x) cx
 |_,_=>False
section
variable {P:Program}{m:bY}{h h':ah}{w:World}{ρ:cZ->AV}{v:AV}
def fA{t e:TypeId}{i:TypeInfo}(hs:ed P t=some (e,i)):P.underlying t=some (.slice e)/\P.info? e=some i:=by
 unfold ed at hs;split at hs
 ·rename_i e' hu;cases hi:P.info? e' with
  |none=>simp[hi]at hs
  |some i'=>simp[hi]at hs;obtain⟨rfl,rfl⟩:=hs;exact⟨hu,hi⟩
 ·cases hs
def jF(n:Nat)(z:List AV):(dO n z).length=n*z.length:=by simp[dO]
def sX{z:List AV}{cz:Array Value}(hz:cK m z cz.toList)(hpos:0<z.length)(n k:Nat)(hk:k<=n):
  cK m (dO k z) (((Array.range (n*cz.size)).map (cz[·% cz.size]!)).toList.take (k*z.length)):=by
 have eG:cz.size=z.length:=by have:=hz.length;simpa using this
 refine cK.iu ?_ ?_
 ·rw[jF];simp[eG,abr hk]
 ·intro i x hx;have hi:i<k*z.length:=by have:=(ZC.1 hx).1;rw[jF]at this;exact this
  have hmod:i%z.length<z.length:=Nat.mod_lt _ hpos;have SF:(dO k z)[i]? =z[i%z.length]? :=by
   clear hx hk;unfold dO
   induction k generalizing i with
   |zero=>omega
   |succ k ih=>
    rw[abe,aaR];by_cases hlt:i<z.length
    ·rw[ZF hlt,Nat.mod_eq_of_lt hlt]
    ·rw[ZP Om,ih (i-z.length) (by rw[aaW]at hi;omega) (Nat.mod_lt _ hpos)];congr 1;rw[<-Nat.mod_eq_sub_mod Om]
  rw[SF]at hx;obtain⟨y,hy,hr⟩:=hz.get hx;refine⟨y,?_,hr⟩;have hin:i<n*z.length:=aax hi (aaJ _ hk);rw[abG hi,aa6,Array.getElem?_map,Array.getElem?_range,eG,ZS hin];simp only[abv,aaa];rw[getElem!_pos cz _ Om];have:=(ZC.1 hy).2
  simpa using this
def BF{z}(hz:z.all AV.one=true)(n:Nat):(dO n z).all AV.one=true:=by
 rw[aae]at hz ⊢;intro x hx;simp only[dO,List.mem_flatten,List.mem_replicate]at hx;obtain⟨l,⟨_,rfl⟩,hx⟩:=hx;exact hz x hx
def Ia{t e:TypeId}{i:TypeInfo}{z:AV}{l c:cZ}{cl cc:Value}(hs:ed P t=some (e,i))(hz:jG P e=some z)(hpos:0<i.size)(hzl:z.cells.length=i.size)(h1:z.cells.all AV.one=true)
  (hr:HR P m h w) (hl:VR m (ρ l) cl) (hc:VR m (ρ c) cc) (hf:dx (.vY i.size i.bytes z.cells l c) ρ h=some (v,h')):
  ∃cv w' m',(Instr.makeSlice t cl cc).run P w=.ok cv w'/\VR m' v cv/\HR P m' h' w'/\Grow m h w m' h' w':=by
 obtain⟨hu,hi⟩:=fA hs;simp only[dx]at hf;split at hf
 case h_2=>cases hf
 rename_i kl l' kc c' hρl hρc;rw[hρl,VR]at hl;rw[hρc,VR]at hc;subst hl;subst hc;split at hf
 case isFalse=>cases hf
 rename_i SQ;obtain⟨h0,hlc,hb,hc63⟩:=SQ;cases hf;obtain⟨cz,Vg,VM⟩:=jZ hz w m;have hzc:=VM.cells;obtain⟨n,rfl⟩:=Int.eq_ofNat_of_zero_le (Int.le_trans h0 hlc);obtain⟨k,rfl⟩:=Int.eq_ofNat_of_zero_le h0;have hkn:k<=n:=Om
 have hwl:IntKind.i64.wrap (k:Int)=k:=wrap64 Om Om;have hwc:IntKind.i64.wrap (n:Int)=n:=wrap64 Om Om;have eG:cz.cells.size=z.cells.length:=by have:=hzc.length;simpa using this
 let row:Array Value:=(Array.range (n*cz.cells.size)).map (cz.cells[·% cz.cells.size]!)
 have hrow:cK m (dO k z.cells) (row.toList.take (k*z.cells.length)):=sX hzc Om n k hkn;have hrs:row.size=n*i.size:=by simp[row,eG,hzl]
 let e':sW:=⟨w.heap.size,0,row.size,true⟩
 have Yp:=kC hr (.cells row e) (.cells (dO k z.cells) true true) e' rfl rfl (λm' hm=>by
  refine⟨row,e,(0,0),World.alloc_heap_new w _,⟨?_,?_,rfl⟩,?_,λ_=>⟨rfl,λi _=>by simp⟩,λ_=>⟨rfl,λx=>by cases x⟩⟩
  ·exact z117
  ·exact z117
  ·intro j x hx;obtain⟨y,hy,SA⟩:=hrow.get hx;have hj:j<k*z.cells.length:=by have:=(ZC.1 hx).1;rw[jF]at this;exact this
   rw[abG hj]at hy;refine⟨aae.1 (BF h1 k) x (aaz hx),y,?_,VR.mono hm _ _ SA⟩;show row[0+j]? =some y;rw[aau,<-aa6];exact hy)
 refine⟨.slice (some ⟨w.heap.size,0,none⟩) k n,w.alloc (.cells row e),m.add h.length e',?_,⟨e',⟨w.heap.size,0,none⟩,n,by simp[bY.add],rfl,hkn,λ_=>rfl,?_⟩,Yp.1,Yp.2⟩
 ·have SO:(sizeOf e).run P w=.ok i.size w:=bZ (by simp[dZ,hi]) w;have UI:¬((i.bytes:Int)*n > 2^48):=Om
  have Wv:(typeInfo e).run P w=.ok i w:=by simp[typeInfo,hi]
  have Xj:¬((n:Int)<0):=Om
  have hk0:¬((k:Int)<0):=Om
  have hkn':¬((k:Int)> (n:Int)):=Om
  simp only[Instr.makeSlice,Z0,ZZ hu,ZQ,asInt,asIntOf,aak,Wv,hwl,hwc,Xj,hk0,hkn',UI];simp only[Z9,Bool.or_self,aav,ZY,run_askRoom,ZQ,SO,Int.toNat_natCast,Z0,Sem.run_ite,aak,Vg];by_cases YU:n*i.size=0
  ·simp only[YU,Z1,ZQ,newRow,run_newObj,Z0,aak];have:row=#[]:=by apply Array.eq_empty_of_size_eq_zero;omega
   have e0:(Array.range 0).map (λx=>(#[] :Array Value)[x%(#[] :Array Value).size]!)=#[]:=Si
   rw[this,e0];rfl
  ·simp only[YU,ZY,ZQ,newRow,run_newObj,Z0,aak];have:row=(Array.range (n*i.size)).map (cz.cells[·% cz.cells.size]!):=by show(Array.range (n*cz.cells.size)).map _=_;rw[eG,hzl]
   rw[this];rfl
 ·show 0+0+n*i.size<=row.size;omega
def mH{lo hi}{n l u:Nat}(hb:jg lo hi n=some (l,u)):l<=u/\u<=n/\IH lo=some (l:Int)/\Hf n hi=some (u:Int):=by
 unfold jg at hb;split at hb
 case h_2=>cases hb
 rename_i a b ha hb';split at hb
 case isFalse=>cases hb
 rename_i hc;obtain⟨h0,h1,h2⟩:=hc;simp only[aaa,abY]at hb;obtain⟨rfl,rfl⟩:=hb;exact⟨Om,Om,by rw[ha];congr 1;omega,by rw[hb'];congr 1;omega⟩
def gh{lo hi VH Vn}(hlo:pt m ρ lo VH)
  (hhi:pt m ρ hi Vn) {n l u}(hb:jg (lo.map ρ) (hi.map ρ) n=some (l,u)) (isSlice:Bool) (cap:Nat) (hcap:n<=cap):
  (Instr.sliceBounds isSlice n cap VH Vn none).run P w=.ok (l,u,cap) w:=by
 obtain⟨XI,hun,h1,h2⟩:=mH hb;have hh:∀(x:cZ) (cx:Value),VR m (ρ x) cx->Hf n (some (ρ x))=some (u:Int)->∃k,cx=.int k u:=by
  intro x cx hx hu;cases hρ:ρ x<;>simp[Hf,hρ]at hu;subst hu;rw[hρ,VR]at hx;exact⟨_,hx⟩
 have hl:∀(x:cZ) (cx:Value),VR m (ρ x) cx->IH (some (ρ x))=some (l:Int)->∃k,cx=.int k l:=by
  intro x cx hx hu;cases hρ:ρ x<;>simp[IH,hρ]at hu;subst hu;rw[hρ,VR]at hx;exact⟨_,hx⟩
 have hcu:(u:Int)<=cap:=Om
 have hlu':(l:Int)<=u:=Om
 have hbu:∀(k:IntKind) (code:BoundsCode) (w:World),(Instr.sliceBound (.int k u) cap code).run P w=.ok u w:=by
  intro k code w;simp[Instr.sliceBound,asIntOf,hcu]<;>omega
 have hbl:∀(k:IntKind) (code:BoundsCode) (w:World),(Instr.sliceBound (.int k l) u code).run P w=.ok l w:=by
  intro k code w;simp[Instr.sliceBound,asIntOf]<;>omega
 cases lo with
 |none=>
  cases VH with
  |some _=>exact hlo.elim
  |none=>
   simp only[abW,IH,aaa]at h1;cases hi with
   |none=>
    cases Vn with
    |some _=>exact hhi.elim
    |none=>
     simp only[abW,Hf,aaa]at h2;have hn:u=n:=Om
     have XL:l=0:=Om
     subst hn;subst XL;simp[Instr.sliceBounds]
   |some y=>
    cases Vn with
    |none=>exact hhi.elim
    |some cy=>
     obtain⟨k,rfl⟩:=hh y cy hhi h2;have XL:l=0:=Om
     subst XL;simp[Instr.sliceBounds,hbu]
 |some x=>
  cases VH with
  |none=>exact hlo.elim
  |some cx=>
   obtain⟨kx,rfl⟩:=hl x cx hlo h1;cases hi with
   |none=>
    cases Vn with
    |some _=>exact hhi.elim
    |none=>
     simp only[abW,Hf,aaa]at h2;have hn:u=n:=Om
     subst hn;simp[Instr.sliceBounds,hbl]
   |some y=>
    cases Vn with
    |none=>exact hhi.elim
    |some cy=>
     obtain⟨k,rfl⟩:=hh y cy hhi h2;simp[Instr.sliceBounds,hbu,hbl]
def extract_mk(s:By)(l u:Nat):(⟨⟨s⟩⟩:ByteArray).extract l u=⟨⟨(s.drop l).take (u-l)⟩⟩:=by
 apply ByteArray.ext
 simp[ByteArray.data_extract,List.extract_eq_take_drop]
def OC{t:TypeId}{es x lo hi cx VH Vn}{e:TypeId}(hu:P.underlying t=some (.slice e))(hes:dZ P e=some es)
  (hx:VR m (ρ x) cx) (hlo:pt m ρ lo VH)
  (hhi:pt m ρ hi Vn) (hf:dx (.sl es x lo hi) ρ h=some (v,h')):
  ∃cv,(Instr.sliceAt t cx VH Vn none).run P w=.ok cv w/\VR m v cv/\h' =h:=by
 simp only[dx]at hf;split at hf
 ·rename_i b o n es' hρ;rw[hρ]at hx;obtain⟨en,ca,cap,Th,rfl,SX,Ti,hroom⟩:=hx;split at hf
  case isFalse=>cases hf
  rename_i hees;subst hees;split at hf
  case h_2=>cases hf
  rename_i l u hb;cases hf;obtain⟨XI,hun,_,_⟩:=mH hb;refine⟨.slice (some (if cap=l then ca else ca.add (l*es'))) (u-l) (cap-l),?_,⟨en,_,cap-l,Th,rfl,Om,?_,?_⟩,rfl⟩
  ·simp only[Instr.sliceAt,Z0,ZZ hu,ZQ,Instr.slice,gh hlo hhi hb true cap SX,bZ hes,aak];by_cases hcl:cap=l<;>simp[hcl]
  ·intro hpos;rw[ZN Om,Ti Om,gQ];simp only[Addr.mk.injEq,acb,and_true];omega
  ·have:cap=l+(cap-l):=Om
   rw[this,abU]at hroom;omega
 ·rename_i hρ;rw[hρ,VR]at hx;subst hx;split at hf
  case h_2=>cases hf
  rename_i p hb;obtain⟨l,u⟩:=p;cases hf;obtain⟨XI,hun,_,_⟩:=mH hb;have XL:l=0:=Om
  have Vp:u=0:=Om
  subst XL;subst Vp;refine⟨.slice none 0 0,?_,rfl,rfl⟩;simp only[Instr.sliceAt,Z0,ZZ hu,ZQ,Instr.slice,gh hlo hhi hb true 0 (ZO _),bZ hes,aak];simp
 ·cases hf
def Lw{t:TypeId}{x lo hi cx VH Vn}(hu:P.underlying t=some .string)
  (hx:VR m (ρ x) cx) (hlo:pt m ρ lo VH)
  (hhi:pt m ρ hi Vn) (hf:dx (.J5 x lo hi) ρ h=some (v,h')):
  ∃cv,(Instr.sliceAt t cx VH Vn none).run P w=.ok cv w/\VR m v cv/\h' =h:=by
 simp only[dx]at hf;split at hf
 case h_2=>cases hf
 rename_i s hρ;rw[hρ,VR]at hx;subst hx;split at hf
 case h_2=>cases hf
 rename_i l u hb;cases hf;refine⟨.string ((⟨⟨s⟩⟩:ByteArray).extract l u),?_,by rw[extract_mk];rfl,rfl⟩;have hs:(⟨⟨s⟩⟩:ByteArray).size=s.length:=rfl;simp only[Instr.sliceAt,Z0,ZZ hu,ZQ,Instr.slice];simp[hs,gh hlo hhi hb false s.length (ZO _)]
def Lx{t:TypeId}{k es x lo hi cx VH Vn}{e:TypeId}(hu:P.underlying t=some (.array k e))(hes:dZ P e=some es)(hr:HR P m h w)
  (hx:VR m (ρ x) cx) (hlo:pt m ρ lo VH)
  (hhi:pt m ρ hi Vn) (hf:dx (.NP k es x lo hi) ρ h=some (v,h')):
  ∃cv,(Instr.sliceAt t cx VH Vn none).run P w=.ok cv w/\VR m v cv/\h' =h:=by
 simp only[dx]at hf;split at hf
 case h_2=>cases hf
 rename_i b o hρ;rw[hρ]at hx;obtain⟨en,Th,rfl⟩:=hx;split at hf
 case h_2=>cases hf
 rename_i c mu tl hbk;split at hf
 case isFalse=>cases hf
 rename_i hle;split at hf
 case h_2=>cases hf
 rename_i l u hb;cases hf;obtain⟨XI,hun,_,_⟩:=mH hb;obtain⟨_,_,_,_,⟨_,eG⟩,_⟩:=hr.dU b en _ Th hbk;refine⟨.slice (some (if k=l then⟨en.cb,o+en.d,none⟩else(⟨en.cb,o+en.d,none⟩:Addr).add (l*es))) (u-l) (k-l),?_,⟨en,_,k-l,Th,rfl,Om,?_,?_⟩,rfl⟩
 ·simp only[Instr.sliceAt,Z0,ZZ hu,ZQ,Instr.sureAddr,aak,gh hlo hhi hb false k (ZO _),bZ hes]
 ·intro hpos;rw[ZN Om,gQ];simp only[Addr.mk.injEq,acb,and_true];omega
 ·have:k=l+(k-l):=Om
  rw[this,abU]at hle;omega
def rp{a f n}(hn:dZ P f.type=some n)(hpos:0<n):(fieldPlace a f).run P w=.ok (a.add f.offset) w:=by
 have:n≠0:=Om
 simp[fieldPlace,bZ hn,this]
def Ig{t:TypeId}{i n f x cx}(hfa:fieldAt P t i=some f)(hn:dZ P f.type=some n)(hpos:0<n)(hx:VR m (ρ x) cx)(hf:dx (.bu f.offset x) ρ h=some (v,h')):
  ∃cv,(Instr.fieldAt t cx i).run P w=.ok cv w/\VR m v cv/\h' =h:=by
 unfold Abs.fieldAt at hfa;split at hfa
 case h_2=>cases hfa
 rename_i fs hu;simp only[dx]at hf;split at hf
 case h_2=>cases hf
 rename_i b o hρ;cases hf;rw[hρ]at hx;obtain⟨e,he,rfl⟩:=hx;refine⟨_,?_,⟨e,he,rfl⟩,rfl⟩;simp only[Instr.fieldAt,Z0,ZZ hu,ZQ,hfa,Instr.sureAddr,aak,rp hn hpos,gQ];rw[Nat.add_right_comm]
def Ic{t e:TypeId}{es x i cx ci}(hu:P.underlying t=some (.slice e))(hes:dZ P e=some es)(hx:VR m (ρ x) cx)(hi:VR m (ρ i) ci)(hf:dx (.bG es x i) ρ h=some (v,h')):
  ∃cv,(Instr.indexAt t cx ci).run P w=.ok cv w/\VR m v cv/\h' =h:=by
 simp only[dx]at hf;split at hf
 case h_2=>cases hf
 rename_i b o n es' k j Tt U0;rw[Tt]at hx;rw[U0,VR]at hi;subst hi;obtain⟨en,ca,cap,Th,rfl,SX,Ti,hroom⟩:=hx;split at hf
 case isFalse=>cases hf
 rename_i hc;obtain⟨rfl,h0,h1⟩:=hc;cases hf;refine⟨_,?_,⟨en,Th,rfl⟩,rfl⟩;simp only[Instr.indexAt,asIntOf,Z0,aak,ZQ,ZZ hu];rw[ZS ⟨h0,h1⟩];simp only[Z0,bZ hes,ZQ,aak,Ti Om,gQ];rw[Nat.add_right_comm]
def Ie{t e:TypeId}{len es x i cx ci}(hu:P.underlying t=some (.array len e))(hes:dZ P e=some es)(hx:VR m (ρ x) cx)(hi:VR m (ρ i) ci)(hf:dx (.sN len es x i) ρ h=some (v,h')):
  ∃cv,(Instr.indexAt t cx ci).run P w=.ok cv w/\VR m v cv/\h' =h:=by
 simp only[dx]at hf;split at hf
 case h_2=>cases hf
 rename_i b o k j Tt U0;rw[Tt]at hx;rw[U0,VR]at hi;subst hi;obtain⟨en,Th,rfl⟩:=hx;split at hf
 case isFalse=>cases hf
 rename_i hc;obtain⟨h0,h1⟩:=hc;cases hf;refine⟨_,?_,⟨en,Th,rfl⟩,rfl⟩;simp only[Instr.indexAt,asIntOf,Z0,aak,ZQ,ZZ hu,Instr.sureAddr];rw[ZS ⟨h0,h1⟩];simp only[Z0,bZ hes,ZQ,aak,gQ];rw[Nat.add_right_comm]
def Ez{t:TypeId}{i f n x cx}(hfa:fieldAt P t i=some f)(hn:BB P f.type=some n)(hx:VR m (ρ x) cx)(hf:dx (.part n f.offset x) ρ h=some (v,h')):
  ∃cv,(Instr.field t cx i).run P w=.ok cv w/\VR m v cv/\h' =h:=by
 unfold Abs.fieldAt at hfa;split at hfa
 case h_2=>cases hfa
 rename_i fs hu;simp only[dx]at hf;split at hf
 case h_2=>cases hf
 rename_i cs hρ;rw[hρ]at hx;obtain⟨l',rfl,hl⟩:=hx;obtain⟨cv,h1,h2,h3⟩:=Ce (w:=w) hn hl (by cases n<;>exact hf);exact⟨cv,by simp only[Instr.field,Z0,ZZ hu,ZQ,hfa,asAgg,aak,h1],h2,h3⟩
def Lz{t e:TypeId}{len es n x i cx ci}(hu:P.underlying t=some (.array len e))(hes:dZ P e=some es)(hn:BB P e=some n)(hx:VR m (ρ x) cx)(hi:VR m (ρ i) ci)
  (hf:dx (.J7 len es n x i) ρ h=some (v,h')):∃cv,(Instr.index t cx ci).run P w=.ok cv w/\VR m v cv/\h' =h:=by
 simp only[dx]at hf;split at hf
 case h_2=>cases hf
 rename_i cs k j Tt U0;rw[Tt]at hx;rw[U0,VR]at hi;subst hi;obtain⟨l',rfl,hl⟩:=hx;split at hf
 case isFalse=>cases hf
 rename_i hc;obtain⟨cv,h1,h2,h3⟩:=Ce (w:=w) (off:=j.toNat*es) hn hl (by cases n<;>exact hf);refine⟨cv,?_,h2,h3⟩;simp only[Instr.index,asIntOf,Z0,aak,ZQ,ZZ hu];rw[ZS hc];simp only[Z0,bZ hes,ZQ,h1]
def Ly{t:TypeId}{x i cx ci}(hu:P.underlying t=some .string)(hx:VR m (ρ x) cx)(hi:VR m (ρ i) ci)
  (hf:dx (.Ea x i) ρ h=some (v,h')):∃cv,(Instr.index t cx ci).run P w=.ok cv w/\VR m v cv/\h' =h:=by
 simp only[dx]at hf;split at hf
 case h_2=>cases hf
 rename_i s k j Tt U0;rw[Tt,VR]at hx;rw[U0,VR]at hi;subst hi;subst hx;split at hf
 case isFalse=>cases hf
 rename_i h0;split at hf
 case h_2=>cases hf
 rename_i b hb;cases hf;refine⟨.int .u8 b.toNat,?_,rfl,rfl⟩;have hb':(⟨⟨s⟩⟩:ByteArray)[j.toNat]? =some b:=by
  show(if h:j.toNat<s.length then some (s[j.toNat])else none)=some b;obtain⟨hlt,he⟩:=ZC.1 hb;rw[dif_pos hlt,he]
 simp only[Instr.index,asIntOf,Z0,aak,ZQ,ZZ hu,ZS h0,hb']
end
def ak.isObj:ak->Bool
 |.aR _=>true
 |.iter _ _=>true
 |.loop _ _ _ _ _ _=>true
 |_=>false
section
variable {P:Program}{m:bY}{h h':ah}{w:World}{ρ:cZ->AV}{v:AV}
def j9(hr:HR P m h w){b e k k' o}(he:m b=some e)(hb:h[b]? =some k)(hk:k.isObj=true)(hk':k'.isObj=true\/k' =.dead)
  (hnew:BR P m (w.putObj e.cb o) e k'):HR P m (h.set b k') (w.putObj e.cb o)/\Grow m h w m (h.set b k') (w.putObj e.cb o):=by
 have hbl:b<h.length:=hr.cN _ _ he;have Wq:k.live=true:=by cases k<;>first|rfl|cases hk
 have hown:e.own=true:=by
  have:=hr.dU b e k he hb;cases k<;>first|exact this.1|(cases hk;done)
 have hother:∀i,i≠e.cb->(w.putObj e.cb o).heap[i]? =w.heap[i]? :=λi hi=>World.putObj_heap_other hi
 have hsep:∀b' e' k2,b'≠b->m b' =some e'->h[b']? =some k2->k2.live=true->e'.cb≠e.cb:=by
  intro b' e' k2 hne TA Sz hl hcb;have:=hr.sep b' b e' e k2 k hne TA he Sz hb hcb;cases k<;>cases k2<;>first|exact this|(cases hk;done)|(cases hl;done)
 refine⟨⟨?_,?_,?_,hr.gu,λb' e' hb'=>by simpa using hr.lt b' e' hb'⟩,⟨λ_ _=>rfl,Si,?_,?_,Si,rfl,rfl,rfl,?_⟩⟩
 ·intro b' e' hb';simpa using hr.cN b' e' hb'
 ·intro b' e' k2 TA Sz;rw[bH h b b' _ hbl]at Sz;by_cases hbb:b' =b
  ·subst hbb;rw[ZS rfl]at Sz;cases Sz;rw[he]at TA;cases TA;exact hnew
  ·rw[ZN hbb]at Sz;have h0:=hr.dU b' e' k2 TA Sz;by_cases hl:k2.live=true
   ·exact h0.heap (hother _ (hsep b' e' k2 hbb TA Sz hl))
   ·exact HN
 ·intro b1 b2 e1 e2 k1 k2 hne TW SH hk1 Sz hcb;rw[bH h b _ _ hbl]at hk1 Sz;by_cases S9:b1=b
  ·subst S9;rw[ZS rfl]at hk1;cases hk1;rw[ZN (λx=>hne x.symm)]at Sz;rw[he]at TW;cases TW;by_cases hl:k2.live=true
   ·exact absurd hcb.symm (hsep b2 e2 k2 (λx=>hne x.symm) SH Sz hl)
   ·cases k2<;>first|(cases k'<;>trivial)|exact absurd rfl hl
  ·rw[ZN S9]at hk1;by_cases Tk:b2=b
   ·subst Tk;rw[ZS rfl]at Sz;cases Sz;rw[he]at SH;cases SH;by_cases hl:k1.live=true
    ·exact absurd hcb (hsep b1 e1 k1 hne TW hk1 hl)
    ·cases k1<;>first|trivial|exact absurd rfl hl
   ·exact NH
 ·intro b' e' hb' TA;exact absurd (hr.cN _ _ TA) Om
 ·intro b' hb' ht;unfold eI at ht ⊢;rw[bH h b b' _ hbl]at ht;by_cases hbb:b' =b
  ·subst hbb;rw[ZS rfl]at ht;rcases hk' with hk'|hk'
   ·cases k'<;>first|(cases hk';done)|(cases ht;done)
   ·subst hk';cases ht
  ·exact Ee
 ·intro i hi hno;exact hother i (λhcb=>hno b e he hown hcb.symm)
def kK{r o}(ho:w.heap[r]? =some o)(hc:o.isCells=false):(getObj r).run P w=.ok o w:=by
 cases o<;>first|(cases hc;done)|simp[getObj,Sem.run,ho]
def nv{r o o'}(ho:w.heap[r]? =some o)(hc:o.isCells=false):(setObj r o').run P w=.ok () (w.putObj r o'):=by
 cases o<;>first|(cases hc;done)|simp[setObj,Sem.run,ho,World.putObj]
def H8{t:TypeId}{x cx}(hu:P.underlying t=some .string)(hr:HR P m h w)(hx:VR m (ρ x) cx)(hf:dx (.Cj x) ρ h=some (v,h')):
  ∃cv w' m',(Instr.range t cx).run P w=.ok cv w'/\VR m' v cv/\HR P m' h' w'/\Grow m h w m' h' w':=by
 simp only[dx]at hf;split at hf
 case h_2=>cases hf
 rename_i s hρ;rw[hρ,VR]at hx;subst hx;cases hf;have Yp:=kC hr (.stringIter ⟨⟨s⟩⟩ 0) (.iter s 0) ⟨w.heap.size,0,0,true⟩ rfl rfl (λm' _=>⟨rfl,rfl,World.alloc_heap_new w _⟩);exact⟨.pointer (some ⟨w.heap.size,0,none⟩),_,_,by simp[Instr.range,ZZ hu],⟨⟨w.heap.size,0,0,true⟩,by simp[bY.add],rfl⟩,Yp.1,Yp.2⟩
def EA{t:TypeId}{x cx}(hr:HR P m h w)(hx:VR m (ρ x) cx)(hf:dx (.rE x) ρ h=some (v,h')):
  ∃cv w' m',(Instr.next cx true t).run P w=.ok cv w'/\VR m' v cv/\HR P m' h' w'/\Grow m h w m' h' w':=by
 simp only[dx]at hf;split at hf
 case h_2=>cases hf
 rename_i b hρ;rw[hρ]at hx;obtain⟨e,he,rfl⟩:=hx;split at hf
 case h_2=>cases hf
 rename_i s pos hb;obtain⟨hown,hd0,hheap⟩:=hr.dU b e _ he hb;have hg:=kK (P:=P) hheap rfl;have eG:(⟨⟨s⟩⟩:ByteArray).size=s.length:=rfl;split at hf
 ·rename_i hlt;cases hf;have hbl:e.cb<w.heap.size:=(ZX.1 hheap).1;obtain⟨h1,h2⟩:=j9 hr he hb rfl (k':=.iter s (pos+(Utf8.decode ⟨⟨s⟩⟩ pos).2)) (o:=.stringIter ⟨⟨s⟩⟩ (pos+(Utf8.decode ⟨⟨s⟩⟩ pos).2)) (.inl rfl) ⟨hown,hd0,World.putObj_heap_same hbl⟩;refine⟨.tuple #[.bool true,goInt pos,.int .i32 (Utf8.decode ⟨⟨s⟩⟩ pos).1],_,m,?_,⟨_,rfl,?_⟩,h1,h2⟩
  ·simp[Instr.next,hd0,hg,eG,hlt,nv hheap rfl]
  ·exact⟨_,_,rfl,rfl,_,_,rfl,rfl,_,_,rfl,rfl,rfl⟩
 ·rename_i hlt;cases hf;refine⟨.tuple #[.bool false],w,m,?_,⟨_,rfl,_,_,rfl,rfl,rfl⟩,hr,Grow.refl m h w hr.cN⟩;simp[Instr.next,hd0,hg,eG,hlt]
def AM(kk:CK)(d:TypeDesc):Prop:=
 match kk with
 |.b=>d=.bool
 |.i=>∃i,d=.int i
 |.s=>d=.string
def tE{t:TypeId}{kk}(hk:yu P t=some kk):∃d,P.underlying t=some d/\AM kk d:=by
 unfold yu at hk;split at hk
 ·rename_i k hu;cases hk;exact⟨_,hu,k,rfl⟩
 ·rename_i hu;cases hk;exact⟨_,hu,rfl⟩
 ·rename_i hu;cases hk;exact⟨_,hu,rfl⟩
 ·cases hk
def zx{kk}{d:TypeDesc}(hd:AM kk d){k k' ck ck' b}(hk:VR m k ck)(hk':VR m k' ck')(he:cY kk k k' =some b):
  Instr.sameNow d ck ck' =some b:=by
 unfold cY at he;split at he
 ·rw[VR]at hk hk';subst hk;subst hk';cases hd;cases he;rfl
 ·split at he
  ·rename_i hkk;rw[VR]at hk hk';subst hk;subst hk';subst hkk;obtain⟨i,rfl⟩:=hd;cases he;simp[Instr.sameNow]
  ·cases he
 ·rw[VR]at hk hk';subst hk;subst hk';cases hd;cases he;simp[Instr.sameNow,toList_mk,beq_toListBytes]
 ·cases he
def mP(m:bY):List (AV×AV)->List MapEntry->Prop
 |[],l=>l=[]
 |p::r,l=>∃q s,l=q::s/\VR m p.1 q.key/\VR m p.2 q.val/\mP m r s
theorem mP.iu:∀{es}{l},l.length=es.length->(∀(i:Nat) (p:AV×AV),es[i]? =some p->∃q,l[i]? =some q/\VR m p.1 q.key/\VR m p.2 q.val)->mP m es l
 |[],l,hl,_=>aay.1 (by simpa using hl)
 |p::r,[],hl,_=>by simp at hl
 |p::r,q::s,hl,h=>by
  obtain⟨q',hq,h1,h2⟩:=h 0 p Si;simp at hq;subst hq;exact⟨q,s,rfl,h1,h2,mP.iu (by simpa using hl) λi p hp=>by simpa using h (i+1) p (by simpa using hp)⟩
theorem mP.get:∀{es}{l},mP m es l->l.length=es.length/\∀(i:Nat) (p:AV×AV),es[i]? =some p->∃q,l[i]? =some q/\VR m p.1 q.key/\VR m p.2 q.val
 |[],l,h=>by cases h;exact⟨rfl,λi p hp=>by simp at hp⟩
 |p::r,l,h=>by
  obtain⟨q,s,rfl,h1,h2,h3⟩:=h;obtain⟨hl,hg⟩:=mP.get h3;refine⟨by simp[hl],λi p' hp=>?_⟩;cases i with
  |zero=>simp at hp;subst hp;exact⟨q,Si,h1,h2⟩
  |succ i=>simpa using hg i p' (by simpa using hp)
theorem rT{kk}{d:TypeDesc}(hd:AM kk d){k ck}(hk:VR m k ck):∀{es}{l}{r}(i:Nat),mP m es l->hO kk k es=some r->
  ∃cr,Instr.findNow d ck l i=some cr/\(match r,cr with|none,none=>True|some v,some (_,cv)=>VR m v cv|_,_=>False)
 |[],l,r,i,h,hf=>by cases h;cases hf;exact⟨none,rfl,trivial⟩
 |(a,v)::es,l,r,i,h,hf=>by
  obtain⟨q,s,rfl,h1,h2,h3⟩:=h;simp only[hO]at hf;cases he:cY kk k a with
  |none=>simp[he]at hf
  |some b=>
   have hs:=zx hd hk h1 he;cases b with
   |true=>
    simp[he]at hf;subst hf;exact⟨some (i,q.val),by simp[Instr.findNow,hs],h2⟩
   |false=>
    simp only[he]at hf;obtain⟨cr,hcr,hm⟩:=rT hd hk (i+1) h3 hf;exact⟨cr,by simp[Instr.findNow,hs,hcr],hm⟩
def sJ{t:TypeId}{d:TypeDesc}{kk}(hu:P.underlying t=some d)(hd:AM kk d)(b:Bool)(v:Value)(n:Nat):(Instr.checkKey b (n+1) t v).run P w=.ok () w:=by
 cases kk with
 |b=>cases hd;cases v<;>simp[Instr.checkKey,ZZ hu]
 |i=>obtain⟨i,rfl⟩:=hd;cases v<;>simp[Instr.checkKey,ZZ hu]
 |s=>cases hd;cases v<;>simp[Instr.checkKey,ZZ hu]
def run_checkKey{t:TypeId}{d:TypeDesc}{kk}(hu:P.underlying t=some d)(hd:AM kk d)(b:Bool)(v:Value):(Instr.checkKey b 10000 t v).run P w=.ok () w:=sJ hu hd b v 9999
def Ib{t kt e:TypeId}{kk z ok x k cx ck}(hu:P.underlying t=some (.map kt e))(hkk:yu P kt=some kk)(hz:jG P e=some z)(hr:HR P m h w)(hx:VR m (ρ x) cx)(hk:VR m (ρ k) ck)
  (hf:dx (.look kk z ok x k) ρ h=some (v,h')):∃cv,(Instr.lookup t cx ck ok).run P w=.ok cv w/\VR m v cv/\h' =h:=by
 obtain⟨d,hud,hd⟩:=tE hkk;obtain⟨cz,Vg,VM⟩:=jZ hz w m;simp only[dx]at hf;split at hf
 ·rename_i hρ;rw[hρ,VR]at hx;subst hx;cases hf;refine⟨if ok then .tuple #[cz,.bool false]else cz,?_,?_,rfl⟩
  ·simp only[Instr.lookup,Z0,ZZ hu,ZQ,aak,run_checkKey hud hd,Instr.findKey,ZZ hud];simp[Instr.findNow,Vg]
  ·exact z164
 ·rename_i r hρ;rw[hρ]at hx;obtain⟨en,Th,rfl⟩:=hx;split at hf
  case h_2=>cases hf
  rename_i es hb;obtain⟨_,UD,clock,hheap,hlen,SF⟩:=hr.dU r en _ Th hb;have TL:mP m es UD.toList:=mP.iu (by simpa using hlen) (λi p hp=>by obtain⟨q,hq,h1,h2⟩:=SF i p hp;exact⟨q,by simpa using hq,h1,h2⟩);have hg:=kK (P:=P) hheap rfl;split at hf
  ·rename_i u UO;cases hf;obtain⟨cr,hcr,hm⟩:=rT hd hk 0 TL UO;cases cr with
   |none=>exact hm.elim
   |some p=>
    obtain⟨i,cu⟩:=p;refine⟨if ok then .tuple #[cu,.bool true]else cu,?_,?_,rfl⟩
    ·simp only[Instr.lookup,Z0,ZZ hu,ZQ,hg,aak,run_checkKey hud hd,Instr.findKey,ZZ hud,hcr]
    ·cases ok
     ·exact hm
     ·exact⟨_,rfl,_,_,rfl,hm,_,_,rfl,rfl,rfl⟩
  ·rename_i UO;cases hf;obtain⟨cr,hcr,hm⟩:=rT hd hk 0 TL UO;cases cr with
   |some p=>exact hm.elim
   |none=>
    refine⟨if ok then .tuple #[cz,.bool false]else cz,?_,?_,rfl⟩
    ·simp only[Instr.lookup,Z0,ZZ hu,ZQ,hg,aak,run_checkKey hud hd,Instr.findKey,ZZ hud,hcr,Vg]
    ·exact z164
  ·cases hf
 ·cases hf
theorem VR.sameBits{kk k k' ck ck'}(hk:VR m k ck)(hk':VR m k' ck')(he:cY kk k k' =some true)(n:Nat):Instr.sameBits n ck' ck=true:=by
 unfold cY at he;split at he
 ·rw[VR]at hk hk';subst hk;subst hk';simp at he;simp[Instr.sameBits,he]
 ·split at he
  ·rename_i hkk;rw[VR]at hk hk';subst hk;subst hk';subst hkk;simp at he;simp[Instr.sameBits,he]
  ·cases he
 ·rw[VR]at hk hk';subst hk;subst hk';simp at he;subst he;simp[Instr.sameBits,beq_toListBytes]
 ·cases he
theorem yT{kk}{d:TypeDesc}(hd:AM kk d){k x ck cx}(hk:VR m k ck)(hx:VR m x cx)(clock:Nat):∀{es es'}{l}(i:Nat),mP m es l->mL kk k x es=some es'->
  (∃j q,Instr.findNow d ck l i=some (some (i+j,q.val))/\l[j]? =some q/\Instr.sameBits 10000 q.key ck=true/\mP m es' (l.set j {q with key:=ck,val:=cx}))\/
  (Instr.findNow d ck l i=some none/\mP m es' (l++[{key:=ck,val:=cx,born:=clock}]))
 |[],es',l,i,h,hf=>by cases h;cases hf;exact .inr ⟨rfl,_,_,rfl,hk,hx,rfl⟩
 |(a,u)::es,es',l,i,h,hf=>by
  obtain⟨q,s,rfl,h1,h2,h3⟩:=h;simp only[mL]at hf;cases he:cY kk k a with
  |none=>simp[he]at hf
  |some b=>
   have hs:=zx hd hk h1 he;cases b with
   |true=>
    simp[he]at hf;subst hf;exact .inl ⟨0,q,by simp[Instr.findNow,hs],Si,VR.sameBits hk h1 he 10000,_,_,rfl,hk,hx,h3⟩
   |false=>
    simp only[he,Z2]at hf;obtain⟨es2,hes2,rfl⟩:=hf;rcases yT hd hk hx clock (i+1) h3 hes2 with⟨j,q',hj,Yf,hb,hr⟩|⟨hj,hr⟩
    ·exact .inl ⟨j+1,q',by simp[Instr.findNow,hs,hj];omega,by simpa using Yf,hb,_,_,rfl,h1,h2,hr⟩
    ·exact .inr ⟨by simp[Instr.findNow,hs,hj],_,_,rfl,h1,h2,hr⟩
def H9{t kt e:TypeId}{kk x k u cx ck cu}(hu:P.underlying t=some (.map kt e))(hkk:yu P kt=some kk)(hr:HR P m h w)(hx:VR m (ρ x) cx)(hk:VR m (ρ k) ck)(hv:VR m (ρ u) cu)
  (hf:dx (.fj kk x k u) ρ h=some (v,h')):∃w',(Instr.mapUpdate t cx ck cu).run P w=.ok () w'/\v=az/\HR P m h' w'/\Grow m h w m h' w':=by
 obtain⟨d,hud,hd⟩:=tE hkk;simp only[dx]at hf;split at hf
 case h_2=>cases hf
 rename_i r hρ;rw[hρ]at hx;obtain⟨en,Th,rfl⟩:=hx;split at hf
 case h_2=>cases hf
 rename_i es hb;split at hf
 case h_2=>cases hf
 rename_i es' hupd;cases hf;obtain⟨hown,UD,clock,hheap,hlen,SF⟩:=hr.dU r en _ Th hb;have TL:mP m es UD.toList:=mP.iu (by simpa using hlen) (λi p hp=>by obtain⟨q,hq,h1,h2⟩:=SF i p hp;exact⟨q,by simpa using hq,h1,h2⟩);have hg:=kK (P:=P) hheap rfl;have hbl:en.cb<w.heap.size:=(ZX.1 hheap).1;have done:∀(ces':Array MapEntry) (c:Nat),mP m es' ces'.toList->HR P m (h.set r (.aR es')) (w.putObj en.cb (.map ces' c))/\Grow m h w m (h.set r (.aR es')) (w.putObj en.cb (.map ces' c)):=by
  intro ces' c UP;obtain⟨SI,SV⟩:=UP.get;exact j9 hr Th hb rfl (.inl rfl) ⟨hown,ces',c,World.putObj_heap_same hbl,by simpa using SI,λi p hp=>by obtain⟨q,hq,h1,h2⟩:=SV i p hp;exact⟨q,by simpa using hq,h1,h2⟩⟩
 rcases yT hd hk hv clock 0 TL hupd with⟨j,q,hj,hq,hbits,UP⟩|⟨hj,UP⟩
 ·have Yf:UD[j]? =some q:=by simpa using hq
  obtain⟨h1,h2⟩:=done (UD.modify j λe=>{e with key:=ck,val:=cu}) clock (by
   have:(UD.modify j λe=>{e with key:=ck,val:=cu}).toList=UD.toList.set j {q with key:=ck,val:=cu}:=by
    apply abZ
    intro i;rw[aa6,Array.getElem?_modify,List.getElem?_set];by_cases hij:j=i
    ·subst hij;obtain⟨hlt,heq⟩:=ZX.1 Yf;simp[Yf,hlt,heq]
    ·simp[hij]
   rw[this];exact UP)
  refine⟨_,?_,rfl,h1,h2⟩;simp only[Instr.mapUpdate,Z0,ZZ hu,ZQ,hg,run_checkKey hud hd,Instr.findKey,ZZ hud,hj,aak,aau,Yf,abv,abP,Instr.keyThatStays,hbits,Z1,nv hheap rfl]
 ·obtain⟨h1,h2⟩:=done (UD.push {key:=ck,val:=cu,born:=clock}) (clock+1) (by simpa using UP);refine⟨_,?_,rfl,h1,h2⟩;simp only[Instr.mapUpdate,Z0,ZZ hu,ZQ,hg,run_checkKey hud hd,Instr.findKey,ZZ hud,hj,aak,nv hheap rfl]
end
section
variable {P:Program}{m:bY}{h h':ah}{w:World}{ρ:cZ->AV}{v:AV}
theorem nB(m:bY):∀(s:By),cK m (s.map λb=>AV.int .u8 b.toNat) (s.map λb=>Value.int .u8 b.toNat)
 |[]=>bB.2 rfl
 |b::s=>aQ.2 ⟨_,_,rfl,rfl,nB m s⟩
def rJ(s:By):(s.map λb=>AV.int .u8 b.toNat).all AV.one=true:=by
 rw[aae];intro x hx;simp only[Z3]at hx;obtain⟨b,_,rfl⟩:=hx;rfl
def cO{es y cy ys k}(hr:HR P m h w)(hy:VR m y cy)(hc:cellsIn es h y=some (ys,k)):
  (Builtin.lenOf cy).run P w=.ok k w/\ys.length=k*es/\ys.all AV.one=true/\
   ∀n,n<=k->∃vs,(Builtin.firstCells es n cy).run P w=.ok ⟨vs⟩ w/\cK m (ys.take (n*es)) vs:=by
 unfold cellsIn at hc;split at hc
 ·rw[VR]at hy;subst hy;cases hc;exact⟨rfl,Si,rfl,λn hn=>⟨[],by simp[Builtin.firstCells],by simp[bB]⟩⟩
 ·rename_i b o n es';obtain⟨e,ca,cap,he,rfl,SX,Ti,hroom⟩:=hy;split at hc
  case isFalse=>cases hc
  rename_i hes;subst hes;split at hc
  case h_2=>cases hc
  rename_i c mu tl hb;split at hc
  case isFalse=>cases hc
  rename_i hle;cases hc;obtain⟨_,_,_,hone⟩:=nC hr he hb o (k*es') hle;refine⟨rfl,by simp;omega,hone,λn hn=>?_⟩;have hmul:n*es'<=k*es':=aaJ _ hn;by_cases h0:cap=0
  ·have hk0:k=0:=Om
   have Xj:n=0:=Om
   subst Xj;exact⟨[],by simp[Builtin.firstCells,loadCells,loadCellsFrom],by simp[bB]⟩
  ·rw[Ti Om];obtain⟨vs,SB,Tu,_⟩:=nC hr he hb o (n*es') Om;refine⟨vs,by simp[Builtin.firstCells,SB],?_⟩;rw[List.take_take,abr hmul];exact Tu
 ·rename_i s;rw[VR]at hy;subst hy;split at hc
  case isFalse=>cases hc
  rename_i hes;subst hes;cases hc;refine⟨rfl,Si,rJ s,λn hn=>⟨(s.take n).map λb=>Value.int .u8 b.toNat,?_,?_⟩⟩
  ·simp only[Builtin.firstCells,aak,extract_mk];simp
  ·rw[abM,<-List.map_take];exact nB m _
 ·cases hc
theorem td{cb}{el:TypeId}{fz}:∀(vs:List Value) (p j:Nat) (cc:Array Value) (w:World),w.heap[cb]? =some (.cells cc el fz)->p+j+vs.length<=cc.size->
  (∀i,i<cc.size->¬(fz.1<=i/\i<fz.2))->(∀v∈vs,v.oneCell' =true)->
  ∃w' Tj,(storeCells ⟨cb,p,none⟩ vs j).run P w=.ok () w'/\w'.heap[cb]? =some (.cells Tj el fz)/\Tj.size=cc.size/\
   (∀i,Tj[i]? =if p+j<=i/\i<p+j+vs.length then vs[i-(p+j)]? else cc[i]?)/\(∀k,k≠cb->w'.heap[k]? =w.heap[k]?)/\w'.heap.size=w.heap.size/\w'.os=w.os/\w'.output=w.output/\w'.tape=w.tape
 |[],p,j,cc,w,hw,_,_,_=>⟨w,cc,rfl,hw,rfl,λi=>by simp;omega,λ_ _=>rfl,rfl,rfl,rfl,rfl⟩
 |v::vs,p,j,cc,w,hw,hlen,hfz,hone=>by
  simp only[ZG]at hlen;have Tr:w.cell? ⟨cb,p+j,none⟩=some (cc[p+j]'Om):=by simp only[World.cell?,hw];exact aaw Om
  have hfr:w.frozen? ⟨cb,p+j,none⟩=false:=oP hw (hfz _ Om);have Wf:=heap_setCell_same (i:=p+j) hw v;have Um:(cc.setIfInBounds (p+j) v).size=cc.size:=Si
  obtain⟨w',Tj,h1,h2,h3,h4,h5,h6,h7,h8,h9⟩:=td vs p (j+1) (cc.setIfInBounds (p+j) v) (w.setCell ⟨cb,p+j,none⟩ v) Wf (by rw[Um];omega) (by rw[Um];exact hfz) (λu hu=>hone u (Z8 _ hu));refine⟨w',Tj,?_,h2,Om,?_,?_,by simpa using h6,h7,h8,h9⟩
  ·simp only[storeCells,Z0];rw[gQ,run_store P w _ v .plain (hone v (aan ..)),Tr];simp only[hfr,aav,ZY,ZQ];exact h1
  ·intro i;rw[h4 i];by_cases hi:i=p+j
   ·subst hi;rw[ZN Om,ZS (by simp only[ZG];omega)];rw[aaV Om];simp
   ·rw[abk (λx=>hi x.symm)];by_cases hin:p+(j+1)<=i/\i<p+(j+1)+vs.length
    ·rw[ZS hin,ZS (by simp only[ZG];omega)];rw[show i-(p+j)=(i-(p+(j+1)))+1 from by omega];simp
    ·rw[ZN hin,ZN (by simp only[ZG];omega)]
  ·intro k hk;rw[h5 k hk];exact Go.RowKit.Below.heap_setCell w _ v k hk
def E4(need cap:Nat)(hc:cap<need):Builtin.nextslicecap need cap<=2*need+192:=by
 unfold Builtin.nextslicecap;split
 ·omega
 ·split
  ·omega
  ·have grow:∀(r c:Nat),c<need+(need+768) / 4->Builtin.growBy need r c<=need+(need+768) / 4:=by
    intro r
    induction r with
    |zero=>intro c VV;simp only[Builtin.growBy];omega
    |succ r ih=>
     intro c VV;simp only[Builtin.growBy];split
     ·omega
     ·rename_i hlt;have h1:c<need:=Om
      by_cases hh:c+(c+768) / 4<need+(need+768) / 4
      ·exact ih _ hh
      ·have:c+(c+768) / 4<=need+(need+768) / 4:=Om
       have e:c+(c+768) / 4=need+(need+768) / 4:=Om
       rw[e];cases r with
       |zero=>simp[Builtin.growBy]
       |succ r=>simp only[Builtin.growBy];rw[ZS Om];exact ZO _
   have:=grow 4 cap Om;omega
theorem cK.vK:∀{l}{vs},cK m l vs->l.all AV.one=true->∀v∈vs,v.oneCell' =true
 |[],vs,h,_,v,hv=>by rw[bB]at h;subst h;cases hv
 |x::xs,vs,h,h1,v,hv=>by
  obtain⟨y,ys,rfl,hy,hys⟩:=aQ.1 h;simp only[abc,aad]at h1;rcases aag.1 hv with rfl|hv
  ·exact hy.ud h1.1
  ·exact cK.vK hys h1.2 v hv
def rS(hr:HR P m h w){b o q e c ys mu mu' k0}(he:m b=some e)(hb:h[b]? =some (.cells c mu true))(hoq:o+q<=c.length)
  (hk0:(k0=.cells c false false/\o+q=c.length/\mu' =false)\/(k0=.dead/\mu=true)) {vs}(hys:cK m ys vs) (h1:ys.all AV.one=true) (hroom:o+q+e.d+ys.length<=e.sz) (j:Nat):
  ∃w' m',(storeCells ⟨e.cb,o+e.d+q,none⟩ vs 0).run P w=.ok () w'/\m' h.length=some ⟨e.cb,e.d+o,e.sz,true⟩/\
   HR P m' (h.set b k0++[.cells ((c.drop o).take q++ys) mu' true]) w'/\Grow m h w m' (h.set b k0++[.cells ((c.drop o).take q++ys) mu' true]) w':=by
 have _:=j;obtain⟨cc,el,fz,hw,⟨hle,hle'⟩,SF,hown,hmt⟩:=hr.dU b e _ he hb;have ho:e.own=true:=(hmt (.inr rfl)).1;obtain⟨eG,hfz⟩:=hown ho;have hlv:=hys.length;obtain⟨w',Tj,SB,hw',SN,hcc',hoth,hhs,hos,hout,htape⟩:=td (P:=P) vs (o+e.d+q) 0 cc w hw Om hfz (hys.vK h1);have hbl:b<h.length:=hr.cN _ _ he
 let e':sW:=⟨e.cb,e.d+o,e.sz,true⟩
 have TC:m h.length=none:=by
  exact NI
 have Va:m.le (m.add h.length e'):=bY.si e' TC;have hlen:(h.set b k0).length=h.length:=Si
 have We:∀b2 e2 k2,b2≠b->m b2=some e2->h[b2]? =some k2->k2.live=true->e2.cb=e.cb->mu=false/\∃c2,k2=.cells c2 false false/\e2.d+c2.length<=e.d+c.length:=by
  intro b2 e2 k2 hne SH Sz hl hcb;have:=hr.sep b b2 e e2 _ k2 (λx=>hne x.symm) he SH hb Sz hcb.symm;cases k2 with
  |cells c2 mu2 tl2=>
   obtain⟨Ui,Xl,ht⟩:=this;obtain⟨ht2,Ux⟩:=ht rfl;subst Xl;subst ht2;exact⟨Ui,c2,rfl,Ux⟩
  |dead=>cases hl
  |aR _=>exact this.elim
  |iter _ _=>exact this.elim
  |loop _ _ _ _ _ _=>exact this.elim
 have Yj:∀i,i<e.d+o+q->Tj[i]? =cc[i]? :=by
  intro i hi;rw[hcc' i,ZN Om]
 have hnew:BR P (m.add h.length e') w' e' (.cells ((c.drop o).take q++ys) mu' true):=by
  refine⟨Tj,el,fz,hw',⟨?_,?_,(by rw[SN,eG])⟩,?_,λ_=>⟨by rw[SN,eG],λi hi=>hfz i Om⟩,λ_=>⟨rfl,λx=>by cases x⟩⟩
  ·show e.d+o+((c.drop o).take q++ys).length<=Tj.size;simp;omega
  ·show e.d+o+((c.drop o).take q++ys).length<=e.sz;simp;omega
  ·intro i x hx;by_cases hi:i<q
   ·rw[ZF (by simp;omega),abG hi,abT]at hx;obtain⟨hone,v,hv,SA⟩:=SF (o+i) x hx;refine⟨hone,v,?_,VR.mono Va _ _ SA⟩;show Tj[e.d+o+i]? =some v;rw[Yj _ Om,show e.d+o+i=e.d+(o+i)from by omega];exact hv
   ·have VQ:((c.drop o).take q).length=q:=by simp;omega
    rw[ZP Om,VQ]at hx;obtain⟨v,hv,SA⟩:=hys.get hx;have hlt:i-q<ys.length:=(ZC.1 hx).1;refine⟨aae.1 h1 x (aaz hx),v,?_,VR.mono Va _ _ SA⟩;show Tj[e.d+o+i]? =some v;rw[hcc',ZS Om,show e.d+o+i-(o+e.d+q+0)=i-q from by omega];exact hv
 have hbr0:∀b2 e2 k2,m b2=some e2->(h.set b k0)[b2]? =some k2->BR P (m.add h.length e') w' e2 k2:=by
  intro b2 e2 k2 SH Sz;rw[bH h b b2 _ hbl]at Sz;by_cases hbb:b2=b
  ·subst hbb;rw[ZS rfl]at Sz;cases Sz;rw[he]at SH;cases SH;rcases hk0 with⟨rfl,hcl,_⟩|⟨rfl,_⟩
   ·refine⟨Tj,el,fz,hw',⟨Om,Om⟩,?_,λ_=>⟨by rw[SN,eG],λi hi=>hfz i Om⟩,λx=>by rcases x with x|x<;>cases x⟩;intro i x hx;obtain⟨hone,v,hv,SA⟩:=SF i x hx;have hi:i<c.length:=(ZC.1 hx).1;exact KG
   ·trivial
  ·rw[ZN hbb]at Sz;have h0:=hr.dU b2 e2 k2 SH Sz;by_cases hl:k2.live=true
   ·by_cases hcb:e2.cb=e.cb
    ·obtain⟨hmf,c2,rfl,Ux⟩:=We b2 e2 k2 hbb SH Sz hl hcb;rcases hk0 with⟨_,hcl,_⟩|⟨_,Wk⟩
     ·obtain⟨cc2,el2,fz2,hw2,⟨hle2a,hle2b⟩,hget2,hown2,hmt2⟩:=h0;rw[hcb,hw]at hw2;cases hw2;refine⟨Tj,el,fz,by rw[hcb];exact hw',⟨Om,Om⟩,?_,λho2=>by have:=hown2 ho2;exact⟨Om,λi hi=>this.2 i Om⟩,hmt2⟩;intro i x hx;obtain⟨hone,v,hv,SA⟩:=hget2 i x hx;have hi:i<c2.length:=(ZC.1 hx).1;exact KG
     ·rw[hmf]at Wk;cases Wk
    ·exact(h0.mono Va).heap (hoth _ hcb)
   ·exact HN
 have hget0:∀b2 k2,b2<h.length->(h.set b k0++[.cells ((c.drop o).take q++ys) mu' true])[b2]? =some k2->(h.set b k0)[b2]? =some k2:=by
  intro b2 k2 hlt Sz
  rwa [ZF Om]at Sz
 have hsep1:∀b2 e2 k2,m b2=some e2->(h.set b k0)[b2]? =some k2->e2.cb=e.cb->p7 e' e2 (.cells ((c.drop o).take q++ys) mu' true) k2/\p7 e2 e' k2 (.cells ((c.drop o).take q++ys) mu' true):=by
  intro b2 e2 k2 SH Sz hcb;rw[bH h b b2 _ hbl]at Sz;by_cases hbb:b2=b
  ·subst hbb;rw[ZS rfl]at Sz;cases Sz;rw[he]at SH;cases SH;rcases hk0 with⟨rfl,hcl,rfl⟩|⟨rfl,_⟩
   ·refine⟨⟨rfl,rfl,λ_=>⟨rfl,?_⟩⟩,⟨rfl,rfl,λx=>by cases x⟩⟩;show e.d+c.length<=e.d+o+((c.drop o).take q++ys).length;simp;omega
   ·exact⟨trivial,trivial⟩
  ·rw[ZN hbb]at Sz;by_cases hl:k2.live=true
   ·obtain⟨hmf,c2,rfl,Ux⟩:=We b2 e2 k2 hbb SH Sz hl hcb;rcases hk0 with⟨_,hcl,rfl⟩|⟨_,Wk⟩
    ·refine⟨⟨rfl,rfl,λ_=>⟨rfl,?_⟩⟩,⟨rfl,rfl,λx=>by cases x⟩⟩;show e2.d+c2.length<=e.d+o+((c.drop o).take q++ys).length;simp;omega
    ·rw[hmf]at Wk;cases Wk
   ·cases k2<;>first|exact⟨trivial,trivial⟩|exact absurd rfl hl
 have hsep2:∀b1 b2 e1 e2 k1 k2,b1≠b2->m b1=some e1->m b2=some e2->(h.set b k0)[b1]? =some k1->(h.set b k0)[b2]? =some k2->e1.cb=e2.cb->p7 e1 e2 k1 k2:=by
  intro b1 b2 e1 e2 k1 k2 hne TW SH hk1 Sz hcb;rw[bH h b _ _ hbl]at hk1 Sz;by_cases S9:b1=b
  ·subst S9;rw[ZS rfl]at hk1;cases hk1;rw[ZN (λx=>hne x.symm)]at Sz;have:=hr.sep b1 b2 e1 e2 _ k2 hne TW SH hb Sz hcb;rcases hk0 with⟨rfl,_⟩|⟨rfl,_⟩
   ·cases k2<;>first|exact⟨rfl,this.2.1,λx=>by cases x⟩|trivial|exact this
   ·trivial
  ·rw[ZN S9]at hk1;by_cases Tk:b2=b
   ·subst Tk;rw[ZS rfl]at Sz;cases Sz;have:=hr.sep b1 b2 e1 e2 k1 _ hne TW SH hk1 hb hcb;rcases hk0 with⟨rfl,_⟩|⟨rfl,_⟩
    ·cases k1<;>first|exact⟨this.1,rfl,λx=>absurd (this.2.2 x).1 Si⟩|trivial|exact this
    ·cases k1<;>trivial
   ·exact NH
 refine⟨w',m.add h.length e',by simpa using SB,by simp[bY.add,e'],⟨?_,?_,?_,?_,?_⟩,⟨?_,Si,?_,?_,Om,hos,hout,htape,?_⟩⟩
 ·intro b2 e2 Tk;unfold bY.add at Tk;by_cases hx:b2=h.length
  ·subst hx;simp
  ·rw[ZN hx]at Tk;have:=hr.cN _ _ Tk;simp;omega
 ·intro b2 e2 k2 SH Sz;unfold bY.add at SH;by_cases hx:b2=h.length
  ·subst hx;rw[ZS rfl]at SH;cases SH;rw[ZP Om]at Sz;simp at Sz;subst Sz;exact hnew
  ·rw[ZN hx]at SH;exact hbr0 b2 e2 k2 SH (hget0 b2 k2 (hr.cN _ _ SH) Sz)
 ·intro b1 b2 e1 e2 k1 k2 hne TW SH hk1 Sz hcb;unfold bY.add at TW SH;by_cases hx1:b1=h.length
  ·subst hx1;rw[ZS rfl]at TW;cases TW;rw[ZN (λx=>hne x.symm)]at SH;rw[ZP Om]at hk1;simp at hk1;subst hk1;exact(hsep1 b2 e2 k2 SH (hget0 b2 k2 (hr.cN _ _ SH) Sz) hcb.symm).1
  ·rw[ZN hx1]at TW;have hk1':=hget0 b1 k1 (hr.cN _ _ TW) hk1;by_cases Vw:b2=h.length
   ·subst Vw;rw[ZS rfl]at SH;cases SH;rw[ZP Om]at Sz;simp at Sz;subst Sz;exact(hsep1 b1 e1 k1 TW hk1' hcb).2
   ·rw[ZN Vw]at SH;exact hsep2 b1 b2 e1 e2 k1 k2 hne TW SH hk1' (hget0 b2 k2 (hr.cN _ _ SH) Sz) hcb
 ·intro g hg;obtain⟨x,hx,h2⟩:=hr.gu g hg;exact⟨x,Va _ _ hx,h2⟩
 ·intro b2 e2 SH;unfold bY.add at SH;by_cases hx:b2=h.length
  ·rw[ZS hx]at SH;cases SH;have:=hr.lt _ _ he;show e.cb<_;omega
  ·rw[ZN hx]at SH;have:=hr.lt _ _ SH;omega
 ·intro b2 Tk;unfold bY.add;rw[ZN Om]
 ·intro b2 e2 Tk SH;unfold bY.add at SH;by_cases hx:b2=h.length
  ·rw[ZS hx]at SH;cases SH;refine⟨rfl,.inr ⟨b,e,he,rfl,ho,by simp[eI,hb],?_⟩⟩;unfold eI;rw[ZF Om,bH h b b _ hbl,ZS rfl];rcases hk0 with⟨rfl,_⟩|⟨rfl,_⟩<;>rfl
  ·rw[ZN hx]at SH;exact absurd (hr.cN _ _ SH) Om
 ·intro b2 Tk ht;unfold eI at ht ⊢;rw[ZF Om,bH h b b2 _ hbl]at ht;by_cases hbb:b2=b
  ·subst hbb;rw[ZS rfl]at ht;rcases hk0 with⟨rfl,_⟩|⟨rfl,_⟩<;>cases ht
  ·exact Ee
 ·intro i hi hno;exact hoth i (λx=>hno b e he ho x.symm)
end
section
variable {P:Program}{m:bY}{h h':ah}{w:World}{ρ:cZ->AV}{v:AV}
def yI:ak->ak->Prop
 |.cells c mu tl,k=>k=.dead\/∃mu' tl',k=.cells c mu' tl'/\(mu' =true->mu=true/\(tl' =false->tl=false))/\(tl' =true->tl=true)
 |k,k'=>k' =.dead\/k' =k
def yI.OB{e1 e2 k k' k2}(hw:yI k k')(hs:p7 e1 e2 k k2):p7 e1 e2 k' k2:=by
 cases k with
 |cells c mu tl=>
  rcases hw with rfl|⟨mu',tl',rfl,hm,ht⟩
  ·trivial
  ·cases k2 with
   |cells c2 mu2 tl2=>
    refine⟨?_,hs.2.1,λx=>hs.2.2 (ht x)⟩;cases mu' with
    |false=>rfl
    |true=>have:=hs.1;rw[(hm rfl).1]at this;cases this
   |_=>first|trivial|exact hs
 |dead=>rcases hw with rfl|rfl<;>trivial
 |aR es=>rcases hw with rfl|rfl<;>first|trivial|exact hs
 |iter s p=>rcases hw with rfl|rfl<;>first|trivial|exact hs
 |loop a b c d e f=>rcases hw with rfl|rfl<;>first|trivial|exact hs
def yI.OA{e1 e2 k k' k1}(hw:yI k k')(hs:p7 e1 e2 k1 k):p7 e1 e2 k1 k':=by
 cases k with
 |cells c mu tl=>
  rcases hw with rfl|⟨mu',tl',rfl,hm,ht⟩
  ·cases k1<;>trivial
  ·cases k1 with
   |cells c1 mu1 tl1=>
    refine⟨hs.1,?_,λx=>⟨?_,(hs.2.2 x).2⟩⟩
    ·cases mu' with
     |false=>rfl
     |true=>have:=hs.2.1;rw[(hm rfl).1]at this;cases this
    ·cases tl' with
     |false=>rfl
     |true=>have:=(hs.2.2 x).1;rw[ht rfl]at this;cases this
   |_=>first|trivial|exact hs
 |dead=>rcases hw with rfl|rfl<;>cases k1<;>trivial
 |aR es=>rcases hw with rfl|rfl<;>first|exact hs|(cases k1<;>trivial)
 |iter s p=>rcases hw with rfl|rfl<;>first|exact hs|(cases k1<;>trivial)
 |loop a b c d e f=>rcases hw with rfl|rfl<;>first|exact hs|(cases k1<;>trivial)
def yI.br{e k k'}(hw:yI k k')(hb:BR P m w e k):BR P m w e k':=by
 cases k with
 |cells c mu tl=>
  rcases hw with rfl|⟨mu',tl',rfl,hm,ht⟩
  ·trivial
  ·obtain⟨cc,el,fz,h1,h2,h3,h4,h5⟩:=hb;refine⟨cc,el,fz,h1,h2,h3,h4,λx=>⟨(h5 (x.elim (λy=>.inl (hm y).1) (λy=>.inr (ht y)))).1,λy=>?_⟩⟩;rcases x with x|x
   ·exact(h5 (.inl (hm x).1)).2 ((hm x).2 y)
   ·rw[x]at y;cases y
 |dead=>rcases hw with rfl|rfl<;>trivial
 |aR es=>rcases hw with rfl|rfl<;>first|trivial|exact hb
 |iter s p=>rcases hw with rfl|rfl<;>first|trivial|exact hb
 |loop a b c d e f=>rcases hw with rfl|rfl<;>first|trivial|exact hb
def wI(hr:HR P m h w){b k k'}(hb:h[b]? =some k)(hk:yI k k'):HR P m (h.set b k') w/\Grow m h w m (h.set b k') w:=by
 have hbl:b<h.length:=(ZC.1 hb).1;refine⟨⟨?_,?_,?_,hr.gu,hr.lt⟩,⟨λ_ _=>rfl,Si,?_,?_,ZO _,rfl,rfl,rfl,λ_ _ _=>rfl⟩⟩
 ·intro b' e' hb';simpa using hr.cN b' e' hb'
 ·intro b' e' k2 TA Sz;rw[bH h b b' _ hbl]at Sz;by_cases hbb:b' =b
  ·subst hbb;rw[ZS rfl]at Sz;cases Sz;exact hk.br (hr.dU b' e' k TA hb)
  ·rw[ZN hbb]at Sz;exact hr.dU b' e' k2 TA Sz
 ·intro b1 b2 e1 e2 k1 k2 hne TW SH hk1 Sz hcb;rw[bH h b _ _ hbl]at hk1 Sz;by_cases S9:b1=b
  ·subst S9;rw[ZS rfl]at hk1;cases hk1;rw[ZN (λx=>hne x.symm)]at Sz;exact hk.OB (hr.sep b1 b2 e1 e2 k k2 hne TW SH hb Sz hcb)
  ·rw[ZN S9]at hk1;by_cases Tk:b2=b
   ·subst Tk;rw[ZS rfl]at Sz;cases Sz;exact hk.OA (hr.sep b1 b2 e1 e2 k1 k hne TW SH hk1 hb hcb)
   ·exact NH
 ·intro b' e' hb' TA;exact absurd (hr.cN _ _ TA) Om
 ·intro b' hb' ht;unfold eI at ht ⊢;rw[bH h b b' _ hbl]at ht;by_cases hbb:b' =b
  ·subst hbb;rw[ZS rfl]at ht;rw[hb];cases k with
   |cells c mu tl=>
    rcases hk with rfl|⟨mu',tl',rfl,_,h2⟩
    ·cases ht
    ·exact h2 ht
   |dead=>rcases hk with rfl|rfl<;>cases ht
   |aR es=>rcases hk with rfl|rfl<;>cases ht
   |iter s p=>rcases hk with rfl|rfl<;>cases ht
   |loop a b c d e f=>rcases hk with rfl|rfl<;>cases ht
  ·exact Ee
def kB(hr:HR P m h w){c vs}(hc:cK m c vs)(h1:c.all AV.one=true)(rest:List Value)(el:TypeId)(mu tl:Bool)(hml:mu=true->tl=true):
  ∃m',m' h.length=some ⟨w.heap.size,0,vs.length+rest.length,true⟩/\HR P m' (h++[.cells c mu tl]) (w.alloc (.cells ⟨vs++rest⟩ el))/\Grow m h w m' (h++[.cells c mu tl]) (w.alloc (.cells ⟨vs++rest⟩ el)):=by
 have hl:=hc.length;refine⟨_,by simp[bY.add],kC hr (.cells ⟨vs++rest⟩ el) (.cells c mu tl) ⟨w.heap.size,0,vs.length+rest.length,true⟩ rfl rfl (λm' hm=>?_)⟩;refine⟨⟨vs++rest⟩,el,(0,0),World.alloc_heap_new w _,⟨by simp;omega,by refine⟨?_,Si⟩;show 0+c.length<=vs.length+rest.length;omega⟩,?_,λ_=>⟨Si,λi _=>by simp⟩,λx=>⟨rfl,λy=>by
  rcases x with x|x
  ·rw[hml x]at y;cases y
  ·rw[x]at y;cases y⟩⟩
 intro i x hx;obtain⟨v,hv,SA⟩:=hc.get hx;have hi:i<c.length:=(ZC.1 hx).1;refine⟨aae.1 h1 x (aaz hx),v,?_,VR.mono hm _ _ SA⟩;show(⟨vs++rest⟩:Array Value)[0+i]? =some v;rw[aau,aa7,ZF Om];exact hv
def n7{sT xT e:TypeId}{i:TypeInfo}{y ts}(hts0:ts[0]? =some sT)(hts1:ts[1]? =some xT)(hs:ed P sT=some (e,i))(hbytes:0<i.bytes)(hbytes':i.bytes<=2^20)
  {d:TypeDesc}(hud:P.underlying xT=some d) (hdk:∀k,d≠.int k) {cz}(hz:(zeroValue e).run P w.drew=.ok cz w.drew) {base}{n cap k}(hcap:cap<n+k) (hb:(n+k)*i.bytes<=2^46)
  (hlen:(Builtin.lenOf y).run P w=.ok k w) {vo vn}(ho:(Builtin.firstCells i.size n (.slice base n cap)).run P w.drew=.ok ⟨vo⟩ w.drew) (hn:(Builtin.firstCells i.size k y).run P w.drew=.ok ⟨vn⟩ w.drew) (T:TypeId) (eG:i.size=cz.cells.size):
  ∃newCap rest,n+k<=newCap/\rest.length=(newCap-(n+k))*i.size/\
   (Builtin.append_ ts T #[.slice base n cap,y]).run P w=.ok (.slice (some ⟨w.heap.size,0,none⟩) (n+k) newCap) (w.drew.alloc (.cells ⟨vo++vn++rest⟩ e)):=by
 obtain⟨hu,hi⟩:=fA hs;have Wi:=E4 (n+k) cap hcap;have hno:¬(Builtin.nextslicecap (n+k) cap*i.bytes > 2^48):=by
  have h1:Builtin.nextslicecap (n+k) cap*i.bytes<=(2*(n+k)+192)*i.bytes:=aaJ _ Wi;have h2:(2*(n+k)+192)*i.bytes=2*((n+k)*i.bytes)+192*i.bytes:=by rw[abU,Nat.mul_assoc]
  omega
 obtain⟨q,hq⟩:∃q:Question,q=.appendCap (n+k) cap e:=⟨_,rfl⟩;obtain⟨nc,Wj⟩:∃nc:Nat,nc=q.cut (w.tape w.drawn q):=⟨_,rfl⟩;have Xi:n+k<=nc:=by rw[Wj,hq];show n+k<=(n+k)+_;omega
 have Uq:(match d with|.int _=>true|_=>false)=false:=by
  cases d<;>first|rfl|exact absurd rfl (hdk _)
 have SO:∀w,(sizeOf e).run P w=.ok i.size w:=λw=>bZ (by simp[dZ,hi]) w
 have Wv:∀w,(typeInfo e).run P w=.ok i w:=λw=>by simp[typeInfo,hi]
 have TM:¬(i.bytes=0):=Om
 have UA:(choose (.appendCap (n+k) cap e)).run P w=.ok nc w.drew:=by
  rw[run_choose,Wj,hq];rfl
 refine⟨nc,(Builtin.zeroCells cz.cells (nc-(n+k))).toList,Xi,by simp[Builtin.zeroCells,eG],?_⟩;simp only[Builtin.append_,hts0,hts1,aa7,aaO,aaX,Z0,ZZ hu,ZQ,SO,ZZ hud,aak,Uq,
  aav,ZY,hlen,Nat.not_le.2 hcap]
 simp only[Sem.run_ite,Z0,Wv,ZQ,hno,ZY,TM,abh,and_false,aav,UA,run_askRoom,ho,hn,hz,aab,Z1,newRow,run_newObj,aak];have earr:((⟨vo⟩:Array Value)++⟨vn⟩++Builtin.zeroCells cz.cells (nc-(n+k)))=⟨vo++vn++(Builtin.zeroCells cz.cells (nc-(n+k))).toList⟩:=by
  apply ab4
  simp
 rw[earr];rfl
def mT{c:List AV}{o q:Nat}(h:o+q=c.length):(c.drop o).take q=c.drop o:=aal (by simp;omega)
def LC{sT xT e:TypeId}{i:TypeInfo}{ts:Array TypeId}(hts0:ts[0]? =some sT)(hts1:ts[1]? =some xT)(hs:ed P sT=some (e,i))(hspos:0<i.size)(hbytes:0<i.bytes)(hbytes':i.bytes<=2^20)
  {d:TypeDesc}(hud:P.underlying xT=some d) (hdk:∀k,d≠.int k) {z:AV}(hz:i.zero.bind (mN 4)=some z) (hzs:z.cells.length=i.size)
  (hr:HR P m h w) {x y:AV}{cx cy:Value}(hx:VR m x cx) (hy:VR m y cy) (hf:xE i.size i.bytes x y h v h') (T:TypeId):
  ∃cv w' m',(Builtin.append_ ts T #[cx,cy]).run P w=.ok cv w'/\VR m' v cv/\HR P m' h' w'/\Grow m h w m' h' w':=by
 obtain⟨hu,hi⟩:=fA hs;have hzA:jG P e=some z:=by simp[jG,hi,hz]
 obtain⟨cz,Vg,VM⟩:=jZ hzA w.drew m;have XA:i.size=cz.cells.size:=by have:=VM.cells.length;simp at this;omega
 have SO:∀w,(sizeOf e).run P w=.ok i.size w:=λw=>bZ (by simp[dZ,hi]) w
 have Uq:(match d with|.int _=>true|_=>false)=false:=by
  cases d<;>first|rfl|exact absurd rfl (hdk _)
 have room:∀{base:Option Addr}{n cap k:Nat}{vn:List Value}{w1:World},n+k<=cap->(Builtin.lenOf cy).run P w=.ok k w->(Builtin.firstCells i.size k cy).run P w=.ok ⟨vn⟩ w->
   (match base with|some a=>(storeCells (a.add (n*i.size)) vn).run P w=.ok () w1|none=>w1=w)->
   (Builtin.append_ ts T #[.slice base n cap,cy]).run P w=.ok (.slice base (n+k) cap) w1:=by
  intro base n cap k vn w1 hle hlen SG bS;cases base with
  |none=>
   subst bS;simp only[Builtin.append_,hts0,hts1,aa7,aaO,aaX,Z0,ZZ hu,ZQ,SO,ZZ hud,aak,Uq,
    aav,ZY,hlen,hle,Z1,aab,SG]
  |some a=>
   simp only at bS;simp only[Builtin.append_,hts0,hts1,aa7,aaO,aaX,Z0,ZZ hu,ZQ,SO,ZZ hud,aak,Uq,
    aav,ZY,hlen,hle,Z1,aab,SG,bS]
 cases hf with
 |none Ub Tg=>
  obtain⟨hlen,_,_,SG⟩:=cO hr hy Ub;obtain⟨vn,UG,SA⟩:=SG 0 (ZO _);have YZ:vn=[]:=by simp[bB]at SA;exact SA
  subst YZ;rcases Tg with rfl|⟨b,o,n,rfl⟩
  ·rw[VR]at hx;subst hx;exact⟨.slice none 0 0,w,m,room Om hlen UG rfl,rfl,hr,Grow.refl m h w hr.cN⟩
  ·have hx0:=hx;obtain⟨en,ca,cap,Th,rfl,SX,Ti,hroom⟩:=hx;exact⟨.slice (some ca) n cap,w,m,room Om hlen UG (by simp[storeCells]),hx0,hr,Grow.refl m h w hr.cN⟩
 |new ys k mu Ub hk hb Tg=>
  subst Tg;rw[VR]at hx;subst hx;obtain⟨hlen,Uf,hone,_⟩:=cO hr hy Ub;obtain⟨_,_,_,SG⟩:=cO hr.drew hy Ub;obtain⟨vn,UG,SA⟩:=SG k (ZO _);rw[aal Om]at SA;obtain⟨nc,rest,Xi,TB,SB⟩:=n7 (n:=0) (cap:=0) (base:=none) (vo:=[]) hts0 hts1 hs hbytes hbytes' hud hdk Vg Om (by rw[aau];exact hb) hlen (by simp[Builtin.firstCells]) UG T XA;obtain⟨m',h0,h1,h2⟩:=kB hr.drew SA hone rest e mu true (λ_=>rfl);have Tp:=SA.length;refine⟨_,_,m',SB,⟨_,_,nc,h0,by rw[aau];rfl,Om,λ_=>rfl,?_⟩,by simpa using h1,by simpa using h2.Dq⟩;show 0+0+nc*i.size<=vn.length+rest.length;rw[TB,Tp,Uf];have:nc*i.size=k*i.size+(nc-(0+k))*i.size:=by rw[<-abU];congr 1;omega
  omega
 |on ys k b o n c mu Ub hk hb Tg hc hl=>
  subst Tg;obtain⟨en,ca,cap,Th,rfl,SX,Ti,hroom⟩:=hx;obtain⟨hlen,Uf,hone,SG⟩:=cO hr hy Ub;have Xe:cellsIn i.size h (.slice b o n i.size)=some ((c.drop o).take (n*i.size),n):=by simp[cellsIn,hc];omega
  have hdt:=mT hl;by_cases Wz:n+k<=cap
  ·obtain⟨vn,UG,SA⟩:=SG k (ZO _);rw[aal Om]at SA;have WH:=Ti Om;have hr1:(n+k)*i.size<=cap*i.size:=aaJ _ Wz;rw[abU]at hr1;obtain⟨w',m',h0,h1,h2,h3⟩:=rS (mu':=false) (k0:=.cells c false false) (q:=n*i.size) hr Th hc Om (.inl ⟨rfl,hl,rfl⟩) SA hone Om 0;rw[hdt]at h2 h3;exact z51
  ·obtain⟨_,_,_,hfo⟩:=cO hr.drew (y:=.slice b o n i.size) ⟨en,ca,cap,Th,rfl,SX,Ti,hroom⟩ Xe;obtain⟨vo,hvo,T2⟩:=hfo n (ZO _);obtain⟨_,_,T6,_⟩:=cO hr (y:=.slice b o n i.size) ⟨en,ca,cap,Th,rfl,SX,Ti,hroom⟩ Xe;obtain⟨_,_,_,TH⟩:=cO hr.drew hy Ub;obtain⟨vn,UG,SA⟩:=TH k (ZO _);rw[aal Om]at SA;rw[aal (by simp;omega),hdt]at T2;rw[hdt]at T6;obtain⟨nc,rest,Xi,TB,SB⟩:=n7 hts0 hts1 hs hbytes hbytes' hud hdk Vg Om hb hlen hvo UG T XA;obtain⟨g1,g2⟩:=wI (k':=.cells c false false) hr hc (.inr ⟨false,false,rfl,λx=>(by cases x),λx=>(by cases x)⟩);obtain⟨m',h0,h1,h2⟩:=kB g1.drew (T2.append SA) (by simp[T6,hone]) rest e false true (λ_=>rfl)
   have SP:(h.set b (.cells c false false)).length=h.length:=Si
   rw[SP]at h0;have Tp:=SA.length;have YY:=T2.length;refine⟨_,_,m',SB,⟨_,_,nc,h0,rfl,Xi,λ_=>rfl,?_⟩,h1,(g2.drew.trans h2 hr.cN)⟩;exact z28
 |over ys k b o n c mu Ub hk hb Tg hc hl=>
  subst Tg;obtain⟨en,ca,cap,Th,rfl,SX,Ti,hroom⟩:=hx;obtain⟨hlen,Uf,hone,SG⟩:=cO hr hy Ub;have Xe:cellsIn i.size h (.slice b o n i.size)=some ((c.drop o).take (n*i.size),n):=by simp[cellsIn,hc];omega
  by_cases Wz:n+k<=cap
  ·obtain⟨vn,UG,SA⟩:=SG k (ZO _);rw[aal Om]at SA;have WH:=Ti Om;have hr1:(n+k)*i.size<=cap*i.size:=aaJ _ Wz;rw[abU]at hr1;obtain⟨w',m',h0,h1,h2,h3⟩:=rS (mu':=mu) (k0:=.dead) (q:=n*i.size) hr Th hc Om (.inr ⟨rfl,rfl⟩) SA hone Om 0;exact z51
  ·obtain⟨_,_,_,hfo⟩:=cO hr.drew (y:=.slice b o n i.size) ⟨en,ca,cap,Th,rfl,SX,Ti,hroom⟩ Xe;obtain⟨vo,hvo,T2⟩:=hfo n (ZO _);obtain⟨_,_,T6,_⟩:=cO hr (y:=.slice b o n i.size) ⟨en,ca,cap,Th,rfl,SX,Ti,hroom⟩ Xe;obtain⟨_,_,_,TH⟩:=cO hr.drew hy Ub;obtain⟨vn,UG,SA⟩:=TH k (ZO _);rw[aal Om]at SA;rw[aal (by simp;omega)]at T2;obtain⟨nc,rest,Xi,TB,SB⟩:=n7 hts0 hts1 hs hbytes hbytes' hud hdk Vg Om hb hlen hvo UG T XA;obtain⟨g1,g2⟩:=wI (k':=.dead) hr hc (.inl rfl);obtain⟨m',h0,h1,h2⟩:=kB g1.drew (T2.append SA) (by rw[List.all_append,T6,hone];rfl) rest e mu true (λ_=>rfl);have SP:(h.set b .dead).length=h.length:=Si
   rw[SP]at h0;have Tp:=SA.length;have YY:=T2.length;refine⟨_,_,m',SB,⟨_,_,nc,h0,rfl,Xi,λ_=>rfl,?_⟩,h1,(g2.drew.trans h2 hr.cN)⟩;exact z28
 |full ys k b o n c Ub hk hb Tg hc hl=>
  subst Tg;obtain⟨en,ca,cap,Th,rfl,SX,Ti,hroom⟩:=hx;obtain⟨hlen,Uf,hone,SG⟩:=cO hr hy Ub;have Xe:cellsIn i.size h (.slice b o n i.size)=some ((c.drop o).take (n*i.size),n):=by simp[cellsIn,hc];omega
  have hdt:=mT hl;have hfull:cap<=n:=by
   obtain⟨_,_,_,_,_,_,_,hex⟩:=hr.dU b en _ Th hc;have he:=(hex (.inl rfl)).2 rfl;by_cases hle:cap<=n
   ·exact hle
   ·have h2:(n+1)*i.size<=cap*i.size:=aaJ _ Om;rw[aaW]at h2;omega
  obtain⟨_,_,_,hfo⟩:=cO hr.drew (y:=.slice b o n i.size) ⟨en,ca,cap,Th,rfl,SX,Ti,hroom⟩ Xe;obtain⟨vo,hvo,T2⟩:=hfo n (ZO _);obtain⟨_,_,T6,_⟩:=cO hr (y:=.slice b o n i.size) ⟨en,ca,cap,Th,rfl,SX,Ti,hroom⟩ Xe;obtain⟨_,_,_,TH⟩:=cO hr.drew hy Ub;obtain⟨vn,UG,SA⟩:=TH k (ZO _);rw[aal Om]at SA;rw[aal (by simp;omega),hdt]at T2;rw[hdt]at T6;obtain⟨nc,rest,Xi,TB,SB⟩:=n7 hts0 hts1 hs hbytes hbytes' hud hdk Vg Om hb hlen hvo UG T XA;obtain⟨m',h0,h1,h2⟩:=kB hr.drew (T2.append SA) (by simp[T6,hone]) rest e true true (λ_=>rfl);have Tp:=SA.length;have YY:=T2.length;refine⟨_,_,m',SB,⟨_,_,nc,h0,rfl,Xi,λ_=>rfl,?_⟩,h1,h2.Dq⟩
  exact z28
def Ep(n es cap:Nat)(h:n<=cap):n*es<=cap*es:=aaJ _ h
def LA{dT e:TypeId}{i:TypeInfo}{ts}(hts0:ts[0]? =some dT)(hs:ed P dT=some (e,i))(hspos:0<i.size)
  (hr:HR P m h w) {x y}{cx cy}(hx:VR m (ρ x) cx) (hy:VR m (ρ y) cy) (hf:dx (.zL i.size x y) ρ h=some (v,h')) (T:TypeId):
  ∃cv w' m',(Builtin.copy_ ts T #[cx,cy]).run P w=.ok cv w'/\VR m' v cv/\HR P m' h' w'/\Grow m h w m' h' w':=by
 obtain⟨hu,hi⟩:=fA hs;have SO:∀w,(sizeOf e).run P w=.ok i.size w:=λw=>bZ (by simp[dZ,hi]) w
 simp only[dx]at hf;split at hf
 ·rename_i b o n es' ys k Tt Ub;rw[Tt]at hx;obtain⟨en,ca,cap,Th,rfl,SX,Ti,hroom⟩:=hx;obtain⟨hlen,Uf,hone,SG⟩:=cO hr hy Ub;obtain⟨vn,UG,SA⟩:=SG (min k n) (Nat.min_le_left _ _);split at hf
  case isFalse=>cases hf
  rename_i hes;subst hes;have VA:Nat.min k n=min k n:=rfl;split at hf
  ·rename_i h0;cases hf;have YZ:vn=[]:=by rw[h0]at SA;simp[bB]at SA;exact SA
   subst YZ;refine⟨.int .i64 0,w,m,?_,rfl,hr,Grow.refl m h w hr.cN⟩;simp only[Builtin.copy_,hts0,aa7,aaO,aaX,Z0,ZZ hu,ZQ,hlen,SO,VA,UG,aak,storeCells];simp[goInt,h0]
  ·rename_i h0;split at hf
   case h_2=>cases hf
   rename_i c tl hb;split at hf
   case isFalse=>cases hf
   rename_i hle;cases hf;have U1:(ys.take (min k n*i.size)).all AV.one=true:=by
    rw[aae]at hone ⊢
    exactλa ha=>hone a (aaD ha)
   have Wt:(ys.take (min k n*i.size)).length=min k n*i.size:=by
    have:=Ep (min k n) i.size k (Nat.min_le_left _ _);simp;omega
   obtain⟨w',bS,h1,h2⟩:=pD (ys.take (min k n*i.size)) vn hr Th hb o 0 Om U1 SA;refine⟨.int .i64 (min k n:Nat),w',m,?_,rfl,h1,h2⟩;have WH:=Ti Om;subst WH;simp only[Builtin.copy_,hts0,aa7,aaO,aaX,Z0,ZZ hu,ZQ,hlen,SO,VA,UG,aak,bS,goInt]
 ·rename_i Tt Ub;rename_i p;obtain⟨ys,k⟩:=p;rw[Tt,VR]at hx;subst hx;cases hf;obtain⟨hlen,Uf,hone,SG⟩:=cO hr hy Ub;obtain⟨vn,UG,SA⟩:=SG 0 (aac _);have VA:Nat.min k 0=0:=Nat.min_zero k;refine⟨.int .i64 0,w,m,?_,rfl,hr,Grow.refl m h w hr.cN⟩;simp only[Builtin.copy_,hts0,aa7,aaO,aaX,Z0,ZZ hu,ZQ,hlen,SO,VA,UG,aak,goInt];rfl
 ·cases hf
end
section
variable {P:Program}{m:bY}{h h':ah}{w:World}{ρ:cZ->AV}{v:AV}
theorem wY:∀{l}{vs}{bs},cK m l vs->l.mapM byteOf=some bs->
  ∀(acc:ByteArray),(forIn (m:=Sem) vs acc λc s=>
    match c with
    |.int .u8 n=>pure (ForInStep.yield (s.push (UInt8.ofNat n.toNat)))
    |_=>do
     (stuck "bytesToString: byte expected" :Sem PUnit)
     pure (ForInStep.yield s)).run P w=.ok ⟨⟨acc.data.toList++bs⟩⟩ w
 |[],vs,bs,hv,hb,acc=>by
  rw[bB]at hv;subst hv;simp at hb;subst hb;simp
 |x::xs,vs,bs,hv,hb,acc=>by
  obtain⟨y,ys,rfl,hy,hys⟩:=aQ.1 hv;simp only[ab2,abL,ab9]at hb;cases hx:byteOf x with
  |none=>simp[hx]at hb
  |some b=>
   cases hl:xs.mapM byteOf with
   |none=>simp[hx,hl]at hb
   |some bs'=>
    simp[hx,hl]at hb;subst hb;unfold byteOf at hx;split at hx
    case h_2=>cases hx
    rename_i n;cases hx;rw[VR]at hy;subst hy;have:=wY hys hl (acc.push (UInt8.ofNat n.toNat));simp only[List.forIn_cons,Z0,aak,ZQ];rw[this];simp[ByteArray.push]
def zy{e:TypeId}(h:Fq P e=true):P.underlying e=some (.int .u8):=by
 unfold Fq at h;split at h
 ·assumption
 ·cases h
def Ih{s d:TypeId}{k x cx}(hk:Du P s d=some k)(hr:HR P m h w)(hx:VR m (ρ x) cx)(hf:dx (.conv k x) ρ h=some (v,h')):
  ∃cv w' m',(convert s d cx).run P w=.ok cv w'/\VR m' v cv/\HR P m' h' w'/\Grow m h w m' h' w':=by
 simp only[dx]at hf;have same:∀{cv:Value},(convert s d cx).run P w=.ok cv w->VR m v cv->h' =h->∃cv w' m',(convert s d cx).run P w=.ok cv w'/\VR m' v cv/\HR P m' h' w'/\Grow m h w m' h' w':=by
  intro cv h1 h2 h3;exact Kn
 unfold Du at hk;split at hk
 ·rename_i k1 k2 hs hd;cases hk;simp only[ku]at hf;split at hf
  case h_2=>cases hf
  rename_i hρ;rw[hρ,VR]at hx;subst hx;cases hf;exact same (by simp[convert,ZZ hs,ZZ hd,Conv.intToInt]) rfl rfl
 ·rename_i k1 k2 hs hd;cases hk;simp only[ku]at hf;split at hf
  case h_2=>cases hf
  rename_i hρ;rw[hρ,VR]at hx;subst hx;cases hf;exact same (by simp[convert,ZZ hs,ZZ hd,Conv.intToFloat]) ⟨_,rfl,.inl rfl⟩ rfl
 ·rename_i k1 k2 hs hd;cases hk;simp only[ku]at hf;split at hf
  case h_2=>cases hf
  rename_i sk b hρ;rw[hρ]at hx;obtain⟨b',rfl,hfr⟩:=hx;split at hf
  case h_2=>cases hf
  rename_i n hn;split at hf
  case isFalse=>cases hf
  rename_i hc;cases hf;have hbb:b' =b:=by
   rcases hfr with h1|⟨h1,_⟩
   ·exact h1
   ·rw[hc.1]at h1;cases h1
  subst hbb;exact same (by simp[convert,ZZ hs,ZZ hd,Conv.floatToInt,hn,hc.2]) rfl rfl
 ·rename_i k1 k2 hs hd;cases hk;simp only[ku]at hf;split at hf
  case h_2=>cases hf
  rename_i sk b hρ;rw[hρ]at hx;obtain⟨b',rfl,hfr⟩:=hx;split at hf
  case isFalse=>cases hf
  rename_i hc;cases hf;subst hc;exact same (by simp[convert,ZZ hs,ZZ hd,Conv.floatToFloat]) ⟨_,rfl,hfr⟩ rfl
 ·rename_i hs hd;cases hk;simp only[ku]at hf;split at hf
  case h_2=>cases hf
  rename_i hρ;rw[hρ,VR]at hx;subst hx;cases hf;exact same (by simp[convert,ZZ hs,ZZ hd]) rfl rfl
 ·rename_i e hs hd;split at hk
  case isFalse=>cases hk
  rename_i he;have hue:P.underlying e=some (.int .u8):=zy he;cases hk;simp only[ku]at hf;split at hf
  case h_2=>cases hf
  rename_i s hρ;rw[hρ,VR]at hx;subst hx;cases hf;obtain⟨q,hq⟩:∃q:Question,q=.appendCap s.length 0 e:=⟨_,rfl⟩;obtain⟨nc,Wj⟩:∃nc:Nat,nc=q.cut (w.tape w.drawn q):=⟨_,rfl⟩;have Xi:s.length<=nc:=by rw[Wj,hq];show s.length<=s.length+_;omega
  have UA:(choose (.appendCap s.length 0 e)).run P w=.ok nc w.drew:=by
   rw[run_choose,Wj,hq];rfl
  let vs:List Value:=s.map λb=>.int .u8 b.toNat
  let rest:List Value:=List.replicate (nc-s.length) (.int .u8 0)
  have Tp:vs.length=s.length:=by simp[vs]
  have T4:rest.length=nc-s.length:=by simp[rest]
  let W:World:=(w.drew.alloc (.cells ⟨vs++rest⟩ e))
  let W':World:=W.freeze ⟨w.heap.size,nc,none⟩ 1
  have hWh:W.heap[w.heap.size]? =some (.cells ⟨vs++rest⟩ e):=World.alloc_heap_new w.drew _;have hlt:w.heap.size<W.heap.size:=(ZX.1 hWh).1;have hW':W'.heap[w.heap.size]? =some (.cells ⟨vs++rest⟩ e (nc,nc+1)):=by
   have hk:W.heap[w.heap.size]=.cells ⟨vs++rest⟩ e:=(ZX.1 hWh).2;show((if(1:Nat)=0 then W else {W with heap:=W.heap.modify w.heap.size _}).heap)[w.heap.size]? =_;rw[ZN Om];show(W.heap.modify w.heap.size _)[w.heap.size]? =_;rw[aaw (by rw[Array.size_modify];exact hlt),Array.getElem_modify_self,hk];rfl
  have hother:∀i,i≠w.heap.size->W'.heap[i]? =W.heap[i]? :=by
   intro i hi;show((if(1:Nat)=0 then W else {W with heap:=W.heap.modify w.heap.size _}).heap)[i]? =_;rw[ZN Om];show(W.heap.modify w.heap.size _)[i]? =_;rw[Array.getElem?_modify,ZN (λx=>hi x.symm)]
  have SO:W'.heap.size=W.heap.size:=by
   show((if(1:Nat)=0 then W else {W with heap:=W.heap.modify w.heap.size _}).heap).size=_;rw[ZN Om];simp
  obtain⟨m',h0,h1,h2⟩:=kB hr.drew (nB m s) (rJ s) rest e true true (λ_=>rfl);have h0':m' h.length=some ⟨w.heap.size,0,vs.length+rest.length,true⟩:=h0;have hne:∀b e2 k2,m' b=some e2->b≠h.length->(h++[.cells (s.map λb=>.int .u8 b.toNat) true true])[b]? =some k2->k2.live=true->e2.cb≠w.heap.size:=by
   intro b e2 k2 hb hbl Sz hl hcb;have:=h1.sep h.length b _ e2 (.cells (s.map λb=>.int .u8 b.toNat) true true) k2 (λx=>hbl x.symm) h0' hb Si Sz hcb.symm;cases k2<;>first|exact absurd this.1 Si|exact this|(cases hl;done)
  have hgrow:Grow m h w m' (h++[.cells (s.map λb=>.int .u8 b.toNat) true true]) W':=by
   have g:=h2.Dq;refine⟨g.ext,g.len,g.new,g.tl,by rw[SO];exact g.size,?_,?_,?_,?_⟩
   ·exact g.os
   ·exact g.out
   ·exact g.tape
   ·intro i hi hno;rw[hother i Om];exact g.frame i hi hno
  refine⟨.slice (some ⟨w.heap.size,0,none⟩) s.length nc,W',m',?_,⟨_,_,nc,h0',rfl,Xi,λ_=>rfl,by show 0+0+nc*1<=vs.length+rest.length;omega⟩,⟨h1.cN,?_,h1.sep,h1.gu,λb' e' hb'=>by have:=h1.lt b' e' hb';rw[SO];exact this⟩,hgrow⟩
  ·have eG:(⟨⟨s⟩⟩:ByteArray).size=s.length:=rfl;have Wo:(⟨s⟩:Array UInt8).map (λb=>Value.int .u8 b.toNat)=⟨vs⟩:=by apply ab4;simp[vs]
   have Tn:(⟨vs⟩:Array Value)++Array.replicate (nc-s.length) (.int .u8 0)=⟨vs++rest⟩:=by apply ab4;simp[rest]
   have Y7:W.shape? w.heap.size=some (e,nc):=by
    simp only[World.shape?,hWh];simp[Tp,T4];omega
   simp only[convert,Z0,ZZ hs,ZZ hd,ZQ,ZZ hue,Conv.stringToBytes,eG,UA,Wo,Tn,newRow,run_newObj,aak];simp only[markStringish,Z0,run_shape];have Tb:World.shape? {heap:=w.drew.heap.push (Obj.cells ⟨vs++rest⟩ e),tape:=w.drew.tape,drawn:=w.drew.drawn,os:=w.drew.os,output:=w.drew.output} w.drew.heap.size=some (e,nc):=Y7;simp only[Tb,ZQ,run_freeze];rfl
  ·intro b e2 k2 hb Sz;have TM:=h1.dU b e2 k2 hb Sz;by_cases hbl:b=h.length
   ·subst hbl;rw[h0']at hb;cases hb;simp at Sz;subst Sz;obtain⟨cc,el,fz,hh,h3,h4,h5,h6⟩:=TM;have hWh':W.heap[w.heap.size]? =some (.cells cc el fz):=hh;rw[hWh]at hWh';cases hWh';refine⟨⟨vs++rest⟩,e,(nc,nc+1),hW',h3,h4,λ_=>⟨(h5 rfl).1,λi hi=>?_⟩,h6⟩;have:(⟨vs++rest⟩:Array Value).size=nc:=by simp[Tp,T4];omega
    simp only;omega
   ·by_cases hl:k2.live=true
    ·exact TM.heap (hother _ (hne b e2 k2 hb hbl Sz hl))
    ·exact HN
 ·rename_i e hs hd;split at hk
  case isFalse=>cases hk
  rename_i he;have hue:P.underlying e=some (.int .u8):=zy he;cases hk;simp only[ku]at hf;split at hf
  ·rename_i hρ;rw[hρ,VR]at hx;subst hx;cases hf;exact same (by simp[convert,ZZ hs,ZZ hd,ZZ hue,Conv.bytesToString];rfl) rfl rfl
  ·rename_i b o n es hρ;rw[hρ]at hx;split at hf
   case h_2=>cases hf
   rename_i l k hc;split at hf
   case h_2=>cases hf
   rename_i r hl;cases hf;obtain⟨hlen,Uf,hone,SG⟩:=cO hr hx hc;obtain⟨vs,Tu,SA⟩:=SG k (ZO _);rw[aal Om]at SA;have hkn:k=n:=by
    unfold cellsIn at hc;simp only at hc;split at hc
    ·split at hc
     ·split at hc
      ·cases hc;rfl
      ·cases hc
     ·cases hc
    ·cases hc
   subst hkn;obtain⟨en,ca,cap,Th,rfl,SX,Ti,hroom⟩:=hx;simp only[Builtin.firstCells,abM]at Tu;refine same (cv:=.string ⟨⟨r⟩⟩) ?_ rfl rfl;have hb:=wY (P:=P) (w:=w) SA hl ByteArray.empty;simp only[convert,Z0,ZZ hs,ZZ hd,ZQ,ZZ hue,Conv.bytesToString,Tu];rw[<-Array.forIn_toList]
   erw [hb]
   simp
  ·cases hf
 ·cases hk
theorem wM:∀{l}{vs}{x v}{cx},VR m x cx->cK m l vs->iH qh x l=some v->∃cv,(vs.foldlM (m:=Sem) Builtin.max2 cx).run P w=.ok cv w/\VR m v cv
 |[],vs,x,v,cx,hx,hl,hf=>by
  exact Ki
 |y::l,vs,x,v,cx,hx,hl,hf=>by
  obtain⟨cy,vs',rfl,hy,SI⟩:=aQ.1 hl;simp only[iH]at hf;split at hf
  case h_2=>cases hf
  rename_i z hz;unfold qh at hz;split at hz
  case h_2=>cases hz
  rename_i k a k' b;split at hz
  case isFalse=>cases hz
  cases hz;rw[VR]at hx hy;subst hx;subst hy;obtain⟨cv,h1,h2⟩:=wM (x:=.int k (if b > a then b else a)) (cx:=.int k (if b > a then b else a)) rfl SI hf;exact⟨cv,by simp only[List.foldlM_cons,Z0,Builtin.max2,aak,ZQ];exact h1,h2⟩
theorem wL:∀{l}{vs}{x v}{cx},VR m x cx->cK m l vs->iH qe x l=some v->∃cv,(vs.foldlM (m:=Sem) Builtin.min2 cx).run P w=.ok cv w/\VR m v cv
 |[],vs,x,v,cx,hx,hl,hf=>by
  exact Ki
 |y::l,vs,x,v,cx,hx,hl,hf=>by
  obtain⟨cy,vs',rfl,hy,SI⟩:=aQ.1 hl;simp only[iH]at hf;split at hf
  case h_2=>cases hf
  rename_i z hz;unfold qe at hz;split at hz
  case h_2=>cases hz
  rename_i k a k' b;split at hz
  case isFalse=>cases hz
  cases hz;rw[VR]at hx hy;subst hx;subst hy;obtain⟨cv,h1,h2⟩:=wL (x:=.int k (if b<a then b else a)) (cx:=.int k (if b<a then b else a)) rfl SI hf;exact⟨cv,by simp only[List.foldlM_cons,Z0,Builtin.min2,aak,ZQ];exact h1,h2⟩
def Ch{t e:TypeId}{i:TypeInfo}{n:Nat}{z:AV}{ps:Array (Nat×Operand)}{l:List (Nat×cZ)}{σ:Operand->Value}(hs:ed P t=some (e,i))(hz:jG P e=some z)
  (hl:ps.toList.mapM (λp=>(cV p.2).map λy=>(p.1*i.size,y))=some l) (hspos:0<i.size) (hzs:z.cells.length=i.size) (h1:z.cells.all AV.one=true) (hn:n*i.size<=2^24)
  (hr:HR P m h w) (hρ:∀p∈ps.toList,∀y,cV p.2=some y->VR m (ρ y) (σ p.2)) {c:List AV}(hf:eT (dO n z.cells) (l.map λp=>(p.1,i.size,ρ p.2))=some c) (hc1:c.all AV.one=true) (hcl:c.length=n*i.size) (mu tl:Bool):
  ∃cv w' m',(Instr.buildSlice t n (ps.map λ(i,x)=>(i,σ x))).run P w=.ok cv w'/\VR m' (.slice h.length 0 n i.size) cv/\HR P m' (h++[.cells c mu tl]) w'/\Grow m h w m' (h++[.cells c mu tl]) w':=by
 have _:=h1;obtain⟨hu,hi⟩:=fA hs;obtain⟨cz,Vg,VM⟩:=jZ hz w m;have hzc:=VM.cells;have eG:cz.cells.size=z.cells.length:=by have:=hzc.length;simpa using this
 have hzero:∀(row:Array Value),row=(Array.range (n*cz.cells.size)).map (cz.cells[·% cz.cells.size]!)->cK m (dO n z.cells) row.toList:=by
  intro row hrow;have:=sX hzc Om n n (ZO _);rw[<-hrow,aal]at this
  ·exact this
  ·rw[hrow];simp[eG]
 have Zb:∀(qs:List (Nat×Operand)) (l:List (Nat×cZ)),qs.mapM (λp=>(cV p.2).map λy=>(p.1*i.size,y))=some l->qs.length=l.length/\∀(j:Nat) p q,qs[j]? =some p->l[j]? =some q->q.1=p.1*i.size/\cV p.2=some q.2:=by
  intro qs
  induction qs with
  |nil=>intro l hl;simp at hl;subst hl;exact⟨rfl,λj p q hp=>by simp at hp⟩
  |cons p qs ih=>
   intro l hl;simp only[ab2,abL,ab9]at hl;cases ho:cV p.2 with
   |none=>simp[ho]at hl
   |some y=>
    cases hr':qs.mapM (λp=>(cV p.2).map λy=>(p.1*i.size,y))with
    |none=>simp[ho,hr']at hl
    |some l'=>
     simp[ho,hr']at hl;subst hl;obtain⟨h2,h3⟩:=ih l' hr';refine⟨by simp[h2],λj a b ha hb=>?_⟩;cases j with
     |zero=>simp at ha hb;subst ha;subst hb;exact⟨rfl,ho⟩
     |succ j=>exact h3 j a b (by simpa using ha) (by simpa using hb)
 obtain⟨U5,hpq⟩:=Zb _ _ hl;by_cases Xj:n*i.size=0
 ·have hnz:n=0:=by
   rcases Nat.mul_eq_zero.1 Xj with h|h
   ·exact h
   ·omega
  obtain⟨Tj,TO,Tu⟩:=qP (m:=m) (λj=>some (j*i.size,i.size)) (ps.toList.map λp=>(p.1,σ p.2)) (l.map λp=>(p.1,i.size,ρ p.2)) (dO n z.cells) #[] c (by simp[U5])
   (λj p q hp hq=>by
    simp only[aa8,Z2]at hp hq;obtain⟨p0,hp0,rfl⟩:=hp;obtain⟨q0,hq0,rfl⟩:=hq;obtain⟨h2,h3⟩:=hpq j p0 q0 hp0 hq0;exact⟨by simp[h2],hρ p0 (aaz hp0) _ h3⟩) (by subst hnz;simp[dO,bB]) hf
  obtain⟨m',h2,h3,h4⟩:=lX hr Tu hc1 e mu tl;have Tp:=Tu.length;refine⟨.slice (some ⟨w.heap.size,0,none⟩) n n,_,m',?_,⟨_,_,n,h2,rfl,ZO _,λ_=>rfl,by show 0+0+n*i.size<=Tj.toList.length;omega⟩,h3,h4⟩;have SM:¬(n*i.size > 2^24):=Om
  have SO:(sizeOf e).run P w=.ok i.size w:=bZ (by simp[dZ,hi]) w;have e0:(Array.range 0).map (λx=>(#[] :Array Value)[x%(#[] :Array Value).size]!)=#[]:=Si
  simp only[Instr.buildSlice,Z0,ZZ hu,ZQ,SO,SM,ZY];simp only[Xj,Z1,Z0,ZQ,aak,e0];exact K4
 ·obtain⟨Tj,TO,Tu⟩:=qP (m:=m) (λj=>some (j*i.size,i.size)) (ps.toList.map λp=>(p.1,σ p.2)) (l.map λp=>(p.1,i.size,ρ p.2)) (dO n z.cells) ((Array.range (n*i.size)).map (cz.cells[·% cz.cells.size]!)) c (by simp[U5])
   (λj p q hp hq=>by
    simp only[aa8,Z2]at hp hq;obtain⟨p0,hp0,rfl⟩:=hp;obtain⟨q0,hq0,rfl⟩:=hq;obtain⟨h2,h3⟩:=hpq j p0 q0 hp0 hq0;exact⟨by simp[h2],hρ p0 (aaz hp0) _ h3⟩) (hzero _ (by rw[eG,hzs])) hf
  obtain⟨m',h2,h3,h4⟩:=lX hr Tu hc1 e mu tl;have Tp:=Tu.length;refine⟨.slice (some ⟨w.heap.size,0,none⟩) n n,_,m',?_,⟨_,_,n,h2,rfl,ZO _,λ_=>rfl,by show 0+0+n*i.size<=Tj.toList.length;omega⟩,h3,h4⟩;have SM:¬(n*i.size > 2^24):=Om
  have SO:(sizeOf e).run P w=.ok i.size w:=bZ (by simp[dZ,hi]) w;simp only[Instr.buildSlice,Z0,ZZ hu,ZQ,SO,SM,ZY,Xj,aak,Vg];exact K4
def wS{op}{t:TypeId}{x y xs ys}(hm:P.eqGuardType P.depth t=false):(eqGuard op t x y (.agg xs) (.agg ys)).run P w=.ok () w:=by
 cases op<;>simp[eqGuard,run_program,hm]
def kR{op}{t:TypeId}{x y a b}(h1:∀l,a≠.agg l)(h2:a≠.nilIface):(eqGuard op t x y a b).run P w=.ok () w:=by
 cases op<;>cases a<;>first
  |rfl
  |exact absurd rfl h2
  |exact absurd rfl (h1 _)
def VR.L1{x cx}(hx:VR m x cx)(h1:x.one=true):(∀l,cx≠.agg l)/\cx≠.nilIface:=by
 have hc:=hx.ud h1;refine⟨λl e=>?_,λe=>?_⟩
 ·subst e;cases hc
 ·subst e;cases x<;>simp[VR,AV.one]at hx h1
def ED{t:TypeId}{e:TypeId}(hu:P.underlying t=some (.slice e)){x y cx cy b}(hx:VR m x cx)(hy:VR m y cy)(hb:P7 x y=some b)(d:Nat):
  (Op.equalIn (d+1) t cx cy).run P w=.ok b w/\(∀l,cx≠.agg l)/\cx≠.nilIface/\(binOp .eql t cx cy=do pure (.bool (<-Op.equal t cx cy)))/\(binOp .neq t cx cy=do pure (.bool (!(<-Op.equal t cx cy)))):=by
 unfold P7 at hb;split at hb
 ·rw[VR]at hx hy;subst hx;subst hy;cases hb;exact Bw
 ·rw[VR]at hx;obtain⟨_,ca,cap,_,rfl,_⟩:=hy;subst hx;cases hb;exact Bw
 ·rw[VR]at hy;obtain⟨_,ca,cap,_,rfl,_⟩:=hx;subst hy;cases hb;exact Bw
 ·cases hb
def EE{t:TypeId}{e:TypeId}(hu:P.underlying t=some (.pointer e)){x y cx cy b}(hx:VR m x cx)(hy:VR m y cy)(hb:P8 x y=some b)(d:Nat):
  (Op.equalIn (d+1) t cx cy).run P w=.ok b w/\(∀l,cx≠.agg l)/\cx≠.nilIface/\(binOp .eql t cx cy=do pure (.bool (<-Op.equal t cx cy)))/\(binOp .neq t cx cy=do pure (.bool (!(<-Op.equal t cx cy)))):=by
 unfold P8 at hb;split at hb
 ·rw[VR]at hx hy;subst hx;subst hy;cases hb;exact Bw
 ·rw[VR]at hx;obtain⟨_,_,rfl⟩:=hy;subst hx;cases hb;exact Bw
 ·rw[VR]at hy;obtain⟨_,_,rfl⟩:=hx;subst hy;cases hb;exact Bw
 ·cases hb
def EG{t:TypeId}{e f g}(hu:P.underlying t=some (.func e f g)){x y cx cy b}(hx:VR m x cx)(hy:VR m y cy)(hb:Qa x y=some b)(d:Nat):
  (Op.equalIn (d+1) t cx cy).run P w=.ok b w/\(∀l,cx≠.agg l)/\cx≠.nilIface/\(binOp .eql t cx cy=do pure (.bool (<-Op.equal t cx cy)))/\(binOp .neq t cx cy=do pure (.bool (!(<-Op.equal t cx cy)))):=by
 unfold Qa at hb;split at hb
 ·rw[VR]at hx hy;subst hx;subst hy;cases hb;exact Bw
 ·rw[VR]at hx;obtain⟨_,_,_,rfl,_⟩:=hy;subst hx;cases hb;exact Bw
 ·rw[VR]at hy;obtain⟨_,_,_,rfl,_⟩:=hx;subst hy;cases hb;exact Bw
 ·cases hb
def EF{t:TypeId}{e f:TypeId}(hu:P.underlying t=some (.map e f)){x y cx cy b}(hx:VR m x cx)(hy:VR m y cy)(hb:P9 x y=some b)(d:Nat):
  (Op.equalIn (d+1) t cx cy).run P w=.ok b w/\(∀l,cx≠.agg l)/\cx≠.nilIface/\(binOp .eql t cx cy=do pure (.bool (<-Op.equal t cx cy)))/\(binOp .neq t cx cy=do pure (.bool (!(<-Op.equal t cx cy)))):=by
 unfold P9 at hb;split at hb
 ·rw[VR]at hx hy;subst hx;subst hy;cases hb;exact Bw
 ·rw[VR]at hx;obtain⟨_,_,rfl⟩:=hy;subst hx;cases hb;exact Bw
 ·rw[VR]at hy;obtain⟨_,_,rfl⟩:=hx;subst hy;cases hb;exact Bw
 ·cases hb
def G2{t:TypeId}{neg k x y ox oy cx cy}(hk:I9 P neg t x y=some (.eqv neg k x y))(hx:VR m (ρ x) cx)(hy:VR m (ρ y) cy)(hf:dx (.eqv neg k x y) ρ h=some (v,h')):
  ∃cv,(do eqGuard (if neg then .neq else .eql) t ox oy cx cy;binOp (if neg then .neq else .eql) t cx cy:Sem Value).run P w=.ok cv w/\VR m v cv/\h' =h:=by
 simp only[dx]at hf;split at hf
 case h_2=>cases hf
 rename_i b hb;cases hf;have fin:(eqGuard (if neg then .neq else .eql) t ox oy cx cy).run P w=.ok () w->(Op.equalIn 10000 t cx cy).run P w=.ok b w->(binOp .eql t cx cy=do pure (.bool (<-Op.equal t cx cy)))->(binOp .neq t cx cy=do pure (.bool (!(<-Op.equal t cx cy))))->
   ∃cv,(do eqGuard (if neg then .neq else .eql) t ox oy cx cy;binOp (if neg then .neq else .eql) t cx cy:Sem Value).run P w=.ok cv w/\VR m (.bool (if neg then !b else b)) cv/\h=h:=by
  intro h1 h2 h3 h4;refine⟨.bool (if neg then !b else b),?_,rfl,rfl⟩;simp only[Z0,h1,ZQ];cases neg
  ·simp only[aav,ZY,h3,Z0,Op.equal,Op.maxDepth,h2,ZQ,aak]
  ·simp only[Z1,h4,Z0,Op.equal,Op.maxDepth,h2,ZQ,aak]
 unfold I9 at hk;split at hk<;>first
  |(cases hk;done)
  |skip
 ·rename_i hu;cases hk;have hb':cY .b (ρ x) (ρ y)=some b:=hb;have hone:(ρ x).one=true:=by unfold cY at hb';split at hb'<;>first|(cases hb';done)|simp_all [AV.one]
  obtain⟨n1,n2⟩:=hx.L1 hone;obtain⟨a,c,hxa,Ub⟩:∃a c,ρ x=.bool a/\ρ y=.bool c:=by unfold cY at hb';split at hb'<;>first|(cases hb';done)|simp_all
  rw[hxa,VR]at hx;rw[Ub,VR]at hy;subst hx;subst hy;refine fin (kR n1 n2) ?_ rfl rfl;exact rq (m:=m) (t:=t) (k:=.b) hu (x:=.bool a) (y:=.bool c) rfl rfl (by rw[<-hxa,<-Ub];exact hb') 9999
 ·rename_i fs hu;exact z21
 ·rename_i n e hu;exact z21
 ·rename_i e hu;cases hk;obtain⟨h1,h2,h3,h4,h5⟩:=ED (w:=w) hu hx hy hb 9999;exact z138
 ·rename_i e hu;cases hk;obtain⟨h1,h2,h3,h4,h5⟩:=EE (w:=w) hu hx hy hb 9999;exact z138
 ·rename_i hu;cases hk;obtain⟨h1,h2,h3,h4,h5⟩:=EG (w:=w) hu hx hy hb 9999;exact z138
 ·rename_i hu;cases hk;obtain⟨h1,h2,h3,h4,h5⟩:=EF (w:=w) hu hx hy hb 9999;exact z138
end
def mY(k:pv)(ρ:cZ->AV)(h:ah)(v:AV)(h':ah):Prop:=
 match k with
 |.call _ _=>False
 |.app es w x y=>xE es w (ρ x) (ρ y) h v h'
 |.ba es n z ps=>∃c mu tl,eT (dO n z) (ps.map λp=>(p.1,es,ρ p.2))=some c/\c.all AV.one=true/\c.length=n*es/\v=.slice h.length 0 n es/\h' =h++[.cells c mu tl]
 |k=>dx k ρ h=some (v,h')
section
variable {P:Program}{m:bY}{h h':ah}{w:World}{ρ:cZ->AV}{v:AV}{σ:Operand->Value}
def e9.nQ{r:Result Value}(hr:HR P m h w)(hx:∃cv,r=.ok cv w/\VR m v cv/\h' =h){R:Result Next}(hR:∀cv,r=.ok cv w->R=.ok (.value cv) w):e9 P m h w v h' R:=by
 obtain⟨cv,h1,h2,rfl⟩:=hx;exact e9.same hr h2 (hR cv h1)
def e9.Ah{r:Result Value}(hx:∃cv w' m',r=.ok cv w'/\VR m' v cv/\HR P m' h' w'/\Grow m h w m' h' w'){R:Result Next}(hR:∀cv w',r=.ok cv w'->R=.ok (.value cv) w'):e9 P m h w v h' R:=by
 obtain⟨cv,w',m',h1,h2,h3,h4⟩:=hx;exact⟨cv,w',m',.inl (hR cv w' h1),h2,h3,h4⟩
def oa{l l'}(hl:zi l=some l')(hρ:∀x∈l,∀x',cV x=some x'->VR m (ρ x') (σ x)):cK m (l'.map ρ) (l.map σ).toList:=by
 have key:∀(l:List Operand) (l':List cZ),l.mapM cV=some l'->(∀x∈l,∀x',cV x=some x'->VR m (ρ x') (σ x))->cK m (l'.map ρ) (l.map σ):=by
  intro l
  induction l with
  |nil=>intro l' h _;simp at h;subst h;exact bB.2 rfl
  |cons x l ih=>
   intro l' h hρ;simp only[ab2,abL,ab9]at h;cases hx:cV x with
   |none=>simp[hx]at h
   |some y=>
    cases hl:l.mapM cV with
    |none=>simp[hx,hl]at h
    |some l2=>
     simp[hx,hl]at h;subst h;exact aQ.2 ⟨_,_,rfl,hρ x Si y hx,ih l2 hl (λx' SC=>hρ x' (by simp[SC]))⟩
 have:=key l.toList l' hl (λx hx=>hρ x (by simpa using hx))
 simpa using this
def rA{lo lo'}(hl:vH lo=some lo')(hρ:∀x∈lo,∀x',cV x=some x'->VR m (ρ x') (σ x)):
  pt m ρ lo' (lo.map σ):=by
 cases lo with
 |none=>simp[vH]at hl;subst hl;trivial
 |some x=>
  simp only[vH,Z2]at hl;obtain⟨y,hy,rfl⟩:=hl;exact hρ x rfl y hy
def LB{op}{t:TypeId}{x y ox oy cx cy}(hr:HR P m h w)(hx:VR m (ρ x) cx)(hy:VR m (ρ y) cy)(hf:dx (.bin op x y) ρ h=some (v,h')):
  ∃cv w' m',(do eqGuard op t ox oy cx cy;binOp op t cx cy:Sem Value).run P w=.ok cv w'/\VR m' v cv/\HR P m' h' w'/\Grow m h w m' h' w':=by
 simp only[dx]at hf;split at hf
 case h_2=>cases hf
 rename_i u hu;cases hf;have fin:∀{cv:Value},(eqGuard op t ox oy cx cy).run P w=.ok () w->(binOp op t cx cy).run P w=.ok cv w->VR m v cv->
   ∃cv w' m',(do eqGuard op t ox oy cx cy;binOp op t cx cy:Sem Value).run P w=.ok cv w'/\VR m' v cv/\HR P m' h w'/\Grow m h w m' h w':=by
  intro cv h1 h2 h3;exact⟨cv,w,m,by simp only[Z0,h1,ZQ,h2],h3,hr,Grow.refl m h w hr.cN⟩
 unfold eF at hu;split at hu
 ·rename_i k a k' b Tt YR;rw[Tt,VR]at hx;rw[YR,VR]at hy;subst hx;subst hy;have hg:(eqGuard op t ox oy (.int k a) (.int k' b)).run P w=.ok () w:=kR (λl=>by simp) Si;split at hu
  ·rename_i hs;obtain⟨cv,h1,h2⟩:=xU (P:=P) (m:=m) (w:=w) (k':=k') hs hu t;exact fin hg h1 h2
  ·rename_i hs;split at hu
   case isFalse=>cases hu
   rename_i hk;subst hk;obtain⟨cv,h1,h2⟩:=xW (P:=P) (m:=m) (w:=w) (by simpa using hs) hu t;exact fin hg h1 h2
 ·rename_i a b Tt YR;rw[Tt,VR]at hx;rw[YR,VR]at hy;subst hx;subst hy;obtain⟨cv,h1,h2⟩:=xS (P:=P) (m:=m) (w:=w) hu t;exact fin (kR (λl=>by simp) Si) h1 h2
 ·cases hu
def sQ{b ts l k TP}(hk:oS P b ts l=some k)(hargs:cK m (l.map ρ) TP.toList)(hr:HR P m h w)(hs:mY k ρ h v h')(T:TypeId)(cs:Array Bool):
  ∃cv w' m',(builtin b ts T cs TP).run P w=.ok (.value cv) w'/\VR m' v cv/\HR P m' h' w'/\Grow m h w m' h' w':=by
 have same:∀{cv:Value},(builtin b ts T cs TP).run P w=.ok (.value cv) w->VR m v cv->h' =h->∃cv w' m',(builtin b ts T cs TP).run P w=.ok (.value cv) w'/\VR m' v cv/\HR P m' h' w'/\Grow m h w m' h' w':=by
  intro cv h1 h2 h3;exact Kn
 have args1:∀{x:cZ},cK m [ρ x] TP.toList->∃cx,TP=#[cx]/\VR m (ρ x) cx:=by
  intro x h1;obtain⟨cx,r,XQ,Vx,VP⟩:=aQ.1 h1;rw[bB]at VP;subst VP;exact⟨cx,by apply ab4;rw[XQ],Vx⟩
 have YB:∀{x y:cZ},cK m [ρ x,ρ y] TP.toList->∃cx cy,TP=#[cx,cy]/\VR m (ρ x) cx/\VR m (ρ y) cy:=by
  intro x y h1;obtain⟨cx,r,XQ,Vx,VP⟩:=aQ.1 h1;obtain⟨cy,r',hcy,hvy,hr1⟩:=aQ.1 VP;rw[bB]at hr1;subst hr1;subst hcy;exact⟨cx,cy,by apply ab4;rw[XQ],Vx,hvy⟩
 unfold oS at hk;split at hk
 ·
  rename_i x;obtain⟨cx,rfl,hx⟩:=args1 hargs;have uo:∀(lk:LK) (t0:TypeId) (d:TypeDesc),ts[0]? =some t0->P.underlying t0=some d->(match lk with|.sl=>∃e,d=.slice e|.st=>d=.string|.mp=>∃a b,d=.map a b)->dx (.len lk x) ρ h=some (v,h')->
    ∃cv w' m',(builtin .len ts T cs #[cx]).run P w=.ok (.value cv) w'/\VR m' v cv/\HR P m' h' w'/\Grow m h w m' h' w':=by
   intro lk t0 d UH hu hd Sx;simp only[dx]at Sx;split at Sx
   case h_2=>cases Sx
   rename_i n hn;cases Sx;have go:(Builtin.len_ ts T #[cx]).run P w=.ok (.int .i64 n) w:=by
    unfold AK at hn;split at hn
    ·rename_i s hρ;rw[hρ,VR]at hx;subst hx;split at hn
     case isFalse=>cases hn
     rename_i UM;subst UM;cases hn;cases hd;have:(⟨⟨s⟩⟩:ByteArray).size=s.length:=rfl;simp[Builtin.len_,UH,ZZ hu,goInt,this]
    ·rename_i b o n' es hρ;rw[hρ]at hx;obtain⟨_,ca,cap,_,rfl,_⟩:=hx;exact K9
    ·rename_i hρ;rw[hρ,VR]at hx;subst hx;exact K9
    ·rename_i r hρ;rw[hρ]at hx;obtain⟨e,he,rfl⟩:=hx;split at hn
     case h_2=>cases hn
     rename_i es hb;split at hn
     case isFalse=>cases hn
     rename_i UM;subst UM;cases hn;obtain⟨a,b,rfl⟩:=hd;obtain⟨_,UD,clock,hheap,hlen,_⟩:=hr.dU r e _ he hb;simp[Builtin.len_,UH,ZZ hu,goInt,kK hheap rfl,hlen]
    ·rename_i hρ;rw[hρ,VR]at hx;subst hx;split at hn
     case isFalse=>cases hn
     rename_i UM;subst UM;cases hn;obtain⟨a,b,rfl⟩:=hd;simp[Builtin.len_,UH,ZZ hu,goInt]
    ·cases hn
   exact⟨.int .i64 n,w,m,by simp only[builtin,Z0,go,ZQ,aak],rfl,hr,Grow.refl m h w hr.cN⟩
  split at hk
  ·rename_i e hd;cases hk;obtain⟨t0,UH,Vp⟩:=aaI.1 hd;exact uo .sl t0 _ UH Vp ⟨e,rfl⟩ hs
  ·rename_i hd;cases hk;obtain⟨t0,UH,Vp⟩:=aaI.1 hd;exact uo .st t0 _ UH Vp rfl hs
  ·rename_i a b hd;cases hk;obtain⟨t0,UH,Vp⟩:=aaI.1 hd;exact uo .mp t0 _ UH Vp ⟨a,b,rfl⟩ hs
  ·rename_i n e hd;cases hk;obtain⟨t0,UH,Vp⟩:=aaI.1 hd;have Sx:dx (.AJ n) ρ h=some (v,h'):=hs;simp only[dx,aaa,abY]at Sx;obtain⟨rfl,rfl⟩:=Sx;exact same (cv:=.int .i64 n) (by simp[builtin,Builtin.len_,UH,ZZ Vp,goInt]) rfl rfl
  ·cases hk
 ·
  rename_i x y;obtain⟨cx,cy,rfl,hx,hy⟩:=YB hargs;have appF:∀(e:TypeId) (i:TypeInfo) (d:TypeDesc),(ts[0]?).bind (ed P)=some (e,i)->(ts[1]?).bind P.underlying=some d->(∀k,d≠.int k)->
    (if 0<i.size/\0<i.bytes/\i.bytes<=2^20 then(i.zero.bind (mN 4)).bind λz=>if z.cells.length=i.size then some (pv.app i.size i.bytes x y)else none else none)=some k->
    ∃cv w' m',(builtin .append ts T cs #[cx,cy]).run P w=.ok (.value cv) w'/\VR m' v cv/\HR P m' h' w'/\Grow m h w m' h' w':=by
   intro e i d h0 h1 hd hk;obtain⟨sT,hts0,hsl⟩:=aaI.1 h0;obtain⟨xT,hts1,hud⟩:=aaI.1 h1;split at hk
   case isFalse=>cases hk
   rename_i hc;obtain⟨c1,c2,c3⟩:=hc;obtain⟨z,hz,hk⟩:=aaI.1 hk;split at hk
   case isFalse=>cases hk
   rename_i hzl;cases hk;obtain⟨cv,w',m',h2,h3,h4,h5⟩:=LC (w:=w) hts0 hts1 hsl c1 c2 c3 hud hd hz hzl hr hx hy hs T;exact⟨cv,w',m',by simp only[builtin,Z0,h2,ZQ,aak],h3,h4,h5⟩
  split at hk
  ·rename_i e i e2 h0 h1;exact appF e i _ h0 h1 (λk=>by simp) hk
  ·rename_i e i h0 h1;exact appF e i _ h0 h1 (λk=>by simp) hk
  ·cases hk
 ·
  rename_i x y;obtain⟨cx,cy,rfl,hx,hy⟩:=YB hargs;split at hk
  case h_2=>cases hk
  rename_i e i h0;split at hk
  case isFalse=>cases hk
  rename_i hpos;cases hk;obtain⟨dT,hts0,hsl⟩:=aaI.1 h0;obtain⟨cv,w',m',h2,h3,h4,h5⟩:=LA (w:=w) hts0 hsl hpos hr hx hy hs T;exact⟨cv,w',m',by simp only[builtin,Z0,h2,ZQ,aak],h3,h4,h5⟩
 ·
  rename_i x l;cases hk;have Sx:dx (.mx x l) ρ h=some (v,h'):=hs;simp only[dx]at Sx;split at Sx
  case h_2=>cases Sx
  rename_i u hu;cases Sx;obtain⟨cx,r,XQ,Vx,SA⟩:=aQ.1 hargs;obtain⟨cv,h1,h2⟩:=wM (P:=P) (w:=w) Vx SA hu;exact same (by simp only[builtin,Builtin.max_,XQ,Z0,h1,ZQ,aak]) h2 rfl
 ·
  rename_i x l;cases hk;have Sx:dx (.mn x l) ρ h=some (v,h'):=hs;simp only[dx]at Sx;split at Sx
  case h_2=>cases Sx
  rename_i u hu;cases Sx;obtain⟨cx,r,XQ,Vx,SA⟩:=aQ.1 hargs;obtain⟨cv,h1,h2⟩:=wL (P:=P) (w:=w) Vx SA hu;exact same (by simp only[builtin,Builtin.min_,XQ,Z0,h1,ZQ,aak]) h2 rfl
 ·cases hk
def xO{o:Oper}{k:pv}(hc:ep P o=some k)(hρ:∀x∈o.op.operands,∀x',cV x=some x'->VR m (ρ x') (σ x))(hcst:∀z,ρ (.c z)=z)(hr:HR P m h w)(hs:mY k ρ h v h'):
  e9 P m h w v h' ((execOp σ o).run P w):=by
 unfold ep at hc;cases Sy:o.op with
 |move x=>
  exact Rq
 |assign x=>
  exact Rq
 |pick c a b=>
  simp only[Sy]at hc;split at hc
  case h_2=>cases hc
  rename_i c' a' b' TX XS hb';cases hc;have Sx:dx (.pick c' a' b') ρ h=some (v,h'):=hs;simp only[dx]at Sx;split at Sx
  case h_2=>cases Sx
  rename_i t ht;cases Sx;have h1:=hρ c (by simp[Sy,Op.operands]) c' TX;rw[ht,VR]at h1;refine e9.same (cv:=if t then σ a else σ b) hr ?_ (by simp[execOp,Sy,h1,asBool]);cases t
  ·exact hρ b (by simp[Sy,Op.operands]) b' hb'
  ·exact hρ a (by simp[Sy,Op.operands]) a' XS
 |alloc e=>
  simp only[Sy]at hc;split at hc
  case h_2=>cases hc
  rename_i z hz;split at hc
  case isFalse=>cases hc
  rename_i h1;cases hc;have Sx:dx (.box (.c z)) ρ h=some (v,h'):=hs;simp only[dx,hcst,h1,Z1,aaa,abY]at Sx;obtain⟨rfl,rfl⟩:=Sx;obtain⟨cz,Vg,VM⟩:=jZ hz w m;obtain⟨m',h2,h3,h4,h5⟩:=tv hr VM h1 e true false;exact⟨_,_,m',.inl (by simp only[execOp,Sy,Instr.alloc,Z0,Vg,ZQ,h2,aak]),h3,h4,h5⟩
 |box e x=>
  simp only[Sy,Z2]at hc;obtain⟨x',SC,rfl⟩:=hc;have Sx:dx (.box x') ρ h=some (v,h'):=hs;simp only[dx]at Sx;split at Sx
  case isFalse=>cases Sx
  rename_i h1;cases Sx;obtain⟨m',h2,h3,h4,h5⟩:=tv hr (hρ x (by simp[Sy,Op.operands]) x' SC) h1 e true false;exact⟨_,_,m',.inl (by simp only[execOp,Sy,Instr.box,Z0,ZQ,h2,aak]),h3,h4,h5⟩
 |build t ps=>
  simp only[Sy]at hc;split at hc
  case h_2=>cases hc
  rename_i z l hz hl;split at hc
  case isFalse=>cases hc
  rename_i hp;cases hc;have Sx:dx (.build z.cells l) ρ h=some (v,h'):=hs;exact e9.nQ hr (EB (w:=w) (σ:=σ) hz hl hp (λp hp y hy=>hρ p.2 (by simp only[Sy,Op.operands];simp only[List.mem_toArray,Z3];exact⟨p,hp,rfl⟩) y hy) Sx) (λcv h=>by simp[execOp,Sy,h])
 |buildSlice t n ps=>
  simp only[Sy]at hc;split at hc
  case h_2=>cases hc
  rename_i e i hsl;split at hc
  case h_2=>cases hc
  rename_i z l hz hl;split at hc
  case isFalse=>cases hc
  rename_i SQ;obtain⟨h1,h2,h3,h4⟩:=SQ;cases hc;obtain⟨c,mu,tl,TO,hc1,hcl,rfl,rfl⟩:=hs;exact e9.Ah (Ch (w:=w) (σ:=σ) hsl hz hl h1 h2 h3 h4 hr (λp hp y hy=>hρ p.2 (by simp only[Sy,Op.operands];simp only[List.mem_toArray,Z3];exact⟨p,hp,rfl⟩) y hy) TO hc1 hcl mu tl) (λcv w' h=>by simp[execOp,Sy,h])
 |load t a=>
  simp only[Sy]at hc;split at hc
  case h_2=>cases hc
  rename_i n a' hn XS;cases hc;exact e9.nQ hr (Cg hn hr (hρ a (by simp[Sy,Op.operands]) a' XS) hs) (λcv h=>by simp[execOp,Sy,h])
 |store t a x=>
  simp only[Sy]at hc;split at hc
  case h_2=>cases hc
  rename_i n a' x' hn XS SC;cases hc;obtain⟨w',h1,rfl,h2,h3⟩:=Ey (w:=w) hn hr (hρ a (by simp[Sy,Op.operands]) a' XS) (hρ x (by simp[Sy,Op.operands]) x' SC) hs;exact⟨undef,w',m,.inr ⟨by simp[execOp,Sy,h1],rfl⟩,j5 m,h2,h3⟩
 |nilCheck x=>
  simp only[Sy,Z2]at hc;obtain⟨x',SC,rfl⟩:=hc;have Sx:dx (.bQ x') ρ h=some (v,h'):=hs;have h1:=hρ x (by simp[Sy,Op.operands]) x' SC;simp only[dx]at Sx;split at Sx
  ·rename_i b o hv;cases Sx;rw[hv]at h1;have h1':=h1;obtain⟨e,he,h2⟩:=h1;exact e9.same hr h1' (by simp[execOp,Sy,h2])
  ·rename_i f a c hv;exact N7
  ·rename_i f a c hv;cases Sx;rw[hv]at h1;have h1':=h1;obtain⟨f',a',c',h2,h3,_⟩:=h1;obtain⟨e,he,rfl⟩:=h3;exact e9.same hr h1' (by simp[execOp,Sy,h2])
  ·rename_i t' n a c hv;exact N7
  ·rename_i t' p f q a c hv;exact N7
  ·cases Sx
 |binOp op t x y ty=>
  simp only[Sy]at hc;split at hc
  case h_2=>cases hc
  rename_i x' y' SC hy';have hx:=hρ x (by simp[Sy,Op.operands]) x' SC;have hy:=hρ y (by simp[Sy,Op.operands]) y' hy';have bin:∀{op':BinOp},o.op=.binOp op' t x y ty->k=.bin op' x' y'->e9 P m h w v h' ((execOp σ o).run P w):=by
   intro op' ho hk;subst hk;exact e9.Ah (LB (op:=op') (t:=t) (ox:=x) (oy:=y) hr hx hy hs) (λcv w' h=>by simp only[execOp,ho];rw[Z0,h];rfl)
  have eqv:∀(neg:Bool),o.op=.binOp (if neg then .neq else .eql) t x y ty->I9 P neg t x' y' =some k->e9 P m h w v h' ((execOp σ o).run P w):=by
   intro neg ho hk;have hk0:=hk;unfold I9 at hk;split at hk
   ·cases hk;exact bin ho rfl
   ·cases hk;exact bin ho rfl
   ·cases hk;exact bin ho rfl
   ·exact z24
   ·exact Rl
   ·exact Rl
   ·exact z24
   ·exact z24
   ·exact z24
   ·exact z24
   ·cases hk
  split at hc
  ·exact eqv false Sy hc
  ·exact eqv true Sy hc
  ·cases hc;exact bin Sy rfl
 |unOp op t x=>
  simp only[Sy,Z2]at hc;obtain⟨x',SC,rfl⟩:=hc;have Sx:dx (.un op x') ρ h=some (v,h'):=hs;simp only[dx]at Sx;split at Sx
  case h_2=>cases Sx
  rename_i u hu;cases Sx;obtain⟨cv,h1,h2⟩:=EC (P:=P) (w:=w) (hρ x (by simp[Sy,Op.operands]) x' SC) hu;exact e9.same hr h2 (by simp[execOp,Sy,h1])
 |convert s d x=>
  simp only[Sy]at hc;split at hc
  case h_2=>cases hc
  rename_i ck x' TU SC;cases hc;exact e9.Ah (Ih TU hr (hρ x (by simp[Sy,Op.operands]) x' SC) hs) (λcv w' h=>by simp[execOp,Sy,h])
 |makeInterface u x=>
  simp only[Sy]at hc;split at hc
  ·cases hc
  ·rename_i d x' hni hd SC;cases hc;have Sx:dx (.conv (.uS u) x') ρ h=some (v,h'):=hs;simp only[dx,ku,aaa,abY]at Sx;obtain⟨rfl,rfl⟩:=Sx;have Vw:=hρ x (by simp[Sy,Op.operands]) x' SC;refine e9.same (cv:=.iface u (σ x)) hr ⟨_,rfl,Vw⟩ ?_;simp only[execOp,Sy,Instr.makeInterface,Z0,ZZ hd,ZQ];cases d<;>first|rfl|exact absurd rfl (hni _)
  ·cases hc
 |makeFunc fn a c=>
  simp only[Sy]at hc;split at hc
  case isFalse=>cases hc
  rename_i hfn;split at hc
  case h_2=>cases hc
  rename_i a' c' XS TX;cases hc;have Sx:dx (.uk fn a' c') ρ h=some (v,h'):=hs;simp only[dx,aaa,abY]at Sx;obtain⟨rfl,rfl⟩:=Sx;have h1:=oa (m:=m) (ρ:=ρ) (σ:=σ) XS (λx hx=>hρ x (by simp only[Sy,Op.operands];exact Array.mem_append.2 (.inl hx)));have h2:=oa (m:=m) (ρ:=ρ) (σ:=σ) TX (λx hx=>hρ x (by simp only[Sy,Op.operands];exact Array.mem_append.2 (.inr hx)));refine e9.same (cv:=.func fn (a.map σ) (c.map σ)) hr ⟨fn,(a.map σ).toList,(c.map σ).toList,rfl,?_,h1,h2⟩ (by simp[execOp,Sy,Instr.makeFunc]);cases fn<;>first
   |rfl
   |(cases hfn;done)
 |makeMap t r=>
  simp only[Sy]at hc;cases r with
  |some _=>simp at hc
  |none=>
   simp only[aaa]at hc;subst hc;have Sx:dx .lu ρ h=some (v,h'):=hs;simp only[dx,aaa,abY]at Sx;obtain⟨rfl,rfl⟩:=Sx;have Yp:=kC hr (.map #[] 0) (.aR []) ⟨w.heap.size,0,0,true⟩ rfl rfl (λm' _=>⟨rfl,#[],0,World.alloc_heap_new w _,rfl,λi p hp=>by simp at hp⟩);exact⟨.map (some w.heap.size),_,_,.inl (by simp[execOp,Sy,Instr.makeMap]),⟨⟨w.heap.size,0,0,true⟩,by simp[bY.add],rfl⟩,Yp.1,Yp.2⟩
 |makeSlice t l c=>
  simp only[Sy]at hc;split at hc
  case h_2=>cases hc
  rename_i e i l' c' hsl SI TX;split at hc
  case h_2=>cases hc
  rename_i z hz;split at hc
  case isFalse=>cases hc
  rename_i SQ;obtain⟨h1,h2,h3⟩:=SQ;cases hc;exact e9.Ah (Ia hsl hz h1 h2 h3 hr (hρ l (by simp[Sy,Op.operands]) l' SI) (hρ c (by simp[Sy,Op.operands]) c' TX) hs) (λcv w' h=>by simp[execOp,Sy,h])
 |slice t x lo hi mx=>
  simp only[Sy]at hc;cases mx with
  |some _=>simp at hc
  |none=>
   simp only at hc;split at hc
   case h_2=>cases hc
   rename_i x' lo' hi' SC hlo' hhi';have hx:=hρ x (by simp[Sy,Op.operands]) x' SC;have hlo:=rA (m:=m) (ρ:=ρ) (σ:=σ) hlo' (λy hy=>hρ y (by simp only[Sy,Op.operands];cases hy;simp));have hhi:=rA (m:=m) (ρ:=ρ) (σ:=σ) hhi' (λy hy=>hρ y (by simp only[Sy,Op.operands];cases hy;simp));split at hc
   ·rename_i hu;cases hc;exact e9.nQ hr (Lw hu hx hlo hhi hs) (λcv h=>by simp only[execOp,Sy,abW];rw[Z0,h];rfl)
   ·rename_i e hu;simp only[Z2]at hc;obtain⟨n,hn,rfl⟩:=hc;exact e9.nQ hr (OC hu hn hx hlo hhi hs) (λcv h=>by simp only[execOp,Sy,abW];rw[Z0,h];rfl)
   ·rename_i n e hu;simp only[Z2]at hc;obtain⟨es,hes,rfl⟩:=hc;exact e9.nQ hr (Lx hu hes hr hx hlo hhi hs) (λcv h=>by simp only[execOp,Sy,abW];rw[Z0,h];rfl)
   ·cases hc
 |fieldAddr t x i=>
  simp only[Sy]at hc;split at hc
  case h_2=>cases hc
  rename_i f x' hf SC;split at hc
  case h_2=>cases hc
  rename_i n hn;split at hc
  case isFalse=>cases hc
  rename_i hpos;cases hc;exact e9.nQ hr (Ig hf hn hpos (hρ x (by simp[Sy,Op.operands]) x' SC) hs) (λcv h=>by simp[execOp,Sy,h])
 |indexAddr t x i=>
  simp only[Sy]at hc;split at hc
  case h_2=>cases hc
  rename_i x' i' SC hi';have hx:=hρ x (by simp[Sy,Op.operands]) x' SC;have hi:=hρ i (by simp[Sy,Op.operands]) i' hi';split at hc
  ·rename_i e hu;simp only[Z2]at hc;obtain⟨n,hn,rfl⟩:=hc;exact e9.nQ hr (Ic hu hn hx hi hs) (λcv h=>by simp[execOp,Sy,h])
  ·rename_i len e hu;simp only[Z2]at hc;obtain⟨n,hn,rfl⟩:=hc;exact e9.nQ hr (Ie hu hn hx hi hs) (λcv h=>by simp[execOp,Sy,h])
  ·cases hc
 |field t x i=>
  simp only[Sy]at hc;split at hc
  case h_2=>cases hc
  rename_i f x' hf SC;simp only[Z2]at hc;obtain⟨n,hn,rfl⟩:=hc;exact e9.nQ hr (Ez hf hn (hρ x (by simp[Sy,Op.operands]) x' SC) hs) (λcv h=>by simp[execOp,Sy,h])
 |index t x i=>
  simp only[Sy]at hc;split at hc
  case h_2=>cases hc
  rename_i x' i' SC hi';have hx:=hρ x (by simp[Sy,Op.operands]) x' SC;have hi:=hρ i (by simp[Sy,Op.operands]) i' hi';split at hc
  ·rename_i hu;cases hc;exact e9.nQ hr (Ly hu hx hi hs) (λcv h=>by simp[execOp,Sy,h])
  ·rename_i len e hu;split at hc
   case h_2=>cases hc
   rename_i n q hn hq;cases hc;exact e9.nQ hr (Lz hu hn hq hx hi hs) (λcv h=>by simp[execOp,Sy,h])
  ·cases hc
 |lookup t x i ok=>
  simp only[Sy]at hc;split at hc
  case h_2=>cases hc
  rename_i kt e x' i' hu SC hi';split at hc
  case h_2=>cases hc
  rename_i kk z hkk hz;cases hc;exact e9.nQ hr (Ib hu hkk hz hr (hρ x (by simp[Sy,Op.operands]) x' SC) (hρ i (by simp[Sy,Op.operands]) i' hi') hs) (λcv h=>by simp[execOp,Sy,h])
 |mapUpdate t x i y=>
  exact Ru
 |insert t x i y=>
  exact Ru
 |range t x=>
  simp only[Sy]at hc;split at hc
  case h_2=>cases hc
  rename_i hu;simp only[Z2]at hc;obtain⟨x',SC,rfl⟩:=hc;exact e9.Ah (H8 hu hr (hρ x (by simp[Sy,Op.operands]) x' SC) hs) (λcv w' h=>by simp[execOp,Sy,h])
 |next x isS=>
  simp only[Sy]at hc;cases isS with
  |false=>simp at hc
  |true=>
   simp only[Z2]at hc;obtain⟨x',SC,rfl⟩:=hc;exact e9.Ah (EA (t:=o.type) hr (hρ x (by simp[Sy,Op.operands]) x' SC) hs) (λcv w' h=>by simp[execOp,Sy,h])
 |extract x i=>
  simp only[Sy,Z2]at hc;obtain⟨x',SC,rfl⟩:=hc;have Sx:dx (.ext x' i) ρ h=some (v,h'):=hs;simp only[dx]at Sx;split at Sx
  case h_2=>cases Sx
  rename_i l hl;split at Sx
  case h_2=>cases Sx
  rename_i u hu;cases Sx;have h1:=hρ x (by simp[Sy,Op.operands]) x' SC;rw[hl]at h1;obtain⟨l',h2,h3⟩:=h1;obtain⟨cv,Uy,SA⟩:=h3.get hu;exact e9.same hr SA (by simp[execOp,Sy,Instr.extract,h2,Uy])
 |call c=>
  simp only[Sy]at hc;split at hc
  case h_2=>cases hc
  rename_i l hl;have hargs:=oa (m:=m) (ρ:=ρ) (σ:=σ) hl (λx hx=>hρ x (by simp only[Sy,Op.operands,Call.operands];exact Array.mem_append.2 (.inr hx)));split at hc
  ·exact z152
  ·exact z152
  ·rename_i b hb;obtain⟨cv,w',m',h1,h2,h3,h4⟩:=sQ (w:=w) hc hargs hr hs o.type (c.args.map λ|.const _=>true|_=>false);refine⟨cv,w',m',.inl ?_,h2,h3,h4⟩;simp only[execOp,Sy,resolve,hb,Z0,aak,ZQ,invoke];exact h1
 |_=>simp[Sy]at hc
end
def Rel(P:Program)(m:bY)(h:ah)(w:World)(v:AV)(h':ah)(e:Ending)(w':World):Prop:=
 ∃cv m',e=.returned cv/\VR m' v cv/\HR P m' h' w'/\Grow m h w m' h' w'
def l9(P:Program)(f:FuncId)(args:List AV)(h:ah)(v:AV)(h':ah):Prop:=
 ∀(m:bY) (w:World) (vs:List Value),HR P m h w->cK m args vs->Calls P f ⟨vs⟩ w (Rel P m h w v h')
def D7(P:Program)(R:Ending->World->Prop):Result Next->Prop
 |.ok (.value cv) w'=>R (.returned cv) w'
 |.ok (.enter f args) w'=>CallsIn Fence.wide 0 P f args w' R
 |.ok (.round l f tmps asg body) w'=>RoundIn Fence.wide 0 P l f tmps asg body w' R
 |_=>False
def fu(P:Program)(fv:AV)(args:List AV)(h:ah)(v:AV)(h':ah):Prop:=
 ∀(m:bY) (w:World) (cv:Value) (vs:List Value),HR P m h w->VR m fv cv->cK m args vs->
  ∃d,(∀w,(Deferred.ofValue cv ⟨vs⟩).run P w=.ok d w)/\D7 P (Rel P m h w v h') ((invoke d.target d.args).run P w)
def pX(P:Program)(k:pv)(ρ:cZ->AV)(h:ah)(v:AV)(h':ah):Prop:=
 match k with
 |.call f args=>fu P (ρ f) (args.map ρ) h v h'
 |k=>mY k ρ h v h'
abbrev Fd(ro:Option Nat):Fence:={Fence.wide with round:=ro}
def kL{P f fn args w}(hf:P.funcs[f]? =some fn)(hb:fn.body.isSome=true)(hn:(fn.name == "runtime.NumGoroutine")=false):
  (callFunc f args).run P w=.ok (.enter f args) w:=by
 have hb':fn.body≠none:=by cases h:fn.body<;>simp_all
 have Xk:fn.name≠ "runtime.NumGoroutine":=by simpa using hn
 simp[callFunc,Z0,run_program,hf,Xk,hb',Result.andThen]
section
variable {P:Program}{m:bY}{h h':ah}{w:World}{v:AV}
def q8{ro:Option Nat}{o:Oper}{a:Act}{next:Act->World->Prop}{Q:Exit->Act->World->Prop}{r:Result Next}
  (hr:D7 P (Rel P m h w v h') r) (hn:∀cv m' w',VR m' v cv->HR P m' h' w'->Grow m h w m' h' w'->next (a.put o.dst cv) w'):o.uponIn (Fd ro) 0 P a next Q r:=by
 cases r with
 |halt x w'=>exact hr.elim
 |ok x w'=>
  cases x<;>first
   |exact hr.elim
   |skip
  case value cv=>
   obtain⟨cv',m',he,h1,h2,h3⟩:=hr;cases he;exact hn cv m' w' h1 h2 h3
  case enter f args=>
   rw[Oper.uponIn_enter];refine⟨λhd=>by simp[Fd,Fence.wide]at hd,CallsIn.mono (F:=Fd ro) (show CallsIn (Fd ro) (0-1) P f args w' (Rel P m h w v h')from hr) λe w'' he=>?_⟩;exact z173
  case round l f tmps asg body=>
   rw[Oper.uponIn_round];refine⟨λhd=>by simp[Fd,Fence.wide]at hd,RoundIn.mono (F:=Fd ro) (show RoundIn (Fd ro) (0-1) P l f tmps asg body w' (Rel P m h w v h')from hr) λe w'' he=>?_⟩;exact z173
def vI{o:Oper}{k:pv}{ρ:cZ->AV}(hc:ep P o=some k){a:Act}(hρ:∀x∈o.op.operands,∀x',cV x=some x'->VR m (ρ x') (a.eval x))(hcst:∀z,ρ (.c z)=z)
  (hr:HR P m h w) (hs:pX P k ρ h v h') (ro:Option Nat) (next:Act->World->Prop) (Q:Exit->Act->World->Prop)
  (hn:∀cv m' w',VR m' v cv->HR P m' h' w'->Grow m h w m' h' w'->next (a.put o.dst cv) w'):o.wpIn (Fd ro) 0 P a w next Q:=by
 refine⟨λ_ _=>trivial,?_⟩;have hdef:∀c,o.op≠.defer c:=by
  intro c Sy;simp[ep,Sy]at hc
 rw[Oper.semAt_eq _ _ _ hdef];by_cases UR:∃f args,k=.call f args
 ·obtain⟨f,args,rfl⟩:=UR;have Sx:fu P (ρ f) (args.map ρ) h v h':=hs;cases Sy:o.op with
  |call c=>
   have TX:=hc;simp only[ep,Sy]at TX;split at TX
   case h_2=>cases TX
   rename_i l hl;have hargs:=oa (m:=m) (ρ:=ρ) (σ:=a.eval) hl (λx hx=>hρ x (by simp only[Sy,Op.operands,Call.operands];exact Array.mem_append.2 (.inr hx)));split at TX
   ·rename_i g hg;simp only[Z2]at TX;obtain⟨g',SV,he⟩:=TX;cases he;have hf:=hρ g (by simp[Sy,Op.operands,Call.operands,hg]) _ SV;obtain⟨d,hd,haf⟩:=Sx m w _ _ hr hf hargs;refine q8 (m:=m) (h:=h) (w:=w) (v:=v) (h':=h') ?_ hn;simp only[execOp,Sy,resolve,hg,Z0];have Ta:(Deferred.ofValue (a.eval g) (c.args.map a.eval)).run P w=.ok d w:=hd w;rw[Ta];exact haf
   ·rename_i r name hg;simp only[Z2]at TX;obtain⟨r',hr',he⟩:=TX;cases he;have hrv:=hρ r (by simp[Sy,Op.operands,Call.operands,hg]) _ hr';have hf:VR m (ρ (.c (.func (.method name) [] []))) (.func (.method name) #[] #[]):=by
     rw[hcst,VR];exact⟨_,[],[],rfl,rfl,rfl,rfl⟩
    obtain⟨d,hd,haf⟩:=Sx m w _ (a.eval r:: (c.args.map a.eval).toList) hr hf (aQ.2 ⟨_,_,rfl,hrv,hargs⟩);refine q8 (m:=m) (h:=h) (w:=w) (v:=v) (h':=h') ?_ hn;simp only[execOp,Sy,resolve,hg,Z0];have Ta:=hd w;have:(#[]++(⟨a.eval r:: (c.args.map a.eval).toList⟩:Array Value))=#[a.eval r]++c.args.map a.eval:=by
     apply ab4;simp
    simp only[Deferred.ofValue,this]at Ta;cases Ta;exact haf
   ·rename_i b hb;exfalso;unfold oS at TX
    repeat' split at TX
    all_goals first|(cases TX;done)|(simp only[aaI]at TX;obtain⟨z,_,hz⟩:=TX;split at hz<;>cases hz)
  |makeMap t r=>cases r<;>simp[ep,Sy]at hc
  |next x b=>
   cases b
   ·simp[ep,Sy]at hc
   ·simp[ep,Sy,Z2]at hc
  |slice t x lo hi mx=>
   cases mx with
   |some _=>simp[ep,Sy]at hc
   |none=>
    exfalso;simp only[ep,Sy]at hc
    repeat' split at hc
    all_goals first
     |(cases hc;done)
     |(simp[Z2]at hc;done)
  |_=>
   exfalso;simp only[ep,Sy]at hc
   repeat' split at hc
   all_goals first
    |(cases hc;done)
    |(simp[Z2,aaI]at hc;done)
    |(unfold I9 at hc;repeat' split at hc;all_goals first|(cases hc;done)|(simp[Z2]at hc;done))
 ·have Sx:mY k ρ h v h':=by
   cases k<;>first|exact hs|exact absurd ⟨_,_,rfl⟩ UR
  obtain⟨cv,w',m',he,h1,h2,h3⟩:=xO (w:=w) hc hρ hcst hr Sx;rcases he with he|⟨he,rfl⟩
  ·rw[he];exact hn cv m' w' h1 h2 h3
  ·rw[he];exact hn undef m' w' h1 h2 h3
def GV(P:Program)(m:bY):Prop:=∀g,g<P.globals.size->∃e,m g=some e/\e.cb=g/\e.d=0
def HR.gv(hr:HR P m h w):GV P m:=λg hg=>by obtain⟨e,h1,h2,h3,_⟩:=hr.gu g hg;exact⟨e,h1,h2,h3⟩
def zE(hg:GV P m){ts:TS}{a:Act}{x:Operand}{x':cZ}(hx:cV x=some x')(hok:NR P x=true)(ht:∀t,x=.tmp t->VR m (ts.getD t az) (a.tmps.getD t undef)):VR m (val ts x') (a.eval x):=by
 cases x with
 |tmp t=>cases hx;exact ht t rfl
 |const c=>
  simp only[cV,Z2]at hx;obtain⟨y,hy,rfl⟩:=hx;exact qT m 4 _ _ hy
 |global g=>
  cases hx;simp only[NR,aah]at hok;obtain⟨e,he,hcb,hd⟩:=hg g hok;exact⟨e,he,by rw[hcb,hd];rfl⟩
 |func f=>cases hx;exact⟨.func f,[],[],rfl,rfl,rfl,rfl⟩
def nY{ts:TS}{vs:Array Value}(h:cK m ts vs.toList)(t:Nat):VR m (ts.getD t az) (vs.getD t undef):=by
 have hl:=h.length;by_cases ht:t<ts.length
 ·have hx:ts[t]? =some ts[t]:=ZH ht;obtain⟨y,hy,hr⟩:=h.get hx;have e1:ts.getD t az=ts[t]:=by simp[List.getD,hx]
  have e2:vs.getD t undef=y:=by
   simp only[aa6]at hy;simp[aas,hy]
  rw[e1,e2];exact hr
 ·have e1:ts.getD t az=az:=by simp[List.getD,abf (by omega:ts.length<=t)]
  have e2:vs.getD t undef=undef:=by
   have:vs.size<=t:=by simp at hl;omega
   simp[aas,aba this]
  rw[e1,e2];exact j5 m
def ES{ts:TS}{a:Act}(h:cK m ts a.tmps.toList){x:AV}{cv:Value}(hx:VR m x cv)(d:Option Nat):cK m (put ts d x) (a.put d cv).tmps.toList:=by
 cases d with
 |none=>exact h
 |some d=>simp only[put,Act.put,Array.toList_setIfInBounds];exact h.set d hx
def put_defers(a:Act)(d:Option Nat)(cv:Value):(a.put d cv).defers=a.defers:=by cases d<;>rfl
def qZ{ts:TS}{a:Act}{ops:Array Oper}{o:Oper}{g:Option (Nat×Bool)}(hg:uq ops o.guard=some g)
  (ht:∀t b,g=some (t,b)->(t<ts.length↔t<a.tmps.size)/\VR m (ts.getD t az) (a.tmps.getD t undef)):Region.wanted o (yielded ops a.tmps)=true↔wanted g ts:=by
 unfold uq at hg;unfold Region.wanted wanted;cases VS:o.guard with
 |none=>rw[VS]at hg;cases hg;simp
 |some p=>
  obtain⟨j,b⟩:=p;rw[VS]at hg;simp only[Z2]at hg;obtain⟨d,hd,rfl⟩:=hg;simp only[yielded,hd,Option.bind_some,beq_iff_eq];obtain⟨hlt,SA⟩:=ht d b rfl;by_cases hdl:d<ts.length
  ·have VU:=hlt.1 hdl;have e1:ts.getD d az=ts[d]:=by simp[List.getD,ZH hdl]
   have e2:a.tmps.getD d undef=a.tmps[d]:=by simp[aas,aaw VU]
   rw[e1,e2]at SA;rw[aaw VU,ZH hdl];generalize a.tmps[d]=cv at SA;generalize ts[d]=av at SA;cases av with
   |bool t=>rw[VR]at SA;subst SA;simp
   |int k n=>rw[VR]at SA;subst SA;simp
   |xH k n=>rw[VR]at SA;obtain⟨_,rfl,_⟩:=SA;simp
   |wX k x y=>rw[VR]at SA;obtain⟨_,_,rfl,_⟩:=SA;simp
   |str s=>rw[VR]at SA;subst SA;simp
   |ptr b o=>rw[VR]at SA;obtain⟨_,_,rfl⟩:=SA;simp
   |nilPtr=>rw[VR]at SA;subst SA;simp
   |slice b o n e=>rw[VR]at SA;obtain⟨_,_,_,_,rfl,_⟩:=SA;simp
   |af=>rw[VR]at SA;subst SA;simp
   |map r=>rw[VR]at SA;obtain⟨_,_,rfl⟩:=SA;simp
   |dh=>rw[VR]at SA;subst SA;simp
   |func f x y=>rw[VR]at SA;obtain⟨_,_,_,rfl,_⟩:=SA;simp
   |nilFunc=>rw[VR]at SA;subst SA;simp
   |agg l=>rw[VR]at SA;obtain⟨_,rfl,_⟩:=SA;simp
   |dL l=>rw[VR]at SA;obtain⟨_,rfl,_⟩:=SA;simp
   |uS u l=>rw[VR]at SA;obtain⟨_,rfl,_⟩:=SA;simp
   |kN=>rw[VR]at SA;subst SA;simp
  ·have VU:¬d<a.tmps.size:=λx=>hdl (hlt.2 x)
   rw[aba Om,abf Om];simp
inductive dB (P:Program) (o:bL) (ts:TS) (h:ah):TS->ah->Prop
 |run {v:AV}{h':ah}(hw:wanted o.gd ts) (hb:zB o.dst o.k ts.length) (hs:pX P o.k (val ts) h v h'):dB P o ts h (put ts o.dst v) h'
 |skip (hw:¬wanted o.gd ts):dB P o ts h (put ts o.dst az) h
def yK(P:Program):List bL->TS->ah->TS->ah->Prop
 |[],ts,h,ts',h'=>ts' =ts/\h' =h
 |o::r,ts,h,ts',h'=>∃Uc h1,dB P o ts h Uc h1/\(o.q=true->∃g,h1=h++g)/\yK P r Uc h1 ts' h'
structure St(P:Program)(m:bY)(ts:TS)(h:ah)(a:Act)(w:World):Prop where
 hr:HR P m h w
 ts:cK m ts a.tmps.toList
def o7{ρ}:¬pX P .bad ρ h v h':=λhs=>by
 have Sx:dx .bad ρ h=some (v,h'):=hs;simp[dx]at Sx
def fD{ops:Array Oper}{i:Nat}{o:Oper}(ho:ops[i]? =some o){q:Bool}{io:bL}(hc:bU P ops q o=some io){ts ts':TS}{a:Act}
  (hg:GV P m) (hr:HR P m h w) (hlen:a.tmps.size=ts.length)
  (ht:∀t,t∈o.looksAt ops->VR m (ts.getD t az) (a.tmps.getD t undef)) (hs:dB P io ts h ts' h') (ro:Option Nat) (K:Act->World->Prop) (Q:Exit->Act->World->Prop)
  (hn:∀cv v m' w',ts' =put ts o.dst v->VR m' v cv->HR P m' h' w'->Grow m h w m' h' w'->K (a.put o.dst cv) w'):wpOpIn (Fd ro) 0 P ops Q i K a w:=by
 unfold bU at hc;split at hc
 case h_2=>cases hc
 rename_i g VS;cases hc;have hw:=qZ (m:=m) (ts:=ts) (a:=a) VS (λt b VD=>⟨Om,ht t (by
  unfold Oper.looksAt;refine List.mem_append_right _ ?_;unfold uq at VS;cases hog:o.guard with
  |none=>rw[hog]at VS;cases VS;cases VD
  |some p=>
   obtain⟨j,b'⟩:=p;rw[hog]at VS;simp only[Z2]at VS;obtain⟨d,hd,rfl⟩:=VS;cases VD;simp[hd])⟩)
 unfold wpOpIn;rw[ho];cases hs with
 |run hwa hb hs=>
  clear hb;simp only;rw[ZS (hw.2 hwa)];simp only at hs;split at hs
  case isFalse=>exact absurd hs o7
  rename_i hgok;cases hk:ep P o with
  |none=>rw[hk]at hs;exact absurd hs o7
  |some k=>
   rw[hk]at hs;refine vI hk (λx hx x' SC=>?_) (λz=>rfl) hr hs ro K Q (λcv m' w' h1 h2 h3=>hn cv _ m' w' rfl h1 h2 h3);exact Ri
 |skip hwa=>
  simp only;rw[ZN (λx=>hwa (hw.1 x))];exact⟨λ_ _=>trivial,hn undef _ m w rfl (j5 m) hr (Grow.refl m h w hr.cN)⟩
theorem gy{α β:Type}{f:Nat->α->Option β}:∀{l:List α}{i:Nat}{r:List β},eU f l i=some r->r.length=l.length/\∀(j:Nat) (x:α),l[j]? =some x->∃y,r[j]? =some y/\f (i+j) x=some y
 |[],i,r,h=>by cases h;exact⟨rfl,λj x hx=>by simp at hx⟩
 |x::xs,i,r,h=>by
  unfold eU at h;split at h
  case h_2=>cases h
  rename_i y ys hy hys;cases h;obtain⟨h1,h2⟩:=gy hys;refine⟨by simp[h1],λj z hz=>?_⟩;cases j with
  |zero=>simp at hz;subst hz;exact⟨y,Si,hy⟩
  |succ j=>
   simp at hz;obtain⟨u,hu,hf⟩:=h2 j z hz;exact⟨u,by simpa using hu,by rw[show i+(j+1)=i+1+j from by omega];exact hf⟩
structure Row(P:Program)(l:List bL)(T:Nat->TS)(H:Nat->ah):Prop where
 step:∀i o,l[i]? =some o->dB P o (T i) (H i) (T (i+1)) (H (i+1))/\(o.q=true->∃g,H (i+1)=H i++g)
theorem yK.row:∀{l}{ts ts'}{h h'},yK P l ts h ts' h'->∃T H,T 0=ts/\H 0=h/\T l.length=ts'/\H l.length=h'/\Row P l T H
 |[],ts,ts',h,h',hs=>by
  obtain⟨rfl,rfl⟩:=hs;exact⟨λ_=>ts',λ_=>h',rfl,rfl,rfl,rfl,⟨λi o ho=>by simp at ho⟩⟩
 |o::r,ts,ts',h,h',hs=>by
  obtain⟨Uc,h1,bS,hq,hr⟩:=hs;obtain⟨T,H,hT,hH,T0,hH',hrow⟩:=hr.row;refine⟨λi=>match i with| 0=>ts|i+1=>T i,λi=>match i with| 0=>h|i+1=>H i,rfl,rfl,T0,hH',⟨λi x hx=>?_⟩⟩;cases i with
  |zero=>
   simp at hx;subst hx;show dB P o ts h (T 0) (H 0)/\_;rw[hT,hH];exact⟨bS,λq=>by show ∃g,H 0=h++g;rw[hH];exact hq q⟩
  |succ i=>exact hrow.step i x (by simpa using hx)
def nA(ts:TS)(d:Option Nat)(v:AV):(put ts d v).length=ts.length:=by cases d<;>simp[put]
theorem dB.put{o ts ts'}(hs:dB P o ts h ts' h'):∃v,ts' =put ts o.dst v:=by
 cases hs with
 |run=>exact⟨_,rfl⟩
 |skip=>exact⟨_,rfl⟩
def dw{ops q o io}(hc:bU P ops q o=some io):io.dst=o.dst/\io.q=q:=by
 unfold bU at hc;split at hc
 ·cases hc;exact⟨rfl,rfl⟩
 ·cases hc
def yh{ops:Array Oper}{l:List bL}(hc:cP P ops false=some l){ts ts':TS}{h h':ah}(hs:yK P l ts h ts' h'){m:bY}{a:Act}{w:World}(st:St P m ts h a w)(ro:Option Nat)
  (Q:Exit->Act->World->Prop) (hQ:∀m' a' w',St P m' ts' h' a' w'->Grow m h w m' h' w'->a'.defers=a.defers->Q .normal a' w') (id:Nat):(Code.region id ops false).wpIn (Fd ro) 0 P Q a w:=by
 refine wpIn_region ?_;obtain⟨T,H,rfl,rfl,rfl,rfl,hrow⟩:=hs.row;obtain⟨hlen,SF⟩:=gy (show eU (λ_ o=>bU P ops false o) ops.toList 0=some l from hc);simp only[abN]at hlen;have key:∀(k j:Nat),j+k=ops.size->∀(m1:bY) (a1:Act) (w1:World),St P m1 (T j) (H j) a1 w1->Grow m (H 0) w m1 (H j) w1->a1.defers=a.defers->
   wpOpsIn (Fd ro) 0 P ops Q (List.range' j k) a1 w1:=by
  intro k
  induction k with
  |zero=>
   intro j hj m1 a1 w1 s1 g1 hd;have:j=l.length:=Om
   subst this;exact hQ m1 a1 w1 s1 g1 hd
  |succ k ih=>
   intro j hj m1 a1 w1 s1 g1 hd;rw[List.range'_succ,wpOpsIn_cons];have Zi:j<ops.size:=Om
   have ho:ops[j]? =some ops[j]:=aaw Zi;obtain⟨io,hio,SJ⟩:=SF j ops[j] Si;obtain⟨bS,_⟩:=hrow.step j io hio;refine fD ho SJ s1.hr.gv s1.hr (by simpa using s1.ts.length) (λt _=>nY s1.ts t) bS ro _ Q ?_;intro cv v m' w' Sv h1 h2 h3;have hle:=h3.le s1.hr.cN;exact ih (j+1) Om m' _ w' ⟨h2,by rw[Sv];exact ES (cK.mono hle _ _ s1.ts) h1 _⟩ (g1.trans h3 st.hr.cN) (by rw[put_defers];exact hd)
 have:=key ops.size 0 Om m a w st (Grow.refl m _ w st.hr.cN) rfl
 rwa [<-List.range_eq_range']at this
end
end Go.Abs
