/- A part of the proof that HouseStories holds. No condition. -/
import Derived.Shelf.Strings.Builder1
import Derived.Shelf.Strings.Builder2
import Derived.Shelf.Strings.OnBuilder
import Derived.Test.YtgplmdgpmbegiaaGreatDoorProg
import Derived.Shelf.Strings.Repeat
import Derived.Tactics
import Derived.OrdersIn
import Derived.RangeFuncLeaves
import Derived.RangeFuncIn
import Derived.RangeFuncOwn
import Derived.Laws.Sem
import Derived.Laws.World
import Derived.Laws.Cells
import Derived.Laws.Entries
import Derived.Below
import Derived.MapKept
import Derived.Laws.Tables
import Derived.Laws.StructEq
import Derived.Test.YtgplmdgpmbegiaaGreatDoorSt0
set_option linter.all false
namespace Go.Proofs
open Go.Shelf
def Tryz.pV:Go.Shelf.Ren:=⟨fun| 156=>114| 165=>210| 166=>211| 169=>212| 240=>257| 241=>258| 276=>282| 277=>283| n=>n,fun| 31=>28| 9=>9| 3=>3| 4=>4| 0=>0| 20=>20| 72=>271| 76=>275| 70=>269| 37=>119| 75=>274| 127=>308| 164=>332| 5=>5| 80=>97| n=>n,fun n=>n⟩
def Tryz.yW:Go.Proofs.Lays.n156 Tryz.prog Tryz.pV:={
 mixed:=by kernel_rfl
 f156:=Tryz.func114.trans (congrArg some (by kernel_rfl))
 f165:=Tryz.func210.trans (congrArg some (by kernel_rfl))
 f166:=Tryz.func211.trans (congrArg some (by kernel_rfl))
 f169:=Tryz.func212.trans (congrArg some (by kernel_rfl))
 f240:=Tryz.func257.trans (congrArg some (by kernel_rfl))
 f241:=Tryz.func258.trans (congrArg some (by kernel_rfl))
 f276:=Tryz.func282.trans (congrArg some (by kernel_rfl))
 f277:=Tryz.func283.trans (congrArg some (by kernel_rfl))
 t0:=Tryz.underlying0
 a0:=Tryz.isAgg0
 z0:=Tryz.sizeOf0
 v0:=Tryz.zeroValue0
 t3:=Tryz.underlying3
 a3:=Tryz.isAgg3
 z3:=Tryz.sizeOf3
 v3:=Tryz.zeroValue3
 t4:=Tryz.underlying4
 a4:=Tryz.isAgg4
 z4:=Tryz.sizeOf4
 v4:=Tryz.zeroValue4
 t9:=Tryz.underlying9
 a9:=Tryz.isAgg9
 z9:=Tryz.sizeOf9
 v9:=Tryz.zeroValue9
 t20:=Tryz.underlying20
 a20:=Tryz.isAgg20
 z20:=Tryz.sizeOf20
 v20:=Tryz.zeroValue20
 t31:=Tryz.underlying28
 a31:=Tryz.isAgg28
 z31:=Tryz.sizeOf28
 v31:=Tryz.zeroValue28
 t37:=Tryz.underlying119
 a37:=Tryz.isAgg119
 z37:=Tryz.sizeOf119
 v37:=Tryz.zeroValue119
 t70:=Tryz.underlying269
 a70:=Tryz.isAgg269
 z70:=Tryz.sizeOf269
 v70:=Tryz.zeroValue269
 t72:=Tryz.underlying271
 a72:=Tryz.isAgg271
 z72:=Tryz.sizeOf271
 v72:=Tryz.zeroValue271
 t75:=Tryz.underlying274
 a75:=Tryz.isAgg274
 z75:=Tryz.sizeOf274
 v75:=Tryz.zeroValue274
 t76:=Tryz.underlying275
 a76:=Tryz.isAgg275
 z76:=Tryz.sizeOf275
 v76:=Tryz.zeroValue275
 t127:=Tryz.underlying308
 a127:=Tryz.isAgg308
 z127:=Tryz.sizeOf308
 v127:=Tryz.zeroValue308
 t164:=Tryz.underlying332
 a164:=Tryz.isAgg332
 z164:=Tryz.sizeOf332
 v164:=Tryz.zeroValue332 }
def Tryz.jA:Builder.Extra Tryz.prog Tryz.pV:={
 sizeBuilder:=by kernel_rfl
 liesBuilder:=by kernel_rfl
 t5:=Tryz.underlying5
 a5:=Tryz.isAgg5
 z5:=Tryz.sizeOf5
 v5:=Tryz.zeroValue5
 infoByte:=by kernel_rfl
 cellsByte:=by kernel_rfl
 sizeByte:=by kernel_rfl
 neB5:=by decide }
open Go.RowKit in
theorem Tryz.strings_Join_none(a:Option Addr)(c:Nat)(sep:ByteArray)(w:World):
  Calls Tryz.prog 114 #[.slice a 0 c,.string sep] w fun e w'=>e= .returned (.string ⟨#[]⟩)∧w' =w:=Any.strings_Join_none Tryz.yW Tryz.jA a c sep w
open Go.RowKit in
theorem Tryz.strings_Join(bk o c:Nat)(xs:List ByteArray)(sep:ByteArray)(w:World)(hcells:∀ (j:Nat) x,xs[j]? =some x→w.cell? ⟨bk,o+j,none⟩=some (.string x))(hbk:bk < w.heap.size)(hN:xs.length≤140737488355328)(hcap:xs.length≤c)(hlen: (Lib.join (xs.map (·.data.toList)) sep.data.toList).length≤140737488355328):
  Calls Tryz.prog 114 #[.slice (some ⟨bk,o,none⟩) xs.length c,.string sep] w fun e w'=>e= .returned (.string ⟨(Lib.join (xs.map (·.data.toList)) sep.data.toList).toArray⟩)∧Below w.heap.size w w':=Any.strings_Join Tryz.yW Tryz.jA bk o c xs sep w hcells hbk hN hcap hlen
end Go.Proofs
namespace Go.Proofs
open Go.Shelf
def Tryz.pW:Go.Shelf.Ren:=⟨fun| 105=>252| 212=>267| 99=>270| 165=>210| 166=>211| 170=>271| 169=>212| 263=>285| 264=>286| 206=>287| 240=>257| 241=>258| 276=>282| 277=>283| n=>n,fun| 9=>9| 3=>3| 4=>4| 20=>20| 0=>0| 46=>319| 109=>320| 5=>5| 72=>271| 76=>275| 51=>335| 146=>336| 53=>327| 148=>338| 70=>269| 37=>119| 75=>274| 127=>308| 164=>332| 80=>97| n=>n,fun n=>n⟩
def Tryz.Ea:Go.Proofs.Lays.n105 Tryz.prog Tryz.pW:={
 mixed:=by kernel_rfl
 f99:=Tryz.func270.trans (congrArg some (by kernel_rfl))
 f105:=Tryz.func252.trans (congrArg some (by kernel_rfl))
 f165:=Tryz.func210.trans (congrArg some (by kernel_rfl))
 f166:=Tryz.func211.trans (congrArg some (by kernel_rfl))
 f169:=Tryz.func212.trans (congrArg some (by kernel_rfl))
 f170:=Tryz.func271.trans (congrArg some (by kernel_rfl))
 f206:=Tryz.func287.trans (congrArg some (by kernel_rfl))
 f212:=Tryz.func267.trans (congrArg some (by kernel_rfl))
 f240:=Tryz.func257.trans (congrArg some (by kernel_rfl))
 f241:=Tryz.func258.trans (congrArg some (by kernel_rfl))
 f263:=Tryz.func285.trans (congrArg some (by kernel_rfl))
 f264:=Tryz.func286.trans (congrArg some (by kernel_rfl))
 f276:=Tryz.func282.trans (congrArg some (by kernel_rfl))
 f277:=Tryz.func283.trans (congrArg some (by kernel_rfl))
 t0:=Tryz.underlying0
 a0:=Tryz.isAgg0
 z0:=Tryz.sizeOf0
 v0:=Tryz.zeroValue0
 t3:=Tryz.underlying3
 a3:=Tryz.isAgg3
 z3:=Tryz.sizeOf3
 v3:=Tryz.zeroValue3
 t4:=Tryz.underlying4
 a4:=Tryz.isAgg4
 z4:=Tryz.sizeOf4
 v4:=Tryz.zeroValue4
 t5:=Tryz.underlying5
 a5:=Tryz.isAgg5
 z5:=Tryz.sizeOf5
 v5:=Tryz.zeroValue5
 t9:=Tryz.underlying9
 a9:=Tryz.isAgg9
 z9:=Tryz.sizeOf9
 v9:=Tryz.zeroValue9
 t20:=Tryz.underlying20
 a20:=Tryz.isAgg20
 z20:=Tryz.sizeOf20
 v20:=Tryz.zeroValue20
 t37:=Tryz.underlying119
 a37:=Tryz.isAgg119
 z37:=Tryz.sizeOf119
 v37:=Tryz.zeroValue119
 t46:=Tryz.underlying319
 a46:=Tryz.isAgg319
 z46:=Tryz.sizeOf319
 v46:=Tryz.zeroValue319
 t51:=Tryz.underlying335
 a51:=Tryz.isAgg335
 z51:=Tryz.sizeOf335
 v51:=Tryz.zeroValue335
 t53:=Tryz.underlying327
 a53:=Tryz.isAgg327
 z53:=Tryz.sizeOf327
 v53:=Tryz.zeroValue327
 t70:=Tryz.underlying269
 a70:=Tryz.isAgg269
 z70:=Tryz.sizeOf269
 v70:=Tryz.zeroValue269
 t72:=Tryz.underlying271
 a72:=Tryz.isAgg271
 z72:=Tryz.sizeOf271
 v72:=Tryz.zeroValue271
 t75:=Tryz.underlying274
 a75:=Tryz.isAgg274
 z75:=Tryz.sizeOf274
 v75:=Tryz.zeroValue274
 t76:=Tryz.underlying275
 a76:=Tryz.isAgg275
 z76:=Tryz.sizeOf275
 v76:=Tryz.zeroValue275
 t109:=Tryz.underlying320
 a109:=Tryz.isAgg320
 z109:=Tryz.sizeOf320
 v109:=Tryz.zeroValue320
 t127:=Tryz.underlying308
 a127:=Tryz.isAgg308
 z127:=Tryz.sizeOf308
 v127:=Tryz.zeroValue308
 t146:=Tryz.underlying336
 a146:=Tryz.isAgg336
 z146:=Tryz.sizeOf336
 v146:=Tryz.zeroValue336
 t148:=Tryz.underlying338
 a148:=Tryz.isAgg338
 z148:=Tryz.sizeOf338
 v148:=Tryz.zeroValue338
 t164:=Tryz.underlying332
 a164:=Tryz.isAgg332
 z164:=Tryz.sizeOf332
 v164:=Tryz.zeroValue332 }
def Tryz.o6:Builder.Extra Tryz.prog Tryz.pW:={
 sizeBuilder:=by kernel_rfl
 liesBuilder:=by kernel_rfl
 t5:=Tryz.underlying5
 a5:=Tryz.isAgg5
 z5:=Tryz.sizeOf5
 v5:=Tryz.zeroValue5
 infoByte:=by kernel_rfl
 cellsByte:=by kernel_rfl
 sizeByte:=by kernel_rfl
 neB5:=by decide }
end Go.Proofs
namespace Go.Abs
inductive AV where
 | bool (b:Bool)
 | int (k:IntKind) (n:Int)
 | wG (k:FloatKind) (b:Nat)
 | wk (k:FloatKind) (re im:Nat)
 | str (s:By)
 | ptr (b o:Nat)
 | nilPtr
 | slice (b o n e:Nat)
 | af
 | map (r:Nat)
 | cQ
 | func (f:Fn) (a c:List AV)
 | nilFunc
 | agg (l:List AV)
 | dL (l:List AV)
 | qh (u:TypeId) (v:AV)
 | kf
 deriving Inhabited
def aA:AV:=.dL []
def AV.cells:AV→List AV
 | .agg l=>l
 | v=>[v]
def AV.one:AV→Bool
 | .agg _=>false
 | .dL _=>false
 | .kf=>false
 | _=>true
inductive cT where
 | t (i:Nat)
 | c (v:AV)
 | g (i:Nat)
 | f (i:Nat)
 deriving Inhabited
inductive CK where
 | b
 | i
 | s
 deriving DecidableEq,Inhabited
inductive PE where
 | one (k:CK)
 | agg (ks:List CK)
 | xY
 | xZ
 | pg
 | KS
 deriving Inhabited
inductive zu where
 | uc (k:IntKind)
 | Nk
 | I8
 | same
 | Ok (k:FloatKind)
 | OE (k:IntKind)
 | OF (k:FloatKind)
 | qh (u:TypeId)
 deriving Inhabited
inductive LK where
 | sl
 | st
 | mp
 deriving DecidableEq,Inhabited
inductive oZ where
 | aF (x:cT)
 | pick (c a b:cT)
 | box (x:cT)
 | nh (n:Nat) (x:cT)
 | build (z:List AV) (ps:List (Nat×Nat×cT))
 | aE (es:Nat) (n:Nat) (z:List AV) (ps:List (Nat×cT))
 | load (n:Option Nat) (a:cT)
 | store (n:Nat) (a x:cT)
 | bt (x:cT)
 | bin (op:BinOp) (x y:cT)
 | eqv (neg:Bool) (t:PE) (x y:cT)
 | un (op:UnOp) (x:cT)
 | conv (k:zu) (x:cT)
 | kQ (f:Fn) (a c:List cT)
 | lE
 | sg (es w:Nat) (z:List AV) (l c:cT)
 | sl (es:Nat) (x:cT) (lo hi:Option cT)
 | pL (x:cT) (lo hi:Option cT)
 | Mz (n es:Nat) (x:cT) (lo hi:Option cT)
 | aP (off:Nat) (x:cT)
 | aS (es:Nat) (x i:cT)
 | sj (len es:Nat) (x i:cT)
 | part (n:Option Nat) (off:Nat) (x:cT)
 | I6 (len es:Nat) (n:Option Nat) (x i:cT)
 | qe (x i:cT)
 | look (kk:CK) (z:AV) (ok:Bool) (m k:cT)
 | fj (kk:CK) (m k x:cT)
 | xD (x:cT)
 | nS (x:cT)
 | ext (x:cT) (i:Nat)
 | call (f:cT) (args:List cT)
 | len (lk:LK) (x:cT)
 | zW (n:Nat)
 | app (es w:Nat) (x y:cT)
 | wI (es:Nat) (x y:cT)
 | mx (x:cT) (l:List cT)
 | mn (x:cT) (l:List cT)
 | bad
 deriving Inhabited
structure bJ where
 dst:Option Nat
 k:oZ
 gd:Option (Nat×Bool)
 q:Bool
 deriving Inhabited
def y3(d:Option Nat)(k:oZ)(n:Nat):Prop:=
 match k,d with
 | .nh _ _,some d=>d < n
 | _,_=>True
inductive ai where
 | skip
 | ops (l:List bJ)
 | sf (l:List bJ)
 | lC (l:List bJ)
 | seq (a b:ai)
 | cond (c:cT) (a b:ai)
 | block (id:Nat) (a:ai)
 | loop (a:ai)
 | exit (id:Nat)
 | ret
 | eJ (g:cT) (ps:List Nat) (asg body:ai)
 | bad
 deriving Inhabited
inductive Ex where
 | normal
 | exit (id:Nat)
 | ret
 deriving DecidableEq,Inhabited
def Ex.CB:Ex→Exit
 | .normal=>.normal
 | .exit id=>.exit id
 | .ret=>.ret
def Ex.jump:Ex→Option Code
 | .normal=>none
 | .exit id=>some (.exit id)
 | .ret=>some .ret
inductive ak where
 | cells (c:List AV) (mu tl:Bool)
 | dead
 | bn (es:List (AV×AV))
 | iter (s:By) (pos:Nat)
 | loop (st:LoopState) (ex:Ex) (ts:List AV) (ps:List Nat) (asg body:ai)
 deriving Inhabited
abbrev ah:=List ak
abbrev TS:=List AV
structure sI where
 cb:Nat
 d:Nat
 sz:Nat
 own:Bool
abbrev bY:=Nat→Option sI
def bY.le(m m':bY):Prop:=∀b e,m b=some e→m' b=some e
def bY.le_trans{a b c:bY}(h:a.le b)(k:b.le c):a.le c:=fun x e hx=>k x e (h x e hx)
def D5(k:FloatKind)(b:Nat):Bool:=(k.format.order b b).isNone
def FR(k:FloatKind)(b b':Nat):Prop:=b' =b∨(D5 k b=true∧D5 k b' =true)
def AE(m:bY):Fn→Fn→Prop
 | .yield l,g=>∃e,m l=some e∧g= .yield e.cb
 | f,g=>g=f
mutual
def VR(m:bY):AV→Value→Prop
 | .bool b,v=>v= .bool b
 | .int k n,v=>v= .int k n
 | .wG k b,v=>∃b',v= .float k b'∧FR k b b'
 | .wk k x y,v=>∃x' y',v= .complex k x' y'∧FR k x x'∧FR k y y'
 | .str s,v=>v= .string ⟨⟨s⟩⟩
 | .ptr b o,v=>∃e,m b=some e∧v= .pointer (some ⟨e.cb,o+e.d,none⟩)
 | .nilPtr,v=>v= .pointer none
 | .slice b o n es,v=>∃e ca cap,m b=some e∧v= .slice (some ca) n cap∧n≤cap∧(0 < cap→ca= ⟨e.cb,o+e.d,none⟩)∧o+e.d+cap * es≤e.sz
 | .af,v=>v= .slice none 0 0
 | .map r,v=>∃e,m r=some e∧v= .map (some e.cb)
 | .cQ,v=>v= .map none
 | .func f a c,v=>∃f' a' c',v= .func f' ⟨a'⟩ ⟨c'⟩∧AE m f f'∧cH m a a'∧cH m c c'
 | .nilFunc,v=>v= .nilFunc
 | .agg l,v=>∃l',v= .agg ⟨l'⟩∧cH m l l'
 | .dL l,v=>∃l',v= .tuple ⟨l'⟩∧cH m l l'
 | .qh u a,v=>∃v',v= .iface u v'∧VR m a v'
 | .kf,v=>v= .nilIface
def cH(m:bY):List AV→List Value→Prop
 | [],vs=>vs= []
 | x::xs,vs=>∃y ys,vs=y::ys∧VR m x y∧cH m xs ys
end
def AE.mono{m m'}(h:m.le m'):∀{f g},AE m f g→AE m' f g:=by
 intro f g hf;cases f<;>simp only[AE]at hf ⊢<;>try exact hf
 obtain⟨e,he,hg⟩:=hf;exact⟨e,h _ _ he,hg⟩
mutual
theorem VR.mono{m m'}(h:m.le m'):∀ (a:AV) (v:Value),VR m a v→VR m' a v
 | .bool _,v,hv=>hv
 | .int _ _,v,hv=>hv
 | .wG _ _,v,hv=>hv
 | .wk _ _ _,v,hv=>hv
 | .str _,v,hv=>hv
 | .ptr b o,v,hv=>by
  obtain⟨e,he,hv⟩:=(show ∃e,m b=some e∧v= .pointer (some ⟨e.cb,o+e.d,none⟩)from hv);exact⟨e,h _ _ he,hv⟩
 | .nilPtr,v,hv=>hv
 | .slice b o n es,v,hv=>by
  obtain⟨e,ca,cap,he,hr⟩:=(show ∃e ca cap,m b=some e∧v= .slice (some ca) n cap∧n≤cap∧(0 < cap→ca= ⟨e.cb,o+e.d,none⟩)∧o+e.d+cap * es≤e.sz from hv);exact⟨e,ca,cap,h _ _ he,hr⟩
 | .af,v,hv=>hv
 | .map r,v,hv=>by
  obtain⟨e,he,hv⟩:=(show ∃e,m r=some e∧v= .map (some e.cb)from hv);exact⟨e,h _ _ he,hv⟩
 | .cQ,v,hv=>hv
 | .func f a c,v,hv=>by
  obtain⟨f',a',c',hv,hf,ha,hc⟩:=(show ∃f' a' c',v= .func f' ⟨a'⟩ ⟨c'⟩∧AE m f f'∧cH m a a'∧cH m c c' from hv);exact⟨f',a',c',hv,hf.mono h,cH.mono h a a' ha,cH.mono h c c' hc⟩
 | .nilFunc,v,hv=>hv
 | .agg l,v,hv=>by
  obtain⟨l',hv,hl⟩:=(show ∃l',v= .agg ⟨l'⟩∧cH m l l' from hv);exact⟨l',hv,cH.mono h l l' hl⟩
 | .dL l,v,hv=>by
  obtain⟨l',hv,hl⟩:=(show ∃l',v= .tuple ⟨l'⟩∧cH m l l' from hv);exact⟨l',hv,cH.mono h l l' hl⟩
 | .qh u a,v,hv=>by
  obtain⟨v',hv,ha⟩:=(show ∃v',v= .iface u v'∧VR m a v' from hv);exact⟨v',hv,VR.mono h a v' ha⟩
 | .kf,v,hv=>hv
theorem cH.mono{m m'}(h:m.le m'):∀ (l:List AV) (vs:List Value),cH m l vs→cH m' l vs
 | [],_,hv=>hv
 | x::xs,vs,hv=>by
  obtain⟨y,ys,hv,hx,T0⟩:=(show ∃y ys,vs=y::ys∧VR m x y∧cH m xs ys from hv);exact⟨y,ys,hv,VR.mono h x y hx,cH.mono h xs ys T0⟩
end
def bB{m vs}:cH m [] vs↔vs= []:=Iff.rfl
def aR{m x xs vs}:cH m (x::xs) vs↔∃y ys,vs=y::ys∧VR m x y∧cH m xs ys:=Iff.rfl
theorem cH.length{m}:∀{l} {vs},cH m l vs→vs.length=l.length
 | [],_,h=>by rw[bB]at h;simp[h]
 | x::xs,vs,h=>by
  obtain⟨y,ys,rfl,_,T0⟩:=aR.1 h;simp[cH.length T0]
theorem cH.get{m:bY}:∀{l:List AV} {vs:List Value},cH m l vs→∀{i:Nat} {x:AV},l[i]? =some x→∃y,vs[i]? =some y∧VR m x y
 | [],_,_,i,x,h=>by simp at h
 | z::zs,vs,h,i,x,hx=>by
  obtain⟨y,ys,rfl,hy,hys⟩:=aR.1 h;cases i with
  | zero=>simp at hx;subst hx;exact⟨y,Si,hy⟩
  | succ i=>simp at hx;simpa using cH.get hys hx
theorem cH.gO{m}:∀{l} {vs},vs.length=l.length→(∀ (i:Nat) (x:AV),l[i]? =some x→∃y,vs[i]? =some y∧VR m x y)→cH m l vs
 | [],vs,hl,_=>by rw[bB];exact Y9.1 (by simpa using hl)
 | x::xs,[],hl,_=>by simp at hl
 | x::xs,v::vs,hl,h=>by
  refine aR.2 ⟨v,vs,rfl,?_,cH.gO (by simpa using hl) fun i z hz=>?_⟩
  ·obtain⟨y,hy,hr⟩:=h 0 x Si;simp at hy;subst hy;exact hr
  ·obtain⟨y,hy,hr⟩:=h (i+1) z (by simpa using hz);exact⟨y,by simpa using hy,hr⟩
theorem cH.append{m}:∀{a b} {va vb},cH m a va→cH m b vb→cH m (a++b) (va++vb)
 | [],b,va,vb,ha,hb=>by rw[bB]at ha;subst ha;simpa using hb
 | x::xs,b,va,vb,ha,hb=>by
  obtain⟨y,ys,rfl,hy,hys⟩:=aR.1 ha;exact aR.2 ⟨y,ys++vb,Si,hy,cH.append hys hb⟩
theorem cH.set{m:bY}{l:List AV}{vs:List Value}(h:cH m l vs)(i:Nat){x:AV}{v:Value}(hx:VR m x v):cH m (l.set i x) (vs.set i v):=by
 refine cH.gO (by simp[h.length]) fun j z hz=>?_
 rw[List.getElem?_set]at hz ⊢;by_cases hij:i=j
 ·simp only[hij,Ys]at hz ⊢;split at hz
  ·simp only[Yy]at hz;subst hz;rename_i hlt;exact⟨v,by simp[h.length,hlt],hx⟩
  ·simp at hz
 ·simp only[hij,Yo]at hz ⊢;exact h.get hz
theorem cH.take{m}:∀{l} {vs} (n:Nat),cH m l vs→cH m (l.take n) (vs.take n)
 | [],vs,n,h=>by rw[bB]at h;subst h;simp[bB]
 | x::xs,vs,0,h=>by simp[bB]
 | x::xs,vs,n+1,h=>by
  obtain⟨y,ys,rfl,hy,hys⟩:=aR.1 h;exact aR.2 ⟨y,ys.take n,Si,hy,cH.take n hys⟩
theorem cH.drop{m}:∀{l} {vs} (n:Nat),cH m l vs→cH m (l.drop n) (vs.drop n)
 | [],vs,n,h=>by rw[bB]at h;subst h;simp[bB]
 | x::xs,vs,0,h=>by simpa using h
 | x::xs,vs,n+1,h=>by
  obtain⟨y,ys,rfl,hy,hys⟩:=aR.1 h
  simpa using cH.drop n hys
theorem VR.one{m x v}(h:VR m x v)(hx:x.one=true):v.cells=#[v]:=by
 exact Qc
def VR.tV{m x v}(h:VR m x v)(hx:x.one=true):v.oneCell' =true:=by
 exact Qc
theorem VR.cells{m x v}(h:VR m x v):cH m x.cells v.cells.toList:=by
 by_cases hx:x.one=true
 ·have hc:x.cells= [x]:=by cases x<;>first| rfl| cases hx
  rw[h.one hx,hc];exact aR.2 ⟨v,[],rfl,h,bB.2 rfl⟩
 ·cases x with
  | agg l=>rw[VR]at h;obtain⟨l',rfl,hl⟩:=h;exact hl
  | dL l=>exact aR.2 ⟨v,[],by rw[VR]at h;obtain⟨l',rfl,hl⟩:=h;rfl,h,bB.2 rfl⟩
  | kf=>exact aR.2 ⟨v,[],by rw[VR]at h;subst h;rfl,h,bB.2 rfl⟩
  | _=>exact absurd rfl hx
def val(ts:TS):cT→AV
 | .t i=>ts.getD i aA
 | .c v=>v
 | .g i=>.ptr i 0
 | .f i=>.func (.func i) [] []
def put(ts:TS)(d:Option Nat)(v:AV):TS:=
 match d with
 | some d=>ts.set d v
 | none=>ts
def wanted(g:Option (Nat×Bool))(ts:TS):Prop:=
 match g with
 | none=>True
 | some (t,b)=>ts[t]? =some (.bool b)
def eo(h:ah)(b:Nat):Bool:=
 match h[b]? with
 | some (.cells _ _ tl)=>tl
 | _=>false
def mw:Nat→Value→Option AV
 | 0,_=>none
 | n+1,v=>
  match v with
  | .bool b=>some (.bool b)
  | .int k i=>some (.int k i)
  | .float k b=>some (.wG k b)
  | .complex k x y=>some (.wk k x y)
  | .string s=>some (.str s.data.toList)
  | .pointer none=>some .nilPtr
  | .slice none 0 0=>some .af
  | .map none=>some .cQ
  | .nilFunc=>some .nilFunc
  | .agg cs=>(cs.toList.mapM (mw n)).map .agg
  | .tuple cs=>(cs.toList.mapM (mw n)).map .dL
  | _=>none
def cP:Operand→Option cT
 | .tmp t=>some (.t t)
 | .const v=>(mw 4 v).map .c
 | .global g=>some (.g g)
 | .func f=>some (.f f)
def D0:Operand→Option cT
 | .global _=>none
 | x=>cP x
def yQ(l:Array Operand):Option (List cT):=l.toList.mapM cP
def vp:Option Operand→Option (Option cT)
 | none=>some none
 | some x=>(cP x).map some
def jD:TypeDesc→Bool
 | .struct _=>true
 | .array _ _=>true
 | _=>false
def AJ(P:Program)(t:TypeId):Option (Option Nat):=
 match P.underlying t with
 | some d=>if jD d then(P.info? t).map fun i=>some i.size else some none
 | none=>none
def dR(P:Program)(t:TypeId):Option Nat:=(P.info? t).map (·.size)
def jm(P:Program)(t:TypeId):Option AV:=(P.info? t).bind fun i=>i.zero.bind (mw 4)
def wa(P:Program)(F:TypeId→Option (List CK)):List Field→Nat→Option (List CK)
 | [],_=>some []
 | f::fs,off=>
  match F f.type,P.info? f.type with
  | some ks,some i=>
   if f.name≠ "_"∧f.offset=off∧i.size=ks.length∧0 < ks.length then
    match wa P F fs (off+ks.length)with
    | some r=>some (ks++r)
    | none=>none
   else none
  | _,_=>none
def flat(P:Program):Nat→TypeId→Option (List CK)
 | 0,_=>none
 | d+1,t=>
  match P.underlying t with
  | some .bool=>some [.b]
  | some (.int _)=>some [.i]
  | some .string=>some [.s]
  | some (.struct fs)=>if P.stoodInHeld t=false then wa P (flat P d) fs.toList 0 else none
  | some (.array len e)=>
   match flat P d e,P.info? e with
   | some ks,some i=>if i.size=ks.length∧0 < ks.length then some (List.replicate len ks).flatten else none
   | _,_=>none
  | _=>none
def H6(P:Program)(neg:Bool)(t:TypeId)(x y:cT):Option oZ:=
 match P.underlying t with
 | some (.int _)=>some (.bin (if neg then .neq else .eql) x y)
 | some .string=>some (.bin (if neg then .neq else .eql) x y)
 | some (.float _)=>some (.bin (if neg then .neq else .eql) x y)
 | some .bool=>some (.eqv neg (.one .b) x y)
 | some (.struct _)=>if P.eqGuardType P.depth t=false then(flat P 20 t).map fun ks=>.eqv neg (.agg ks) x y else none
 | some (.array _ _)=>if P.eqGuardType P.depth t=false then(flat P 20 t).map fun ks=>.eqv neg (.agg ks) x y else none
 | some (.slice _)=>some (.eqv neg .xY x y)
 | some (.pointer _)=>some (.eqv neg .xZ x y)
 | some (.func _ _ _)=>some (.eqv neg .pg x y)
 | some (.map _ _)=>some (.eqv neg .KS x y)
 | _=>none
def Ek(P:Program)(e:TypeId):Bool:=
 match P.underlying e with
 | some (.int .u8)=>true
 | _=>false
def CA(P:Program)(s d:TypeId):Option zu:=
 match P.underlying s,P.underlying d with
 | some (.int _),some (.int k)=>some (.uc k)
 | some (.int _),some (.float k)=>some (.Ok k)
 | some (.float _),some (.int k)=>some (.OE k)
 | some (.float _),some (.float k)=>some (.OF k)
 | some .string,some .string=>some .same
 | some .string,some (.slice e)=>if Ek P e=true then some .Nk else none
 | some (.slice e),some .string=>if Ek P e=true then some .I8 else none
 | _,_=>none
def fieldAt(P:Program)(t:TypeId)(i:Nat):Option Field:=
 match P.underlying t with
 | some (.struct fs)=>fs[i]?
 | _=>none
def jq(P:Program)(t:TypeId)(i:Nat):Option (Nat×Nat):=
 match P.underlying t with
 | some (.struct fs)=>
  match fs.toList.mapM (fun f=>(P.info? f.type).map fun i=>(f.offset,i.size))with
  | some places=>places[i]?
  | none=>none
 | some (.array _ e)=>(P.info? e).map fun ie=>(i * ie.size,ie.size)
 | _=>none
def nQ(P:Program)(t:TypeId):Bool:=
 match P.underlying t with
 | some (.struct fs)=>(fs.toList.mapM (fun f=>(P.info? f.type).map fun i=>(f.offset,i.size))).isSome
 | some (.array _ e)=>(P.info? e).isSome
 | _=>false
def mh(P:Program)(t:TypeId):List (Nat×Operand)→Option (List (Nat×Nat×cT))
 | []=>some []
 | (i,x)::r=>
  match jq P t i,cP x,mh P t r with
  | some (off,n),some y,some r=>some ((off,n,y)::r)
  | _,_,_=>none
def dS(P:Program)(t:TypeId):Option (TypeId×TypeInfo):=
 match P.underlying t with
 | some (.slice e)=>(P.info? e).map fun i=>(e,i)
 | _=>none
def oa(P:Program)(b:Builtin)(ts:Array TypeId)(args:List cT):Option oZ:=
 match b,args with
 | .len,[x]=>
  match (ts[0]?).bind P.underlying with
  | some (.slice _)=>some (.len .sl x)
  | some .string=>some (.len .st x)
  | some (.map _ _)=>some (.len .mp x)
  | some (.array n _)=>some (.zW n)
  | _=>none
 | .append,[x,y]=>
  match (ts[0]?).bind (dS P),(ts[1]?).bind P.underlying with
  | some (_,i),some (.slice _)=>if 0 < i.size∧0 < i.bytes∧i.bytes≤2^20 then(i.zero.bind (mw 4)).bind fun z=>if z.cells.length=i.size then some (.app i.size i.bytes x y)else none else none
  | some (_,i),some .string=>if 0 < i.size∧0 < i.bytes∧i.bytes≤2^20 then(i.zero.bind (mw 4)).bind fun z=>if z.cells.length=i.size then some (.app i.size i.bytes x y)else none else none
  | _,_=>none
 | .copy,[x,y]=>
  match (ts[0]?).bind (dS P)with
  | some (_,i)=>if 0 < i.size then some (.wI i.size x y)else none
  | _=>none
 | .max,x::l=>some (.mx x l)
 | .min,x::l=>some (.mn x l)
 | _,_=>none
def x6(P:Program)(t:TypeId):Option CK:=
 match P.underlying t with
 | some (.int _)=>some .i
 | some .string=>some .s
 | some .bool=>some .b
 | _=>none
def BZ:Fn→Bool
 | .yield _=>false
 | _=>true
def dX(P:Program)(o:Oper):Option oZ:=
 match o.op with
 | .move x=>(cP x).map .aF
 | .assign x=>(cP x).map .aF
 | .pick c a b=>
  match cP c,cP a,cP b with
  | some c,some a,some b=>some (.pick c a b)
  | _,_,_=>none
 | .alloc e=>
  match jm P e with
  | some z=>if z.cells.all AV.one then some (.box (.c z))else none
  | none=>none
 | .box _ x=>(cP x).map .box
 | .build t ps=>
  match jm P t,mh P t ps.toList with
  | some z,some l=>if nQ P t=true then some (.build z.cells l)else none
  | _,_=>none
 | .buildSlice t n ps=>
  match dS P t with
  | some (e,i)=>
   match jm P e,ps.toList.mapM fun p=>(cP p.2).map fun y=>(p.1 * i.size,y)with
   | some z,some l=>if 0 < i.size∧z.cells.length=i.size∧z.cells.all AV.one∧n * i.size≤2^24 then some (.aE i.size n z.cells l)else none
   | _,_=>none
  | none=>none
 | .load t a=>
  match AJ P t,cP a with
  | some n,some a=>some (.load n a)
  | _,_=>none
 | .store t a x=>
  match dR P t,cP a,cP x with
  | some n,some a,some x=>some (.store n a x)
  | _,_,_=>none
 | .nilCheck x=>(cP x).map .bt
 | .binOp op t x y _=>
  match cP x,cP y with
  | some x,some y=>
   match op with
   | .eql=>H6 P false t x y
   | .neq=>H6 P true t x y
   | _=>some (.bin op x y)
  | _,_=>none
 | .unOp op _ x=>(cP x).map (.un op)
 | .convert s d x=>
  match CA P s d,cP x with
  | some k,some x=>some (.conv k x)
  | _,_=>none
 | .makeInterface t x=>
  match P.underlying t,cP x with
  | some (.interface _),_=>none
  | some _,some x=>some (.conv (.qh t) x)
  | _,_=>none
 | .makeFunc fn a c=>
  if BZ fn=true then
   match yQ a,yQ c with
   | some a,some c=>some (.kQ fn a c)
   | _,_=>none
  else none
 | .makeMap _ none=>some .lE
 | .makeSlice t l c=>
  match dS P t,cP l,cP c with
  | some (e,i),some l,some c=>
   match jm P e with
   | some z=>if 0 < i.size∧z.cells.length=i.size∧z.cells.all AV.one then some (.sg i.size i.bytes z.cells l c)else none
   | none=>none
  | _,_,_=>none
 | .slice t x lo hi none=>
  match cP x,vp lo,vp hi with
  | some x,some lo,some hi=>
   match P.underlying t with
   | some .string=>some (.pL x lo hi)
   | some (.slice e)=>(dR P e).map fun n=>.sl n x lo hi
   | some (.array k e)=>(dR P e).map fun n=>.Mz k n x lo hi
   | _=>none
  | _,_,_=>none
 | .fieldAddr t x i=>
  match fieldAt P t i,cP x with
  | some f,some x=>
   match dR P f.type with
   | some n=>if 0 < n then some (.aP f.offset x)else none
   | none=>none
  | _,_=>none
 | .indexAddr t x i=>
  match cP x,cP i with
  | some x,some i=>
   match P.underlying t with
   | some (.slice e)=>(dR P e).map fun n=>.aS n x i
   | some (.array k e)=>(dR P e).map fun n=>.sj k n x i
   | _=>none
  | _,_=>none
 | .field t x i=>
  match fieldAt P t i,cP x with
  | some f,some x=>(AJ P f.type).map fun n=>.part n f.offset x
  | _,_=>none
 | .index t x i=>
  match cP x,cP i with
  | some x,some i=>
   match P.underlying t with
   | some .string=>some (.qe x i)
   | some (.array k e)=>
    match dR P e,AJ P e with
    | some n,some q=>some (.I6 k n q x i)
    | _,_=>none
   | _=>none
  | _,_=>none
 | .lookup t m k ok=>
  match P.underlying t,cP m,cP k with
  | some (.map kt e),some m,some k=>
   match x6 P kt,jm P e with
   | some kk,some z=>some (.look kk z ok m k)
   | _,_=>none
  | _,_,_=>none
 | .mapUpdate t m k x=>
  match P.underlying t,cP m,cP k,cP x with
  | some (.map kt _),some m,some k,some x=>(x6 P kt).map fun kk=>.fj kk m k x
  | _,_,_,_=>none
 | .insert t m k x=>
  match P.underlying t,cP m,cP k,cP x with
  | some (.map kt _),some m,some k,some x=>(x6 P kt).map fun kk=>.fj kk m k x
  | _,_,_,_=>none
 | .range t x=>
  match P.underlying t with
  | some .string=>(cP x).map .xD
  | _=>none
 | .next x true=>(cP x).map .nS
 | .extract x i=>(cP x).map fun x=>.ext x i
 | .call c=>
  match yQ c.args with
  | some l=>
   match c.callee with
   | .value f=>(cP f).map fun f=>.call f l
   | .invoke r name=>(cP r).map fun r=>.call (.c (.func (.method name) [] [])) (r::l)
   | .builtin b=>oa P b c.argTypes l
  | none=>none
 | _=>none
def ud(ops:Array Oper)(g:Option (Nat×Bool)):Option (Option (Nat×Bool)):=
 match g with
 | none=>some none
 | some (j,b)=>((ops[j]?).bind (·.dst)).map fun d=>some (d,b)
def MB(P:Program):Operand→Bool
 | .global g=>decide (g < P.globals.size)
 | _=>true
def bP(P:Program)(ops:Array Oper)(q:Bool)(o:Oper):Option bJ:=
 match ud ops o.guard with
 | some g=>some { dst:=o.dst,k:=if o.op.operands.all (MB P)then(dX P o).getD .bad else .bad,gd:=g,q:=q }
 | none=>none
def ahead(M:Array Nat)(i j:Nat):Bool:=(M.getD j 0).testBit i
def km(M:Array Nat)(ops:Array Oper):Bool:=
 (List.range ops.size).all fun j=>
  match ops[j]? with
  | none=>true
  | some o=>
   (o.after.toList.all fun e=>!Region.binds .any e|| decide (e.on < j)) &&
   ((List.range ops.size).all fun i=>!ahead M i j|| o.after.toList.any fun e=>Region.binds .any e && (e.on==i|| ahead M i e.on))
def lR(M:Array Nat)(ops:Array Oper):Bool:=
 (List.range ops.size).all fun j=>
  (List.range j).all fun i=>
   match ops[i]?,ops[j]? with
   | some x,some y=>
    (match x.dst with
     | some d=>y.dst !=some d && (!(y.looksAt ops).contains d|| ahead M i j)
     | none=>true) &&
    (match y.dst with
     | some d=>!(x.looksAt ops).contains d|| ahead M i j
     | none=>true)
   | _,_=>true
def gC(M:Array Nat)(n j:Nat):Bool:=
 (List.range n).all fun i=>i==j|| (if i < j then ahead M i j else ahead M j i)
def eG{α β:Type}(f:Nat→α→Option β):List α→Nat→Option (List β)
 | [],_=>some []
 | x::xs,i=>
  match f i x,eG f xs (i+1)with
  | some y,some ys=>some (y::ys)
  | _,_=>none
def ye:AV→Bool
 | .bool _=>true
 | .int _ _=>true
 | .wG _ _=>true
 | .wk _ _ _=>true
 | .str _=>true
 | .nilPtr=>true
 | .af=>true
 | .cQ=>true
 | .nilFunc=>true
 | _=>false
def lQ(o:bJ):Option (Nat×Nat×cT):=
 match o.dst,o.k,o.gd,o.q with
 | none,.store n (.t t) x,none,true=>some (n,t,x)
 | _,_,_,_=>none
def tC(o:bJ):Option (Nat×AV):=
 match o.dst,o.k,o.gd,o.q with
 | some t,.box (.c z),none,true=>some (t,z)
 | _,_,_,_=>none
def fx(ops:Array Oper)(j t:Nat):Bool:=
 match ops[j]? with
 | some o=>(o.looksAt ops).contains t
 | none=>false
def pf(ops:Array Oper)(l:List bJ)(k s:Nat):Bool:=
 match (l[k]?).bind tC,(l[s]?).bind lQ with
 | some (t,z),some (n,t',x)=>
  t==t' && z.cells.length==n && z.cells.all ye && (match x with| .t u=>u !=t && fx ops s u| _=>true) && fx ops s t && (List.range ops.size).all fun j=>j==s|| !fx ops j t
 | _,_=>false
def Oi(ops:Array Oper)(l:List bJ)(s:Nat):Option Nat:=(List.range s).find? fun k=>pf ops l k s
def Ni(ops:Array Oper)(l:List bJ)(k:Nat):Option Nat:=(List.range l.length).find? fun s=>decide (k < s) && pf ops l k s
def tu(ops:Array Oper)(l:List bJ)(j:Nat)(o:bJ):bJ:=
 match lQ o with
 | some (n,t,x)=>
  match Oi ops l j with
  | some _=>{ dst:=some t,k:=.nh n x,gd:=none,q:=true }
  | none=>o
 | none=>
  match tC o with
  | some _=>
   match Ni ops l j with
   | some _=>{ dst:=none,k:=.aF (.c (.bool false)),gd:=none,q:=true }
   | none=>o
  | none=>o
def pZ(ops:Array Oper)(l:List bJ):Nat→List bJ→List bJ
 | _,[]=>[]
 | j,o::r=>tu ops l j o::pZ ops l (j+1) r
def cK(P:Program)(ops:Array Oper)(draw:Bool):Option (List bJ):=
 if draw then
  let M:=Region.before ops
  if km M ops && lR M ops then
   (eG (fun i o=>bP P ops (!gC M ops.size i) o) ops.toList 0).map fun l=>pZ ops l 0 l
  else none
 else eG (fun _ o=>bP P ops false o) ops.toList 0
def fp:oZ→Bool
 | .aF _=>true
 | .pick _ _ _=>true
 | .bin _ _ _=>true
 | .eqv _ _ _ _=>true
 | .un _ _=>true
 | .conv (.uc _) _=>true
 | .aP _ _=>true
 | .sj _ _ _ _=>true
 | .aS _ _ _=>true
 | .part _ _ _=>true
 | .I6 _ _ _ _ _=>true
 | .qe _ _=>true
 | .ext _ _=>true
 | .bt _=>true
 | .mx _ _=>true
 | .mn _ _=>true
 | .build _ _=>true
 | .pL _ _ _=>true
 | .sl _ _ _ _=>true
 | .zW _=>true
 | .kQ _ _ _=>true
 | .len .sl _=>true
 | .len .st _=>true
 | _=>false
def cC:oZ→Bool
 | .load _ _=>true
 | k=>fp k
def CU:oZ→Bool
 | .box _=>true
 | .aE _ _ _ _=>true
 | .lE=>true
 | _=>false
def En:oZ→Bool
 | .call _ _=>true
 | _=>false
def kB(o:bJ):Bool:=CU o.k|| (o.q && En o.k)
def Em(o:Oper):Bool:=
 match o.op with
 | .call c=>
  match c.callee with
  | .builtin _=>false
  | _=>true
 | _=>false
def El(o:Oper):Bool:=
 o.guard.isNone && match o.op with
 | .load _ _=>true
 | _=>false
def si(c:Nat)(o:Oper):Bool:=(decide (1≤c) && Em o)|| (decide (2≤c) && El o)
def mD(o:bJ):Bool:=
 o.q && match o.k with
 | .load _ _=>true
 | _=>false
def nU(M:Array Nat)(l:List bJ):Bool:=
 (List.range l.length).all fun j=>
  (List.range j).all fun i=>
   match l[i]?,l[j]? with
   | some x,some y=>fp x.k|| fp y.k|| mD x|| mD y|| (cC x.k && (cC y.k|| kB y))|| (kB x && cC y.k)|| ahead M i j
   | _,_=>true
def yN(o:bJ):Bool:=
 o.q && match o.k with
  | .store _ _ _=>true
  | _=>false
def Lu(o:bJ):Bool:=
 o.q && match o.k with
  | .store _ _ _=>true
  | .app _ _ _ _=>true
  | .wI _ _ _=>true
  | .fj _ _ _ _=>true
  | _=>false
def B9(o:bJ):Bool:=fp o.k|| match o.k with
 | .store _ _ _=>true
 | _=>false
def Lk(o:bJ):Bool:=match o.k with
 | .store _ _ _=>true
 | _=>false
def kg(l:List bJ):Bool:=l.all B9 && decide ((l.filter Lk).length≤2)
def dD:List bJ→Nat
 | []=>0
 | o::r=>if kg (o::r)=true then 0 else dD r+1
def mX(M:Array Nat)(l:List bJ):Bool:=
 (List.range l.length).all fun i=>
  match l[i]? with
  | some x=>!mD x|| (List.range l.length).all fun j=>
    match l[j]? with
    | some y=>cC y.k|| decide (j < dD l)|| ahead M i j
    | none=>true
  | none=>true
def rl(M:Array Nat)(l:List bJ)(f:Nat):Bool:=
 (List.range l.length).all fun j=>
  (List.range j).all fun i=>
   match l[i]?,l[j]? with
   | some x,some y=>fp x.k|| fp y.k|| mD x|| mD y|| decide (j=f)|| ahead M i j
   | _,_=>true
def v8(ops:Array Oper)(l:List bJ)(f:Nat):Bool:=
 match l[f]? with
 | some { dst:=some d,k:=.aE _ _ z ps,gd:=none,q:=_ }=>z.all ye && ps.all (fun p=>match p.2 with| .t u=>fx ops f u| _=>false) && (List.range l.length).all fun j=>
   match l[j]? with
   | some o=>!cC o.k|| ((fp o.k|| mD o) && !fx ops j d)
   | none=>true
 | _=>false
def Gh(M:Array Nat)(ops:Array Oper)(l:List bJ):Option Nat:=(List.range l.length).find? fun f=>v8 ops l f && rl M l f
def L5(l:List bJ):Bool:=l.any fun o=>o.q && match o.k with
 | .app _ _ (.t d) _=>l.any fun p=>p.dst==some d && match p.k with
  | .app _ _ _ _=>true
  | _=>false
 | _=>false
def ng(P:Program)(ops:Array Oper)(draw:Bool):Option ai:=
 match cK P ops draw with
 | none=>none
 | some l=>
  if l.any Lu=true∧draw=true then
   match eG (fun _ o=>bP P ops (si 0 o) o) ops.toList 0,eG (fun _ o=>bP P ops (si 1 o) o) ops.toList 0,eG (fun _ o=>bP P ops (si 2 o) o) ops.toList 0 with
   | some l',some l2,some l3=>if(nU (Region.before ops) l' && !l'.any mD)=true then some (.ops l')else if(nU (Region.before ops) l2 && !l2.any mD)=true then some (.ops l2)else if(l.any yN && (Gh (Region.before ops) ops l3).isSome && mX (Region.before ops) l3)=true then some (.lC l3)else if l.any yN=true then(if(decide (2 < (l.filter Lk).length) && nU (Region.before ops) l3 && mX (Region.before ops) l3)=true then some (.lC l3)else some (.sf l'))else if(nU (Region.before ops) l3 && mX (Region.before ops) l3)=true then some (.lC l3)else if(L5 l && (Gh (Region.before ops) ops l3).isSome && mX (Region.before ops) l3)=true then some (.lC l3)else some (.ops l)
   | _,_,_=>none
  else some (.ops l)
def compile(P:Program):Code→Option ai
 | .skip=>some .skip
 | .region _ ops draw=>ng P ops draw
 | .seq a b=>
  match compile P a,compile P b with
  | some x,some y=>some (.seq x y)
  | _,_=>none
 | .cond c a b=>
  match D0 c,compile P a,compile P b with
  | some c,some x,some y=>some (.cond c x y)
  | _,_,_=>none
 | .block id a=>(compile P a).map (.block id)
 | .loop a=>(compile P a).map .loop
 | .exit id=>some (.exit id)
 | .ret=>some .ret
 | .label _=>some .skip
 | .scope a=>compile P a
 | .rangeFunc g ps asg body=>
  match D0 g,compile P asg,compile P body with
  | some g,some x,some y=>some (.eJ g ps.toList x y)
  | _,_,_=>none
 | .goto _=>some .bad
 | .refuse _=>some .bad
structure ar where
 nt:Nat
 np:Nat
 rs:List (Nat×Option (Option Nat))
 body:ai
def tS(P:Program):ResultVar→Option (Nat×Option (Option Nat))
 | .tmp t=>some (t,none)
 | .cell a t=>(AJ P t).map fun n=>(a,some n)
def bQ(P:Program)(f:FuncId):Option ar:=
 match P.funcs[f]? with
 | none=>none
 | some fn=>
  match fn.body with
  | none=>none
  | some c=>
   match compile P c,fn.results.toList.mapM (tS P)with
   | some b,some rs=>if fn.name== "runtime.NumGoroutine" then none else some { nt:=fn.ntmps,np:=fn.params.size,rs:=rs,body:=b }
   | _,_=>none
def Er(P:Program)(g:Nat):Nat:=
 match P.globals[g]? with
 | some G=>
  match P.info? G.type with
  | some i=>i.size
  | none=>0
 | none=>0
def BR(P:Program)(m:bY)(w:World)(e:sI):ak→Prop
 | .cells c mu tl=>∃cc el fz,w.heap[e.cb]? =some (.cells cc el fz)∧(e.d+c.length≤cc.size∧e.d+c.length≤e.sz∧cc.size=e.sz)∧
   (∀ (i:Nat) (x:AV),c[i]? =some x→x.one=true∧∃v,cc[e.d+i]? =some v∧VR m x v)∧
   (e.own=true→cc.size=e.sz∧∀i,i < cc.size→¬ (fz.1≤i∧i < fz.2))∧((mu=true∨tl=true)→e.own=true∧(tl=false→e.sz=e.d+c.length))
 | .dead=>True
 | .bn es=>e.own=true∧∃S3 clock,w.heap[e.cb]? =some (.map S3 clock)∧S3.size=es.length∧
   ∀ (i:Nat) (p:AV×AV),es[i]? =some p→∃q,S3[i]? =some q∧VR m p.1 q.key∧VR m p.2 q.val
 | .iter s pos=>e.own=true∧e.d=0∧w.heap[e.cb]? =some (.stringIter ⟨⟨s⟩⟩ pos)
 | .loop st ex ts ps asg body=>e.own=true∧∃fn tmps RU Rl df,w.heap[e.cb]? =some (.loop { state:=st,pending:=ex.jump,fn:=fn,tmps:=tmps,params:=⟨ps⟩,assign:=RU,body:=Rl,defers:=df })∧
   cH m ts tmps.toList∧compile P RU=some asg∧compile P Rl=some body
def ak.live:ak→Bool
 | .dead=>false
 | _=>true
def pN(e1 e2:sI):ak→ak→Prop
 | .cells c1 mu1 tl1,.cells c2 mu2 tl2=>mu1=false∧mu2=false∧(tl1=true→tl2=false∧e2.d+c2.length≤e1.d+c1.length)
 | .dead,_=>True
 | _,.dead=>True
 | _,_=>False
structure HR(P:Program)(m:bY)(h:ah)(w:World):Prop where
 cI:∀b e,m b=some e→b < h.length
 dP:∀b e k,m b=some e→h[b]? =some k→BR P m w e k
 sep:∀b1 b2 e1 e2 k1 k2,b1≠b2→m b1=some e1→m b2=some e2→h[b1]? =some k1→h[b2]? =some k2→e1.cb=e2.cb→pN e1 e2 k1 k2
 fV:∀g,g < P.globals.size→∃e,m g=some e∧e.cb=g∧e.d=0∧e.own=false∧e.sz=Er P g
 lt:∀b e,m b=some e→e.cb < w.heap.size
structure Grow(m:bY)(h:ah)(w:World)(m':bY)(h':ah)(w':World):Prop where
 ext:∀b,b < h.length→m' b=m b
 len:h.length≤h'.length
 new:∀b e,h.length≤b→m' b=some e→e.own=true∧(w.heap.size≤e.cb∨∃b0 e0,m b0=some e0∧e0.cb=e.cb∧e0.own=true∧eo h b0=true∧eo h' b0=false)
 tl:∀b,b < h.length→eo h' b=true→eo h b=true
 size:w.heap.size≤w'.heap.size
 os:w'.os=w.os
 out:w'.output=w.output
 tape:w'.tape=w.tape
 frame:∀i,i < w.heap.size→(∀b e,m b=some e→e.own=true→e.cb≠i)→w'.heap[i]? =w.heap[i]?
def Grow.refl(m:bY)(h:ah)(w:World)(hd:∀b e,m b=some e→b < h.length):Grow m h w m h w where
 ext:=fun _ _=>rfl
 len:=Yg _
 new:=fun b e hb he=>absurd (hd b e he) Om
 tl:=fun _ _ h=>h
 size:=Yg _
 os:=rfl
 out:=rfl
 tape:=rfl
 frame:=fun _ _ _=>rfl
theorem Grow.le{m m' h h' w w'}(g:Grow m h w m' h' w')(hd:∀b e,m b=some e→b < h.length):m.le m':=
 fun b e he=>by rw[g.ext b (hd b e he)];exact he
theorem Grow.trans{m m1 m2 h h1 h2 w w1 w2}(a:Grow m h w m1 h1 w1)(b:Grow m1 h1 w1 m2 h2 w2)
  (hd:∀b e,m b=some e→b < h.length):Grow m h w m2 h2 w2 where
 ext:=fun i hi=>(b.ext i (YU hi a.len)).trans (a.ext i hi)
 len:=YQ a.len b.len
 new:=by
  intro i e hi he;by_cases h1i:h1.length≤i
  ·obtain⟨ho,hc⟩:=b.new i e h1i he;refine⟨ho,?_⟩;rcases hc with hc| ⟨b0,e0,R9,hcb,ho0,Tb,Vy⟩
   ·exact .inl (YQ a.size hc)
   ·by_cases hb:h.length≤b0
    ·obtain⟨_,hc0⟩:=a.new b0 e0 hb R9;rcases hc0 with hc0| ⟨b00,e00,hb00,XS,ho00,ht00,Wg⟩
     ·exact .inl (hcb▸hc0)
     ·refine .inr ⟨b00,e00,hb00,XS.trans hcb,ho00,ht00,?_⟩;cases hx:eo h2 b00 with
      | false=>rfl
      | true=>
       have hlt:=hd _ _ hb00;rw[b.tl b00 (YU hlt a.len) hx]at Wg;cases Wg
    ·have hlt:b0 < h.length:=Om
     rw[a.ext b0 hlt]at R9;exact .inr ⟨b0,e0,R9,hcb,ho0,a.tl b0 hlt Tb,Vy⟩
  ·have hi1:i < h1.length:=Om
   rw[b.ext i hi1]at he;obtain⟨ho,hc⟩:=a.new i e hi he;refine⟨ho,?_⟩;rcases hc with hc| ⟨b0,e0,R9,hcb,ho0,Tb,Vy⟩
   ·exact .inl hc
   ·refine .inr ⟨b0,e0,R9,hcb,ho0,Tb,?_⟩;cases hx:eo h2 b0 with
    | false=>rfl
    | true=>
     have hlt:=hd _ _ R9;rw[b.tl b0 (YU hlt a.len) hx]at Vy;cases Vy
 tl:=fun i hi ht=>a.tl i hi (b.tl i (YU hi a.len) ht)
 size:=YQ a.size b.size
 os:=b.os.trans a.os
 out:=b.out.trans a.out
 tape:=b.tape.trans a.tape
 frame:=by
  intro i hi hno;refine(b.frame i (YU hi a.size) ?_).trans (a.frame i hi hno);intro j e he ho hcb;by_cases hj:h.length≤j
  ·obtain⟨_,hc⟩:=a.new j e hj he;rcases hc with hc| ⟨b0,e0,R9,XS,ho0,_,_⟩
   ·omega
   ·exact hno b0 e0 R9 ho0 (XS.trans hcb)
  ·rw[a.ext j Om]at he;exact hno j e he ho hcb
theorem BR.heap{P m w w' e k}(h:BR P m w e k)(hw:w'.heap[e.cb]? =w.heap[e.cb]?):BR P m w' e k:=by
 cases k<;>simp only[BR,hw]at h ⊢<;>exact h
theorem BR.mono{P m m' w e k}(hm:m.le m')(h:BR P m w e k):BR P m' w e k:=by
 cases k with
 | cells c mu tl=>
  obtain⟨cc,el,fz,h1,h2,h3,h4⟩:=h;exact⟨cc,el,fz,h1,h2,fun i x hx=>by obtain⟨ho,v,hv,hr⟩:=h3 i x hx;exact⟨ho,v,hv,VR.mono hm _ _ hr⟩,h4⟩
 | dead=>trivial
 | bn es=>
  obtain⟨ho,S3,clock,h1,h2,h3⟩:=h;exact⟨ho,S3,clock,h1,h2,fun i p hp=>by obtain⟨q,hq,ha,hb⟩:=h3 i p hp;exact⟨q,hq,VR.mono hm _ _ ha,VR.mono hm _ _ hb⟩⟩
 | iter s pos=>exact h
 | loop st ex ts ps asg body=>
  obtain⟨ho,fn,tmps,RU,Rl,df,h1,h2,h3,h4⟩:=h;exact⟨ho,fn,tmps,RU,Rl,df,h1,cH.mono hm _ _ h2,h3,h4⟩
theorem HR.drew{P m h w}(hr:HR P m h w):HR P m h w.drew where
 cI:=hr.cI
 dP:=fun b e k hb hk=>(hr.dP b e k hb hk).heap rfl
 sep:=hr.sep
 fV:=hr.fV
 lt:=hr.lt
theorem Grow.drew{m h w m' h' w'}(g:Grow m h w m' h' w'):Grow m h w m' h' w'.drew:=
 ⟨g.ext,g.len,g.new,g.tl,g.size,g.os,g.out,g.tape,g.frame⟩
def Grow.Cv{m h w m' h' w'}(g:Grow m h w.drew m' h' w'):Grow m h w m' h' w':=
 ⟨g.ext,g.len,g.new,g.tl,g.size,g.os,g.out,g.tape,g.frame⟩
def BR.lt{P m w e k}(h:BR P m w e k)(hl:k.live=true):e.cb < w.heap.size:=by
 cases k with
 | cells c mu tl=>obtain⟨cc,el,fz,h1,_⟩:=h;exact(Ym.1 h1).1
 | dead=>cases hl
 | bn es=>obtain⟨_,S3,clock,h1,_⟩:=h;exact(Ym.1 h1).1
 | iter s pos=>exact(Ym.1 h.2.2).1
 | loop st ex ts ps asg body=>obtain⟨_,fn,tmps,RU,Rl,df,h1,_⟩:=h;exact(Ym.1 h1).1
def bY.add(m:bY)(b:Nat)(e:sI):bY:=fun x=>if x=b then some e else m x
def bY.rM{m:bY}{b:Nat}(e:sI)(h:m b=none):m.le (m.add b e):=by
 intro x y hx;unfold bY.add;by_cases hb:x=b
 ·subst hb;rw[h]at hx;cases hx
 ·rw[Yd hb];exact hx
def fA{h k b}(hb:b < h.length):eo (h++ [k]) b=eo h b:=by
 unfold eo;rw[X5 hb]
def jZ{P:Program}{m:bY}{h:ah}{w:World}(hr:HR P m h w)(o:Obj)(k:ak)(e:sI)(he:e.cb=w.heap.size)(ho:e.own=true)
  (hk:∀m':bY,m.le m'→BR P m' (w.alloc o) e k):
  HR P (m.add h.length e) (h++ [k]) (w.alloc o)∧Grow m h w (m.add h.length e) (h++ [k]) (w.alloc o):=by
 have RZ:m h.length=none:=by
  exact Mt
 have hle:=bY.rM e RZ;have hold:∀b x,m b=some x→(m.add h.length e) b=some x:=hle;have hheap:∀i,i < w.heap.size→(w.alloc o).heap[i]? =w.heap[i]? :=fun i hi=>Go.RowKit.Below.heap_alloc w o i hi
 have UO:∀b x k',m b=some x→h[b]? =some k'→k'.live=true→x.cb < w.heap.size:=fun b x k' hb hk' hl=>(hr.dP b x k' hb hk').lt hl
 refine⟨⟨?_,?_,?_,?_,?_⟩,⟨?_,Si,?_,?_,Si,rfl,rfl,rfl,fun i hi _=>hheap i hi⟩⟩
 ·intro b x hb;unfold bY.add at hb;by_cases hbl:b=h.length
  ·subst hbl;simp
  ·rw[Yd hbl]at hb;have:=hr.cI _ _ hb;simp;omega
 ·intro b x k' hb hk';unfold bY.add at hb;by_cases hbl:b=h.length
  ·subst hbl;rw[Yh rfl]at hb;cases hb;simp at hk';subst hk';exact hk _ hle
  ·rw[Yd hbl]at hb;have hlt:=hr.cI _ _ hb;rw[X5 hlt]at hk';have h0:=hr.dP b x k' hb hk';by_cases hl:k'.live=true
   ·exact(h0.mono hle).heap (hheap _ (h0.lt hl))
   ·cases k'<;>first| trivial| exact absurd rfl hl
 ·intro b1 b2 e1 e2 k1 k2 hne h1 h2 hk1 QY hcb;unfold bY.add at h1 h2;by_cases Rq:b1=h.length
  ·subst Rq;rw[Yh rfl]at h1;cases h1;have RG:b2≠h.length:=fun x=>hne x.symm
   rw[Yd RG]at h2;have hlt:=hr.cI _ _ h2;rw[X5 hlt]at QY;by_cases hl:k2.live=true
   ·have:=UO _ _ _ h2 QY hl;omega
   ·cases k2<;>first| (cases k1<;>trivial)| exact absurd rfl hl
  ·rw[Yd Rq]at h1;have hlt1:=hr.cI _ _ h1;rw[X5 hlt1]at hk1;by_cases RG:b2=h.length
   ·subst RG;rw[Yh rfl]at h2;cases h2;by_cases hl:k1.live=true
    ·have:=UO _ _ _ h1 hk1 hl;omega
    ·cases k1<;>first| trivial| exact absurd rfl hl
   ·rw[Yd RG]at h2;have R1:=hr.cI _ _ h2;rw[X5 R1]at QY;exact hr.sep b1 b2 e1 e2 k1 k2 hne h1 h2 hk1 QY hcb
 ·intro g hg;obtain⟨x,hx,h1⟩:=hr.fV g hg;exact⟨x,hold _ _ hx,h1⟩
 ·intro b x hb;unfold bY.add at hb;simp only[World.size_alloc];by_cases hbl:b=h.length
  ·rw[Yh hbl]at hb;cases hb;omega
  ·rw[Yd hbl]at hb;have:=hr.lt _ _ hb;omega
 ·intro b hb;unfold bY.add;rw[Yd Om]
 ·intro b x hb hx;unfold bY.add at hx;by_cases hbl:b=h.length
  ·rw[Yh hbl]at hx;cases hx;exact⟨ho,.inl Om⟩
  ·rw[Yd hbl]at hx;exact absurd (hr.cI _ _ hx) Om
 ·intro b hb ht
  rwa [fA hb]at ht
def uH{P:Program}{m:bY}{w:World}{c:List AV}{vs:List Value}(hc:cH m c vs)(h1:c.all AV.one=true)(el:TypeId)(mu tl:Bool)(m':bY)(hm:m.le m'):
  BR P m' (w.alloc (.cells ⟨vs⟩ el)) ⟨w.heap.size,0,vs.length,true⟩ (.cells c mu tl):=by
 refine⟨⟨vs⟩,el,(0,0),World.alloc_heap_new w _,⟨by simp[hc.length],by simp[hc.length]⟩,?_,?_,fun _=>⟨rfl,fun _=>by simp[hc.length]⟩⟩
 ·intro i x hx;obtain⟨v,hv,hr⟩:=hc.get hx;exact⟨YE.1 h1 x (YW hx),v,by simpa using hv,VR.mono hm _ _ hr⟩
 ·intro _;exact⟨Si,fun i _=>by simp⟩
def lL{P m h w}(hr:HR P m h w){c vs}(hc:cH m c vs)(h1:c.all AV.one=true)(el:TypeId)(mu tl:Bool):
  ∃m',m' h.length=some ⟨w.heap.size,0,vs.length,true⟩∧HR P m' (h++ [.cells c mu tl]) (w.alloc (.cells ⟨vs⟩ el))∧Grow m h w m' (h++ [.cells c mu tl]) (w.alloc (.cells ⟨vs⟩ el)):=
 ⟨_,by simp[bY.add],jZ hr (.cells ⟨vs⟩ el) (.cells c mu tl) ⟨w.heap.size,0,vs.length,true⟩ rfl rfl (fun m' hm=>uH hc h1 el mu tl m' hm)⟩
def gD(b o n:Nat): (⟨b,o,none⟩:Addr).add n= ⟨b,o+n,none⟩:=by
 unfold Addr.add;by_cases h:n=0
 ·simp[h]
 ·simp[h]
def cell_of{P m h w}(hr:HR P m h w){b e c mu tl}(he:m b=some e)(hb:h[b]? =some (.cells c mu tl))
  {i} {x} (hx:c[i]? =some x):x.one=true∧∃v,w.cell? ⟨e.cb,i+e.d,none⟩=some v∧VR m x v:=by
 obtain⟨cc,el,fz,h1,_,h3,_⟩:=hr.dP b e _ he hb;obtain⟨ho,v,hv,QZ⟩:=h3 i x hx;exact⟨ho,v,by simp only[World.cell?,h1];rw[Nat.add_comm];simpa using hv,QZ⟩
def mT{P m h w}(hr:HR P m h w){b e c mu tl}(he:m b=some e)(hb:h[b]? =some (.cells c mu tl))
  (o n:Nat) (hn:o+n≤c.length):∃vs,(loadCells ⟨e.cb,o+e.d,none⟩ n).run P w= .ok ⟨vs⟩ w∧cH m ((c.drop o).take n) vs∧((c.drop o).take n).all AV.one=true:=by
 have Q4:∀j,j < n→∃x,c[o+j]? =some x:=fun j hj=>⟨c[o+j],X6 Om⟩
 have RN:∀j,j < n→∃v,w.cell? ⟨e.cb,o+e.d+j,none⟩=some v∧∃x,c[o+j]? =some x∧VR m x v:=by
  intro j hj;obtain⟨x,hx⟩:=Q4 j hj;obtain⟨_,v,hv,QZ⟩:=cell_of hr he hb hx;exact⟨v,by rw[show o+e.d+j=o+j+e.d from by omega];exact hv,x,hx,QZ⟩
 obtain⟨f,hf⟩:∃f:Nat→Value,∀j,j < n→w.cell? ⟨e.cb,o+e.d+j,none⟩=some (f j):=
  ⟨fun j=>(w.cell? ⟨e.cb,o+e.d+j,none⟩).getD default,fun j hj=>by obtain⟨v,hv,_⟩:=RN j hj;simp[hv]⟩
 have RQ:cH m ((c.drop o).take n) ((List.range n).map f):=by
  refine cH.gO (by simp;omega) fun i x hx=>?_
  have hi:i < n:=by
   have:=(X1.1 hx).1;simp at this;omega
  rw[Z8 hi,aan]at hx;obtain⟨v,hv,y,hy,QZ⟩:=RN i hi;rw[hx]at hy;cases hy;refine⟨f i,by simp[hi],?_⟩;have:=hf i hi;rw[hv]at this;cases this;exact QZ
 refine⟨(List.range n).map f,?_,RQ,?_⟩
 ·have:=run_loadCells_list (P:=P) (w:=w) ⟨e.cb,o+e.d,none⟩ ((List.range n).map f) (fun j v hj=>by
   have hi:j < n:=by
    have:=(X1.1 hj).1
    simpa using this
   rw[gD];simp[hi]at hj;rw[←hj];exact hf j hi)
  simpa using this
 ·rw[YE];intro x hx;have Q2:x∈c:=List.mem_of_mem_drop (Zd hx);obtain⟨i,hi,rfl⟩:=aad Q2;exact(cell_of hr he hb (X6 hi)).1
def fI(c:List AV)(o:Nat):List AV→List AV
 | []=>c
 | x::xs=>fI (c.set o x) (o+1) xs
def bH(h:ah)(b b':Nat)(k:ak)(hb:b < h.length): (h.set b k)[b']? =if b' =b then some k else h[b']? :=by
 rw[List.getElem?_set];by_cases e:b=b'
 ·subst e;simp[hb]
 ·have e':¬b' =b:=fun x=>e x.symm
  rw[Yd e,Yd e']
def n7{w:World}{cb i:Nat}{cc:Array Value}{el:TypeId}{fz:Nat×Nat}(h1:w.heap[cb]? =some (.cells cc el fz))(h:¬ (fz.1≤i∧i < fz.2)):w.frozen? ⟨cb,i,none⟩=false:=by
 obtain⟨lo,hi⟩:=fz;simp only[World.frozen?,h1];simp only[Bool.and_eq_false_iff,ZT];simp only at h;omega
def heap_setCell_same{w:World}{cb i:Nat}{cc:Array Value}{el:TypeId}{fz:Nat×Nat}(h1:w.heap[cb]? =some (.cells cc el fz))(v:Value):
  (w.setCell ⟨cb,i,none⟩ v).heap[cb]? =some (.cells (cc.setIfInBounds i v) el fz):=by
 obtain⟨hlt,hk⟩:=Ym.1 h1;simp only[World.setCell];rw[YT (by rw[Array.size_modify];exact hlt),Array.getElem_modify_self,hk];simp
def zE{P:Program}{m:bY}{h:ah}{w:World}(hr:HR P m h w){b:Nat}{e:sI}{c:List AV}{tl:Bool}(he:m b=some e)(hb:h[b]? =some (.cells c true tl))
  {i:Nat} (hi:i < c.length) {x:AV} {v:Value} (hx:x.one=true) (hv:VR m x v):
  (store ⟨e.cb,i+e.d,none⟩ v).run P w= .ok () (w.setCell ⟨e.cb,i+e.d,none⟩ v)∧
  HR P m (h.set b (.cells (c.set i x) true tl)) (w.setCell ⟨e.cb,i+e.d,none⟩ v)∧Grow m h w m (h.set b (.cells (c.set i x) true tl)) (w.setCell ⟨e.cb,i+e.d,none⟩ v):=by
 obtain⟨cc,el,fz,h1,⟨h2,h2'⟩,h3,h4,h5⟩:=hr.dP b e _ he hb;have hown:e.own=true:=(h5 (.inl rfl)).1;obtain⟨dZ,hfz⟩:=h4 hown;have hbl:b < h.length:=hr.cI _ _ he;have RN:∃u,w.cell? ⟨e.cb,i+e.d,none⟩=some u:=⟨cc[i+e.d]'Om,by simp only[World.cell?,h1];exact YT Om⟩;obtain⟨u,hu⟩:=RN;have hfr:w.frozen? ⟨e.cb,i+e.d,none⟩=false:=n7 h1 (hfz _ Om);have hother:∀k,k≠e.cb→(w.setCell ⟨e.cb,i+e.d,none⟩ v).heap[k]? =w.heap[k]? :=fun k hk=>Go.RowKit.Below.heap_setCell w _ v k hk
 have UD:=heap_setCell_same (i:=i+e.d) h1 v;refine⟨?_,⟨?_,?_,?_,hr.fV,fun b' e' hb'=>by simpa using hr.lt b' e' hb'⟩,⟨fun _ _=>rfl,Si,?_,?_,Si,rfl,rfl,rfl,?_⟩⟩
 ·rw[run_store P w _ v .plain (hv.tV hx),hu];simp[hfr]
 ·intro b' e' hb';simpa using hr.cI b' e' hb'
 ·intro b' e' k RX hk;rw[bH h b b' _ hbl]at hk;by_cases hbb:b' =b
  ·subst hbb;rw[Yh rfl]at hk;cases hk;rw[he]at RX;cases RX;refine⟨_,el,fz,UD,⟨by simpa using h2,by simpa using h2'⟩,?_,fun ho=>⟨by simpa using dZ,fun j hj=>hfz j (by simpa using hj)⟩,fun z=>⟨hown,fun y=>by rw[YL];exact(h5 (.inl rfl)).2 y⟩⟩;intro j y hy;rw[List.getElem?_set]at hy;by_cases hij:i=j
   ·subst hij;rw[Yh rfl,Yh hi]at hy;cases hy;refine⟨hx,v,?_,hv⟩;rw[show e.d+i=i+e.d from by omega];rw[Zm Om]
   ·rw[Yd hij]at hy;obtain⟨ho,u',UB,hr'⟩:=h3 j y hy;refine⟨ho,u',?_,hr'⟩;rw[ZL Om];exact UB
  ·rw[Yd hbb]at hk;have h0:=hr.dP b' e' k RX hk;by_cases hl:k.live=true
   ·refine h0.heap (hother _ ?_);intro hcb;have:=hr.sep b b' e e' _ k (fun x=>hbb x.symm) he RX hb hk hcb.symm;cases k<;>first| (cases hl;done)| exact absurd this.1 Si| exact this
   ·cases k<;>first| trivial| exact absurd rfl hl
 ·intro b1 b2 e1 e2 k1 k2 hne Sj Q6 hk1 QY hcb;rw[bH h b _ _ hbl]at hk1 QY;by_cases Rq:b1=b
  ·subst Rq;rw[Yh rfl]at hk1;cases hk1;rw[Yd (fun x=>hne x.symm)]at QY;have:=hr.sep b1 b2 e1 e2 _ k2 hne Sj Q6 hb QY hcb;cases k2<;>first| trivial| exact absurd this.1 Si| exact this.elim
  ·rw[Yd Rq]at hk1;by_cases RG:b2=b
   ·subst RG;rw[Yh rfl]at QY;cases QY;have:=hr.sep b1 b2 e1 e2 k1 _ hne Sj Q6 hk1 hb hcb;cases k1<;>first| trivial| exact absurd this.2.1 Si| exact this.elim
   ·exact Ms
 ·intro b' e' hb' RX;exact absurd (hr.cI _ _ RX) Om
 ·intro b' hb' ht;unfold eo at ht ⊢;rw[bH h b b' _ hbl]at ht;by_cases hbb:b' =b
  ·subst hbb;rw[Yh rfl]at ht;rw[hb];exact ht
  ·exact Dg
 ·intro k hk hno;exact hother k (fun hcb=>hno b e he hown hcb.symm)
theorem o9{P m}:∀ (xs:List AV) (vs:List Value) {h} {w} (_:HR P m h w) {b} {e} {c} {tl} (_:m b=some e) (_:h[b]? =some (.cells c true tl))
  (a j:Nat) (_:a+j+xs.length≤c.length) (_:xs.all AV.one=true) (_:cH m xs vs),
  ∃w',(storeCells ⟨e.cb,a+e.d,none⟩ vs j).run P w= .ok () w'∧HR P m (h.set b (.cells (fI c (a+j) xs) true tl)) w'∧Grow m h w m (h.set b (.cells (fI c (a+j) xs) true tl)) w'
 | [],vs,h,w,hr,b,e,c,tl,he,hb,a,j,hlen,h1,hv=>by
  rw[bB]at hv;subst hv;have hbl:b < h.length:=hr.cI _ _ he;have bd:h.set b (.cells (fI c (a+j) []) true tl)=h:=by
   simp only[fI]
   apply aar
   intro i;rw[bH h b i _ hbl];by_cases hi:i=b
   ·subst hi;simp[hb]
   ·simp[hi]
  exact⟨w,rfl,by rw[bd];exact hr,by rw[bd];exact Grow.refl m h w hr.cI⟩
 | x::xs,vs,h,w,hr,b,e,c,tl,he,hb,a,j,hlen,h1,hv=>by
  obtain⟨v,vs',rfl,hxv,RQ⟩:=aR.1 hv;simp only[ZF,YD]at h1;simp only[X8]at hlen;obtain⟨Q1,hr1,hg1⟩:=zE hr he hb (i:=a+j) Om h1.1 hxv;have hbl:b < h.length:=hr.cI _ _ he;have Rq: (h.set b (.cells (c.set (a+j) x) true tl))[b]? =some (.cells (c.set (a+j) x) true tl):=by rw[bH h b b _ hbl,Yh rfl]
  obtain⟨w',hrun',hr',Rj⟩:=o9 xs vs' hr1 he Rq a (j+1) (by simp;omega) h1.2 RQ;have bd: (h.set b (.cells (c.set (a+j) x) true tl)).set b (.cells (fI (c.set (a+j) x) (a+ (j+1)) xs) true tl)=h.set b (.cells (fI c (a+j) (x::xs)) true tl):=by
   rw[List.set_set];rfl
  rw[bd]at hr' Rj;refine⟨w',?_,hr',Grow.trans hg1 Rj hr.cI⟩;simp only[storeCells,Yq];rw[gD,show a+e.d+j=a+j+e.d from by omega,Q1];exact hrun'
def fJ(op:BinOp)(k:IntKind)(a b:Int):Option AV:=
 match op with
 | .add=>some (.int k (k.wrap (a+b)))
 | .sub=>some (.int k (k.wrap (a - b)))
 | .mul=>some (.int k (k.wrap (a * b)))
 | .quo=>if b=0 then none else some (.int k (k.wrap (a.tdiv b)))
 | .rem=>if b=0 then none else some (.int k (a.tmod b))
 | .and=>some (.int k (k.wrap (BitVec.ofInt k.bits a &&& BitVec.ofInt k.bits b).toNat))
 | .or=>some (.int k (k.wrap (BitVec.ofInt k.bits a||| BitVec.ofInt k.bits b).toNat))
 | .xor=>some (.int k (k.wrap (BitVec.ofInt k.bits a^^^BitVec.ofInt k.bits b).toNat))
 | .andNot=>some (.int k (k.wrap (BitVec.ofInt k.bits a &&& ~~~ (BitVec.ofInt k.bits b)).toNat))
 | .eql=>some (.bool (a==b))
 | .neq=>some (.bool (a !=b))
 | .lss=>some (.bool (decide (a < b)))
 | .leq=>some (.bool (decide (a≤b)))
 | .gtr=>some (.bool (decide (a > b)))
 | .geq=>some (.bool (decide (a≥b)))
 | _=>none
def qK(op:BinOp)(x y:By):Option AV:=
 match op with
 | .add=>if x.length+y.length < 2^62 then some (.str (x++y))else none
 | .eql=>some (.bool (x==y))
 | .neq=>some (.bool !(x==y))
 | .lss=>some (.bool (Op.bytesLess x y))
 | .leq=>some (.bool (Op.bytesLess x y|| x==y))
 | .gtr=>some (.bool !(Op.bytesLess x y|| x==y))
 | .geq=>some (.bool !(Op.bytesLess x y))
 | _=>none
def xy(op:BinOp)(k:IntKind)(a b:Int):Option AV:=
 if b < 0 then none
 else match op with
  | .shl=>some (.int k (k.wrap (a * 2^ (min b.toNat k.bits))))
  | .shr=>some (.int k (a.fdiv (2^ (min b.toNat k.bits))))
  | _=>none
def eM:BinOp→Bool
 | .shl=>true
 | .shr=>true
 | _=>false
def dY(op:BinOp):AV→AV→Option AV
 | .int k a,.int k' b=>if eM op then xy op k a b else if k=k' then fJ op k a b else none
 | .str a,.str b=>qK op a b
 | _,_=>none
def wL(op:UnOp):AV→Option AV
 | .int k n=>
  match op with
  | .neg=>some (.int k (k.wrap (0 - n)))
  | .xor=>fJ .xor k (if k.signed then -1 else k.max) n
  | _=>none
 | .bool b=>
  match op with
  | .not=>some (.bool !b)
  | _=>none
 | _=>none
def de:CK→AV→AV→Option Bool
 | .b,.bool a,.bool b=>some (a==b)
 | .i,.int k a,.int k' b=>if k=k' then some (a==b)else none
 | .s,.str a,.str b=>some (a==b)
 | _,_,_=>none
def dA:List CK→List AV→List AV→Option Bool
 | [],[],[]=>some true
 | k::ks,x::xs,y::ys=>
  match de k x y with
  | some true=>dA ks xs ys
  | some false=>some false
  | none=>none
 | _,_,_=>none
def y8(ks:List CK):AV→AV→Option Bool
 | .agg xs,.agg ys=>if xs.length=ks.length∧ys.length=ks.length then dA ks xs ys else none
 | _,_=>none
def OG:AV→AV→Option Bool
 | .af,.af=>some true
 | .af,.slice _ _ _ _=>some false
 | .slice _ _ _ _,.af=>some false
 | _,_=>none
def OH:AV→AV→Option Bool
 | .nilPtr,.nilPtr=>some true
 | .nilPtr,.ptr _ _=>some false
 | .ptr _ _,.nilPtr=>some false
 | _,_=>none
def OJ:AV→AV→Option Bool
 | .nilFunc,.nilFunc=>some true
 | .nilFunc,.func _ _ _=>some false
 | .func _ _ _,.nilFunc=>some false
 | _,_=>none
def OI:AV→AV→Option Bool
 | .cQ,.cQ=>some true
 | .cQ,.map _=>some false
 | .map _,.cQ=>some false
 | _,_=>none
def pr(t:PE)(x y:AV):Option Bool:=
 match t with
 | .one k=>de k x y
 | .agg ks=>y8 ks x y
 | .xY=>OG x y
 | .xZ=>OH x y
 | .pg=>OJ x y
 | .KS=>OI x y
def byteOf:AV→Option UInt8
 | .int .u8 n=>some (UInt8.ofNat n.toNat)
 | _=>none
def cellsIn(es:Nat)(h:ah):AV→Option (List AV×Nat)
 | .af=>some ([],0)
 | .slice b o n es'=>
  if es' =es then
   match h[b]? with
   | some (.cells c _ _)=>if o+n * es≤c.length then some ((c.drop o).take (n * es),n)else none
   | _=>none
  else none
 | .str s=>if es=1 then some (s.map fun b=>.int .u8 b.toNat,s.length)else none
 | _=>none
def jX(k:zu)(x:AV)(h:ah):Option (AV×ah):=
 match k with
 | .uc k=>
  match x with
  | .int _ n=>some (.int k (k.wrap n),h)
  | _=>none
 | .same=>
  match x with
  | .str s=>some (.str s,h)
  | _=>none
 | .Ok k=>
  match x with
  | .int _ n=>some (.wG k (k.nearest n),h)
  | _=>none
 | .OE k=>
  match x with
  | .wG s b=>
   match (s.decode b).toInt .zero with
   | some n=>if D5 s b=false∧k.min≤n∧n≤k.max then some (.int k n,h)else none
   | none=>none
  | _=>none
 | .OF k=>
  match x with
  | .wG s b=>if s=k then some (.wG k b,h)else none
  | _=>none
 | .qh u=>some (.qh u x,h)
 | .I8=>
  match x with
  | .af=>some (.str [],h)
  | .slice b o n es=>
   match cellsIn 1 h (.slice b o n es)with
   | some (l,_)=>
    match l.mapM byteOf with
    | some r=>some (.str r,h)
    | none=>none
   | none=>none
  | _=>none
 | .Nk=>
  match x with
  | .str s=>some (.slice h.length 0 s.length 1,h++ [.cells (s.map fun b=>.int .u8 b.toNat) true true])
  | _=>none
def dK(n:Nat)(z:List AV):List AV:=(List.replicate n z).flatten
def eF(c:List AV):List (Nat×Nat×AV)→Option (List AV)
 | []=>some c
 | (off,n,v)::r=>if v.cells.length=n∧off+n≤c.length then eF (fI c off v.cells) r else none
def HD:Option AV→Option Int
 | none=>some 0
 | some (.int _ i)=>some i
 | _=>none
def Ge(n:Nat):Option AV→Option Int
 | none=>some n
 | some (.int _ i)=>some i
 | _=>none
def iR(lo hi:Option AV)(n:Nat):Option (Nat×Nat):=
 match HD lo,Ge n hi with
 | some l,some h=>if 0≤l∧l≤h∧h≤n then some (l.toNat,h.toNat)else none
 | _,_=>none
def jg(kk:CK)(k:AV):List (AV×AV)→Option (Option AV)
 | []=>some none
 | (a,v)::r=>
  match de kk k a with
  | some true=>some (some v)
  | some false=>jg kk k r
  | none=>none
def o7(kk:CK)(k v:AV):List (AV×AV)→Option (List (AV×AV))
 | []=>some [(k,v)]
 | (a,u)::r=>
  match de kk k a with
  | some true=>some ((k,v)::r)
  | some false=>(o7 kk k v r).map ((a,u)::·)
  | none=>none
def pU:AV→AV→Option AV
 | .int k a,.int k' b=>if k=k' then some (.int k (if b > a then b else a))else none
 | _,_=>none
def pT:AV→AV→Option AV
 | .int k a,.int k' b=>if k=k' then some (.int k (if b < a then b else a))else none
 | _,_=>none
def gZ(f:AV→AV→Option AV):AV→List AV→Option AV
 | x,[]=>some x
 | x,y::r=>
  match f x y with
  | some z=>gZ f z r
  | none=>none
def zX(lk:LK)(h:ah):AV→Option Nat
 | .str s=>if lk= .st then some s.length else none
 | .slice _ _ n _=>if lk= .sl then some n else none
 | .af=>if lk= .sl then some 0 else none
 | .map r=>
  match h[r]? with
  | some (.bn es)=>if lk= .mp then some es.length else none
  | _=>none
 | .cQ=>if lk= .mp then some 0 else none
 | _=>none
def dt(k:oZ)(ρ:cT→AV)(h:ah):Option (AV×ah):=
 match k with
 | .aF x=>some (ρ x,h)
 | .pick c a b=>
  match ρ c with
  | .bool t=>some (if t then ρ a else ρ b,h)
  | _=>none
 | .box x=>if(ρ x).cells.all AV.one then some (.ptr h.length 0,h++ [.cells (ρ x).cells true false])else none
 | .nh n x=>if(ρ x).cells.all AV.one=true∧(ρ x).cells.length=n then some (.ptr h.length 0,h++ [.cells (ρ x).cells true false])else none
 | .build z ps=>
  match eF z (ps.map fun p=>(p.1,p.2.1,ρ p.2.2))with
  | some c=>some (.agg c,h)
  | none=>none
 | .load n a=>
  match ρ a with
  | .ptr b o=>
   match h[b]? with
   | some (.cells c _ _)=>
    match n with
    | none=>
     match c[o]? with
     | some x=>some (x,h)
     | none=>none
    | some n=>if o+n≤c.length then some (.agg ((c.drop o).take n),h)else none
   | _=>none
  | _=>none
 | .store n a x=>
  match ρ a with
  | .ptr b o=>
   match h[b]? with
   | some (.cells c true tl)=>
    if(ρ x).cells.length=n∧(ρ x).cells.all AV.one=true∧o+n≤c.length then some (aA,h.set b (.cells (fI c o (ρ x).cells) true tl))else none
   | _=>none
  | _=>none
 | .bt x=>
  match ρ x with
  | .ptr b o=>some (.ptr b o,h)
  | .func (.func f) a c=>some (.func (.func f) a c,h)
  | .func (.yield f) a c=>some (.func (.yield f) a c,h)
  | .func (.methodOf t n) a c=>some (.func (.methodOf t n) a c,h)
  | .func (.via t p f q) a c=>some (.func (.via t p f q) a c,h)
  | _=>none
 | .bin op x y=>
  match dY op (ρ x) (ρ y)with
  | some v=>some (v,h)
  | none=>none
 | .eqv neg t x y=>
  match pr t (ρ x) (ρ y)with
  | some b=>some (.bool (if neg then !b else b),h)
  | none=>none
 | .un op x=>
  match wL op (ρ x)with
  | some v=>some (v,h)
  | none=>none
 | .conv k x=>jX k (ρ x) h
 | .kQ f a c=>some (.func f (a.map ρ) (c.map ρ),h)
 | .lE=>some (.map h.length,h++ [.bn []])
 | .sg es w z l c=>
  match ρ l,ρ c with
  | .int _ l,.int _ c=>
   if 0≤l∧l≤c∧(w:Int) * c≤2^48∧c < 2^63 then some (.slice h.length 0 l.toNat es,h++ [.cells (dK l.toNat z) true true])else none
  | _,_=>none
 | .sl es x lo hi=>
  match ρ x with
  | .slice b o n es'=>
   if es' =es then
    match iR (lo.map ρ) (hi.map ρ) n with
    | some (l,h')=>some (.slice b (o+l * es) (h' - l) es,h)
    | none=>none
   else none
  | .af=>
   match iR (lo.map ρ) (hi.map ρ) 0 with
   | some _=>some (.af,h)
   | none=>none
  | _=>none
 | .pL x lo hi=>
  match ρ x with
  | .str s=>
   match iR (lo.map ρ) (hi.map ρ) s.length with
   | some (l,h')=>some (.str ((s.drop l).take (h' - l)),h)
   | none=>none
  | _=>none
 | .Mz k es x lo hi=>
  match ρ x with
  | .ptr b o=>
   match h[b]? with
   | some (.cells c _ _)=>
    if o+k * es≤c.length then
     match iR (lo.map ρ) (hi.map ρ) k with
     | some (l,h')=>some (.slice b (o+l * es) (h' - l) es,h)
     | none=>none
    else none
   | _=>none
  | _=>none
 | .aP off x=>
  match ρ x with
  | .ptr b o=>some (.ptr b (o+off),h)
  | _=>none
 | .aS es x i=>
  match ρ x,ρ i with
  | .slice b o n es',.int _ i=>if es' =es∧0≤i∧i < n then some (.ptr b (o+i.toNat * es),h)else none
  | _,_=>none
 | .sj len es x i=>
  match ρ x,ρ i with
  | .ptr b o,.int _ i=>if 0≤i∧i < len then some (.ptr b (o+i.toNat * es),h)else none
  | _,_=>none
 | .part n off x=>
  match ρ x with
  | .agg cs=>
   match n with
   | none=>
    match cs[off]? with
    | some v=>some (v,h)
    | none=>none
   | some n=>some (.agg ((cs.drop off).take n),h)
  | _=>none
 | .I6 len es n x i=>
  match ρ x,ρ i with
  | .agg cs,.int _ i=>
   if 0≤i∧i < len then
    match n with
    | none=>
     match cs[i.toNat * es]? with
     | some v=>some (v,h)
     | none=>none
    | some n=>some (.agg ((cs.drop (i.toNat * es)).take n),h)
   else none
  | _,_=>none
 | .qe x i=>
  match ρ x,ρ i with
  | .str s,.int _ i=>
   if 0≤i then
    match s[i.toNat]? with
    | some b=>some (.int .u8 b.toNat,h)
    | none=>none
   else none
  | _,_=>none
 | .look kk z ok m k=>
  match ρ m with
  | .cQ=>some (if ok then .dL [z,.bool false]else z,h)
  | .map r=>
   match h[r]? with
   | some (.bn es)=>
    match jg kk (ρ k) es with
    | some (some v)=>some (if ok then .dL [v,.bool true]else v,h)
    | some none=>some (if ok then .dL [z,.bool false]else z,h)
    | none=>none
   | _=>none
  | _=>none
 | .fj kk m k x=>
  match ρ m with
  | .map r=>
   match h[r]? with
   | some (.bn es)=>
    match o7 kk (ρ k) (ρ x) es with
    | some es'=>some (aA,h.set r (.bn es'))
    | none=>none
   | _=>none
  | _=>none
 | .xD x=>
  match ρ x with
  | .str s=>some (.ptr h.length 0,h++ [.iter s 0])
  | _=>none
 | .nS x=>
  match ρ x with
  | .ptr b 0=>
   match h[b]? with
   | some (.iter s pos)=>
    if pos < s.length then
     let d:=Utf8.decode ⟨⟨s⟩⟩ pos
     some (.dL [.bool true,.int .i64 pos,.int .i32 d.1],h.set b (.iter s (pos+d.2)))
    else some (.dL [.bool false],h)
   | _=>none
  | _=>none
 | .ext x i=>
  match ρ x with
  | .dL l=>
   match l[i]? with
   | some v=>some (v,h)
   | none=>none
  | _=>none
 | .len lk x=>
  match zX lk h (ρ x)with
  | some n=>some (.int .i64 n,h)
  | none=>none
 | .zW n=>some (.int .i64 n,h)
 | .wI es x y=>
  match ρ x,cellsIn es h (ρ y)with
  | .slice b o n es',some (ys,k)=>
   if es' =es then
    if min k n=0 then some (.int .i64 0,h)
    else
     match h[b]? with
     | some (.cells c true tl)=>if o+min k n * es≤c.length then some (.int .i64 (min k n:Nat),h.set b (.cells (fI c o (ys.take (min k n * es))) true tl))else none
     | _=>none
   else none
  | .af,some _=>some (.int .i64 0,h)
  | _,_=>none
 | .mx x l=>
  match gZ pU (ρ x) (l.map ρ)with
  | some v=>some (v,h)
  | none=>none
 | .mn x l=>
  match gZ pT (ρ x) (l.map ρ)with
  | some v=>some (v,h)
  | none=>none
 | _=>none
inductive wE (es w:Nat) (s y:AV) (h:ah):AV→ah→Prop
 | none (hy:cellsIn es h y=some ([],0)) (hs:s= .af∨∃b o n,s= .slice b o n es):wE es w s y h s h
 | new (ys:List AV) (k:Nat) (mu:Bool) (hy:cellsIn es h y=some (ys,k)) (hk:0 < k) (hb:k * w≤2^46) (hs:s= .af):
   wE es w s y h (.slice h.length 0 k es) (h++ [.cells ys mu true])
 | on (ys:List AV) (k b o n:Nat) (c:List AV) (mu:Bool) (hy:cellsIn es h y=some (ys,k)) (hk:0 < k) (hb: (n+k) * w≤2^46) (hs:s= .slice b o n es)
   (hc:h[b]? =some (.cells c mu true)) (hl:o+n * es=c.length):
   wE es w s y h (.slice h.length 0 (n+k) es) (h.set b (.cells c false false)++ [.cells (c.drop o++ys) false true])
 | over (ys:List AV) (k b o n:Nat) (c:List AV) (mu:Bool) (hy:cellsIn es h y=some (ys,k)) (hk:0 < k) (hb: (n+k) * w≤2^46) (hs:s= .slice b o n es)
   (hc:h[b]? =some (.cells c true true)) (hl:o+n * es≤c.length):
   wE es w s y h (.slice h.length 0 (n+k) es) (h.set b .dead++ [.cells ((c.drop o).take (n * es)++ys) mu true])
 | full (ys:List AV) (k b o n:Nat) (c:List AV) (hy:cellsIn es h y=some (ys,k)) (hk:0 < k) (hb: (n+k) * w≤2^46) (hs:s= .slice b o n es)
   (hc:h[b]? =some (.cells c true false)) (hl:o+n * es=c.length):
   wE es w s y h (.slice h.length 0 (n+k) es) (h++ [.cells (c.drop o++ys) true true])
def wrap64{n}(h0:-9223372036854775808≤n)(h1:n < 9223372036854775808):IntKind.i64.wrap n=n:=by
 show(if(true && decide (n % (18446744073709551616:Int)≥(9223372036854775808:Int)))=true then n % (18446744073709551616:Int) - 18446744073709551616 else n % (18446744073709551616:Int))=n;simp only[ZA,YO];split<;>omega
def GR{n}(h0:0≤n)(h1:n < 256):IntKind.u8.wrap n=n:=by
 show(if(false && decide (n % (256:Int)≥(128:Int)))=true then n % (256:Int) - 256 else n % (256:Int))=n;exact Jm
def yr{n}(h0:0≤n)(h1:n < 18446744073709551616):IntKind.u64.wrap n=n:=by
 show(if(false && decide (n % (18446744073709551616:Int)≥(9223372036854775808:Int)))=true then n % (18446744073709551616:Int) - 18446744073709551616 else n % (18446744073709551616:Int))=n;exact Jm
def eP(P:Program)(m:bY)(h:ah)(w:World)(v:AV)(h':ah)(r:Result Next):Prop:=
 ∃cv w' m',(r= .ok (.value cv) w'∨(r= .ok .skip w'∧cv=undef))∧VR m' v cv∧HR P m' h' w'∧Grow m h w m' h' w'
def eP.same{P m h w v cv r}(hr:HR P m h w)(hv:VR m v cv)(e:r= .ok (.value cv) w):eP P m h w v h r:=
 ⟨cv,w,m,.inl e,hv,hr,Grow.refl m h w hr.cI⟩
def jK(m:bY):VR m aA undef:=⟨[],rfl,rfl⟩
theorem vD(m:bY)(n:Nat)(ih:∀v a,mw n v=some a→VR m a v):∀ (l:List Value) (r:List AV),l.mapM (mw n)=some r→cH m r l
 | [],r,h=>by simp at h;subst h;exact bB.2 rfl
 | v::l,r,h=>by
  simp only[aat,aae,aaA]at h;cases hv:mw n v with
  | none=>simp[hv]at h
  | some a=>
   cases hl:l.mapM (mw n)with
   | none=>simp[hv,hl]at h
   | some r'=>
    simp[hv,hl]at h;subst h;exact aR.2 ⟨v,l,rfl,ih v a hv,vD m n ih l r' hl⟩
def qx(m:bY):∀ (n:Nat) (v:Value) (a:AV),mw n v=some a→VR m a v
 | 0,v,a,h=>by simp[mw]at h
 | n+1,v,a,h=>by
  unfold mw at h;split at h
  ·cases h;rfl
  ·cases h;rfl
  ·cases h;exact⟨_,rfl,.inl rfl⟩
  ·cases h;exact⟨_,_,rfl,.inl rfl,.inl rfl⟩
  ·cases h;rfl
  ·cases h;rfl
  ·cases h;rfl
  ·cases h;rfl
  ·cases h;rfl
  ·exact PN
  ·exact PN
  ·cases h
def bZ{P}{t:TypeId}{n}(h:dR P t=some n)(w:World): (sizeOf t).run P w= .ok n w:=by
 unfold dR at h;cases hi:P.info? t with
 | none=>simp[hi]at h
 | some i=>simp[hi]at h;subst h;simp[sizeOf,typeInfo,hi]
def lS{P}{t:TypeId}{d:TypeDesc}(h:P.underlying t=some d)(w:World): (isAgg t).run P w= .ok (jD d) w:=by
 cases d<;>simp[isAgg,Yn h,jD]
def vA{P}{t:TypeId}{n}(h:AJ P t=some (some n))(w:World): (isAgg t).run P w= .ok true w∧dR P t=some n:=by
 unfold AJ at h;split at h
 case h_2=>cases h
 rename_i d hu;split at h
 case isFalse=>simp at h
 rename_i hd;refine⟨by rw[lS hu,hd],?_⟩;cases hi:P.info? t with
 | none=>simp[hi]at h
 | some i=>simp[hi]at h;simp[dR,hi,h]
def vB{P}{t:TypeId}(h:AJ P t=some none)(w:World): (isAgg t).run P w= .ok false w:=by
 unfold AJ at h;split at h
 case h_2=>cases h
 rename_i d hu;split at h
 case isTrue=>cases hi:P.info? t<;>simp[hi]at h
 rename_i hd;rw[lS hu];simp at hd;rw[hd]
def jJ{P}{t:TypeId}{z}(h:jm P t=some z)(w:World)(m:bY):∃cz,(zeroValue t).run P w= .ok cz w∧VR m z cz:=by
 unfold jm at h;cases hi:P.info? t with
 | none=>simp[hi]at h
 | some i=>
  cases hz:i.zero with
  | none=>simp[hi,hz]at h
  | some cz=>
   simp[hi,hz]at h;exact⟨cz,by simp[zeroValue,typeInfo,hi,hz],qx m 4 cz z h⟩
section
variable {P:Program} {m:bY} {h h':ah} {w:World} {v:AV} {ρ:cT→AV} {hr:HR P m h w}
def te(hr:HR P m h w){x cx}(hx:VR m x cx)(h1:x.cells.all AV.one=true)(t:TypeId)(mu tl:Bool):
  ∃m',(newVar t cx).run P w= .ok ⟨w.heap.size,0,none⟩ (w.alloc (.cells cx.cells t))∧VR m' (.ptr h.length 0) (.pointer (some ⟨w.heap.size,0,none⟩))∧
   HR P m' (h++ [.cells x.cells mu tl]) (w.alloc (.cells cx.cells t))∧Grow m h w m' (h++ [.cells x.cells mu tl]) (w.alloc (.cells cx.cells t)):=by
 obtain⟨m',h0,h2,h3⟩:=lL hr hx.cells h1 t mu tl;refine⟨m',by simp[newVar,newRow],⟨_,h0,rfl⟩,h2,h3⟩
def BB{t:TypeId}{n a ca}(hn:AJ P t=some n)(hr:HR P m h w)(ha:VR m (ρ a) ca)(hf:dt (.load n a) ρ h=some (v,h')):
  ∃cv,(Instr.loadAt t ca).run P w= .ok cv w∧VR m v cv∧h' =h:=by
 simp only[dt]at hf;split at hf
 case h_2=>cases hf
 rename_i b o hρ;rw[hρ]at ha;obtain⟨e,he,rfl⟩:=ha;split at hf
 case h_2=>cases hf
 rename_i c mu tl hb;cases n with
 | none=>
  simp only at hf;split at hf
  case h_2=>cases hf
  rename_i x hx;cases hf;obtain⟨_,cv,SW,QZ⟩:=cell_of hr he hb hx;exact⟨cv,by simp[Instr.loadAt,Instr.sureAddr,loadVar,vB hn,SW],QZ,rfl⟩
 | some n=>
  simp only at hf;split at hf
  case isFalse=>cases hf
  rename_i hle;cases hf;obtain⟨hagg,dZ⟩:=vA hn w;obtain⟨vs,Q1,RQ,_⟩:=mT hr he hb o n hle;exact⟨.agg ⟨vs⟩,by simp[Instr.loadAt,Instr.sureAddr,loadVar,hagg,bZ dZ,Q1],⟨vs,rfl,RQ⟩,rfl⟩
def DH{t:TypeId}{n a x ca cx}(hn:dR P t=some n)(hr:HR P m h w)(ha:VR m (ρ a) ca)(hx:VR m (ρ x) cx)(hf:dt (.store n a x) ρ h=some (v,h')):
  ∃w',(Instr.storeAt t ca cx).run P w= .ok () w'∧v=aA∧HR P m h' w'∧Grow m h w m h' w':=by
 simp only[dt]at hf;split at hf
 case h_2=>cases hf
 rename_i b o hρ;rw[hρ]at ha;obtain⟨e,he,rfl⟩:=ha;split at hf
 case h_2=>cases hf
 rename_i c tl hb;split at hf
 case isFalse=>cases hf
 rename_i hc;cases hf;obtain⟨h1,h2,h3⟩:=hc;have hcl:=hx.cells;obtain⟨w',Q1,hr',Rj⟩:=o9 (ρ x).cells cx.cells.toList hr he hb o 0 Om h2 hcl;have hlen:cx.cells.size=n:=by have:=hcl.length;simp at this;omega
 refine⟨w',?_,rfl,hr',Rj⟩;simp only[Instr.storeAt,Instr.sureAddr,storeVar,Yq,YG,Yf,bZ hn];simp[hlen,Q1]
def uY(c:List Value)(o:Nat):List Value→List Value
 | []=>c
 | x::xs=>uY (c.set o x) (o+1) xs
theorem sR{m}:∀{xs} {vs},cH m xs vs→∀{c} {cv} (o:Nat),cH m c cv→cH m (fI c o xs) (uY cv o vs)
 | [],vs,hx,c,cv,o,hc=>by rw[bB]at hx;subst hx;exact hc
 | x::xs,vs,hx,c,cv,o,hc=>by
  obtain⟨v,vs',rfl,hv,RQ⟩:=aR.1 hx;exact sR RQ (o+1) (hc.set o hv)
theorem tv(off:Nat):∀ (xs:List Value) (k:Nat) (cs:Array Value),(List.foldl (fun cs (p:Value×Nat)=>cs.setIfInBounds (off+p.2) p.1) cs (xs.zipIdx k)).toList=uY cs.toList (off+k) xs
 | [],k,cs=>rfl
 | x::xs,k,cs=>by
  simp only[List.zipIdx_cons,Z9,uY];rw[tv off xs (k+1)];simp[Nat.add_assoc]
theorem qu{m}(place:Nat→Option (Nat×Nat)):∀ (ps:List (Nat×Value)) (qs:List (Nat×Nat×AV)) (c:List AV) (cc:Array Value) (c':List AV),
  ps.length=qs.length→(∀ (i:Nat) p q,ps[i]? =some p→qs[i]? =some q→place p.1=some (q.1,q.2.1)∧VR m q.2.2 p.2)→cH m c cc.toList→eF c qs=some c'→
  ∃RE,Instr.fill place cc ps=some RE∧cH m c' RE.toList
 | [],[],c,cc,c',_,_,hc,hf=>by simp[eF]at hf;subst hf;exact⟨cc,rfl,hc⟩
 | [],q::qs,c,cc,c',hl,_,_,_=>by simp at hl
 | p::ps,[],c,cc,c',hl,_,_,_=>by simp at hl
 | (i,x)::ps,(off,n,y)::qs,c,cc,c',hl,hp,hc,hf=>by
  obtain⟨T6,hxy⟩:=hp 0 (i,x) (off,n,y) Si Si;simp only at T6 hxy;simp only[eF]at hf;split at hf
  case isFalse=>cases hf
  rename_i Rf;obtain⟨hlen,hle⟩:=Rf;have hcells:=hxy.cells;have dZ:x.cells.size=n:=by have:=hcells.length;simp at this;omega
  have Tp:cc.size=c.length:=by have:=hc.length;simpa using this
  have hfold: (x.cells.zipIdx.foldl (fun cs (p:Value×Nat)=>cs.setIfInBounds (off+p.2) p.1) cc).toList=uY cc.toList off x.cells.toList:=by
   rw[←Array.foldl_toList];have:=tv off x.cells.toList 0 cc
   simpa using this
  obtain⟨RE,h1,h2⟩:=qu place ps qs (fI c off y.cells) (x.cells.zipIdx.foldl (fun cs (p:Value×Nat)=>cs.setIfInBounds (off+p.2) p.1) cc) c' (by simpa using hl)
   (fun j p q hj hq=>hp (j+1) p q (by simpa using hj) (by simpa using hq)) (by rw[hfold];exact sR hcells off hc) hf
  refine⟨RE,?_,h2⟩;simp only[Instr.fill,T6];rw[Yd (by simp;omega)];exact h1
theorem qc{P}{t:TypeId}:∀{ps} {l},mh P t ps=some l→ps.length=l.length∧
  ∀ (i:Nat) p q,ps[i]? =some p→l[i]? =some q→jq P t p.1=some (q.1,q.2.1)∧cP p.2=some q.2.2
 | [],l,h=>by simp[mh]at h;subst h;exact⟨rfl,fun i p q hp=>by simp at hp⟩
 | (i,x)::ps,l,h=>by
  simp only[mh]at h;split at h
  case h_2=>cases h
  rename_i off n y r h1 h2 h3;cases h;obtain⟨hl,hp⟩:=qc h3;refine⟨by simp[hl],fun j p q hj hq=>?_⟩;cases j with
  | zero=>simp at hj hq;subst hj;subst hq;exact⟨h1,h2⟩
  | succ j=>exact hp j p q (by simpa using hj) (by simpa using hq)
def CD{t:TypeId}{z:AV}{ps:List (Nat×Value)}{cz:Value}{RE:Array Value}(hz: (P.info? t).bind (·.zero)=some cz)(hp:nQ P t=true)(hf:Instr.fill (jq P t) cz.cells ps=some RE):
  P.built t ps=some RE:=by
 unfold Program.built;cases hi:P.info? t with
 | none=>simp[hi]at hz
 | some it=>
  simp[hi]at hz;unfold nQ at hp;split at hp
  ·rename_i fs hu;obtain⟨places,hpls⟩:=Option.isSome_iff_exists.1 hp;have T6:jq P t=fun i=>places[i]? :=by
    funext i;simp only[jq,hu,hpls]
   rw[T6]at hf;simp only[hu,hz,hpls]
   simpa using hf
  ·rename_i n e hu;obtain⟨ie,hie⟩:=Option.isSome_iff_exists.1 hp;have T6:jq P t=fun i=>some (i * ie.size,ie.size):=by
    funext i;simp only[jq,hu,hie];rfl
   rw[T6]at hf;simp only[hu,hz,hie];exact hf
  ·cases hp
def DK{t:TypeId}{z:AV}{ps:Array (Nat×Operand)}{l:List (Nat×Nat×cT)}{σ:Operand→Value}(hz:jm P t=some z)(hl:mh P t ps.toList=some l)(hp:nQ P t=true)
  (hρ:∀p∈ps.toList,∀y,cP p.2=some y→VR m (ρ y) (σ p.2)) (hf:dt (.build z.cells l) ρ h=some (v,h')):
  ∃cv,(Instr.build t (ps.map fun(i,x)=>(i,σ x))).run P w= .ok cv w∧VR m v cv∧h' =h:=by
 simp only[dt]at hf;split at hf
 case h_2=>cases hf
 rename_i c hc;cases hf;obtain⟨hlen,hpq⟩:=qc hl;have Xn:∃cz,(P.info? t).bind (·.zero)=some cz∧VR m z cz:=by
  unfold jm at hz;cases hi:P.info? t with
  | none=>simp[hi]at hz
  | some i=>
   cases hzz:i.zero with
   | none=>simp[hi,hzz]at hz
   | some cz=>simp[hi,hzz]at hz;exact⟨cz,by simp[hzz],qx m 4 cz z hz⟩
 obtain⟨cz,TI,Ui⟩:=Xn;obtain⟨RE,Sb,RQ⟩:=qu (m:=m) (jq P t) (ps.toList.map fun p=>(p.1,σ p.2)) (l.map fun p=>(p.1,p.2.1,ρ p.2.2)) z.cells cz.cells c (by simp[hlen])
  (fun i p q Wl hq=>by
   simp only[Zp,Yr]at Wl hq;obtain⟨p0,hp0,rfl⟩:=Wl;obtain⟨q0,hq0,rfl⟩:=hq;obtain⟨h1,h2⟩:=hpq i p0 q0 hp0 hq0;exact⟨h1,hρ p0 (YW hp0) _ h2⟩) Ui.cells hc
 refine⟨.agg RE,run_build w t _ RE ?_,⟨RE.toList,rfl,RQ⟩,rfl⟩;have:=CD (z:=z) TI hp Sb
 simpa using this
def BA{t:TypeId}{n off l l'}(hn:AJ P t=some n)(hl:cH m l l')
  (hf: (match n with| none=>(match l[off]? with| some v=>some (v,h)| none=>none)| some n=>some (.agg ((l.drop off).take n),h))=some (v,h')):
  ∃cv,(part t ⟨l'⟩ off).run P w= .ok cv w∧VR m v cv∧h' =h:=by
 cases n with
 | none=>
  simp only at hf;split at hf
  case h_2=>cases hf
  rename_i x hx;cases hf;obtain⟨cv,SW,QZ⟩:=hl.get hx;exact⟨cv,by simp[part,vB hn,SW],QZ,rfl⟩
 | some n=>
  cases hf;obtain⟨h1,h2⟩:=vA hn w;refine⟨.agg ⟨(l'.drop off).take n⟩,?_,⟨_,rfl,(hl.drop off).take n⟩,rfl⟩;simp only[part,Yq,h1,Yf,Ys,bZ h2,YG];simp[List.extract_eq_take_drop]
end
section
variable {P:Program} {m:bY} {h h':ah} {w:World}
def xC{op k a b v}(hs:eM op=false)(hf:fJ op k a b=some v)(t:TypeId):
  ∃cv,(binOp op t (.int k a) (.int k b)).run P w= .ok cv w∧VR m v cv:=by
 cases op<;>simp only[fJ,eM]at hf hs<;>first
  | (cases hs;done)
  | (cases hf;done)
  | skip
 all_goals first
  | (cases hf;exact⟨_,by simp[binOp,Op.intArith,Op.intBits,Op.intCmp],rfl⟩)
  | (split at hf
     ·cases hf
     ·rename_i hb;cases hf;exact⟨_,by simp[binOp,Op.intDiv,hb],rfl⟩)
def xA{op k k' a b v}(hs:eM op=true)(hf:xy op k a b=some v)(t:TypeId):
  ∃cv,(binOp op t (.int k a) (.int k' b)).run P w= .ok cv w∧VR m v cv:=by
 unfold xy at hf;split at hf
 ·cases hf
 ·rename_i hb;cases op<;>first
   | (cases hs;done)
   | (cases hf;exact⟨_,by simp[binOp,Op.shift,hb],rfl⟩)
def toList_mk(l:By): (⟨⟨l⟩⟩:ByteArray).toList=l:=by rw[ByteArray.toList_eq]
def As(a b:By): (⟨⟨a⟩⟩:ByteArray)++ ⟨⟨b⟩⟩= ⟨⟨a++b⟩⟩:=by
 apply ByteArray.ext
 rw[ByteArray.data_append];simp
def xz{op a b v}(hf:qK op a b=some v)(t:TypeId):
  ∃cv,(binOp op t (.string ⟨⟨a⟩⟩) (.string ⟨⟨b⟩⟩)).run P w= .ok cv w∧VR m v cv:=by
 cases op<;>simp only[qK]at hf<;>first
  | (cases hf;done)
  | skip
 all_goals first
  | (cases hf;exact⟨_,by simp[binOp,Op.stringOp,toList_mk],rfl⟩)
  | (split at hf
     ·rename_i hlen;cases hf;refine⟨.string ⟨⟨a++b⟩⟩,?_,rfl⟩;have hn:¬ (IntKind.i64.max < (((⟨⟨a⟩⟩:ByteArray).size+ (⟨⟨b⟩⟩:ByteArray).size:Nat):Int)):=by
       show ¬ ((9223372036854775807:Int)< ((a.length+b.length:Nat):Int));omega
      simp only[binOp,Op.stringOp,GT.gt,Yd hn,As,YG]
     ·cases hf)
def DL{op x v cx}(hx:VR m x cx)(hf:wL op x=some v):∃cv,(Op.unary op cx).run P w= .ok cv w∧VR m v cv:=by
 cases x with
 | int k n=>
  rw[VR]at hx;subst hx;cases op with
  | neg=>simp only[wL,Yy]at hf;subst hf;exact⟨_,rfl,rfl⟩
  | xor=>simp only[wL,fJ,Yy]at hf;subst hf;exact⟨_,rfl,rfl⟩
  | not=>simp[wL]at hf
  | plus=>simp[wL]at hf
 | bool b=>
  rw[VR]at hx;subst hx;cases op<;>simp only[wL]at hf<;>first
   | (cases hf;done)
   | (cases hf;exact⟨_,by simp[Op.unary],rfl⟩)
 | _=>cases op<;>simp[wL]at hf
def qV{t:TypeId}{k}(ht:match k with| .b=>P.underlying t=some .bool| .i=>∃k,P.underlying t=some (.int k)| .s=>P.underlying t=some .string)
  {x y} {cx cy} {b} (hx:VR m x cx) (hy:VR m y cy) (hf:de k x y=some b) (d:Nat): (Op.equalIn (d+1) t cx cy).run P w= .ok b w:=by
 unfold de at hf;split at hf
 ·rw[VR]at hx hy;subst hx;subst hy;cases hf;exact run_equalIn_bool' w d t _ _ ht
 ·split at hf
  ·rename_i hk;rw[VR]at hx hy;subst hx;subst hy;subst hk;cases hf;obtain⟨k',hu⟩:=ht;exact run_equalIn_int w d t _ k' _ _ hu
  ·cases hf
 ·rw[VR]at hx hy;subst hx;subst hy;cases hf;rw[run_equalIn_string w d t _ _ ht,toList_mk,toList_mk]
 ·cases hf
theorem jh:∀ (ks ks':List CK) (xs ys xs' ys':List AV) (b:Bool),xs.length=ks.length→ys.length=ks.length→dA (ks++ks') (xs++xs') (ys++ys')=some b→
  (∃c,dA ks xs ys=some c∧((c=true∧dA ks' xs' ys' =some b)∨(c=false∧b=false)))
 | [],ks',[],[],xs',ys',b,_,_,h=>⟨true,rfl,.inl ⟨rfl,h⟩⟩
 | k::ks,ks',x::xs,y::ys,xs',ys',b,hx,hy,h=>by
  simp only[Zj,dA]at h ⊢;cases hc:de k x y with
  | none=>simp[hc]at h
  | some c=>
   cases c with
   | false=>simp[hc]at h;subst h;exact⟨false,Si,.inr ⟨rfl,rfl⟩⟩
   | true=>
    simp only[hc]at h;obtain⟨c,h1,h2⟩:=jh ks ks' xs ys xs' ys' b (by simpa using hx) (by simpa using hy) h;exact⟨c,by simpa using h1,h2⟩
 | [],_,_::_,_,_,_,_,h,_,_=>by simp at h
 | [],_,_,_::_,_,_,_,_,h,_=>by simp at h
 | _::_,_,[],_,_,_,_,h,_,_=>by simp at h
 | _::_,_,_,[],_,_,_,_,h,_=>by simp at h
def iM(d:TypeDesc)(l:List Value):Value:=if jD d then .agg ⟨l⟩else l.headD default
def nL{t:TypeId}{d:TypeDesc}{n}(hd:P.underlying t=some d)(hn:dR P t=some n)(h1:jD d=false→n=1){l off}(hl:off+n≤l.length):
  (part t ⟨l⟩ off).run P w= .ok (iM d ((l.drop off).take n)) w:=by
 unfold iM;cases ha:jD d with
 | true=>
  simp only[part,Yq,lS hd,ha,Yf,Ys,bZ hn,YG];simp[List.extract_eq_take_drop]
 | false=>
  have:=h1 ha;subst this;have hlt:off < l.length:=Om
  simp only[part,Yq,lS hd,ha,Yf];have e: (l.drop off).take 1= [l[off]]:=by
   rw[Z4 hlt,ZX,List.take_zero]
  simp[e,hlt]
def tw{d}{t:TypeId}{ks}(hf:flat P d t=some ks):∃ds,P.underlying t=some ds∧(jD ds=false→ks.length=1):=by
 cases d with
 | zero=>simp[flat]at hf
 | succ d=>
  unfold flat at hf;split at hf
  ·exact GN
  ·exact GN
  ·exact GN
  ·rename_i hu;exact⟨_,hu,fun h=>by cases h⟩
  ·rename_i hu;exact⟨_,hu,fun h=>by cases h⟩
  ·cases hf
def p8{t:TypeId}{fs}(hu:P.underlying t=some (.struct fs)):P.fieldsOf t=fs:=by simp[Program.fieldsOf,hu]
def BD:∀ (d:Nat) (t:TypeId) (ks:List CK),flat P d t=some ks→∀ (D:Nat),d≤D→∀ (ds:TypeDesc),P.underlying t=some ds→
  ∀ (xs ys:List AV) (vx vy:List Value) (b:Bool),xs.length=ks.length→ys.length=ks.length→cH m xs vx→cH m ys vy→dA ks xs ys=some b→
  ∀w:World,(Op.equalIn D t (iM ds vx) (iM ds vy)).run P w= .ok b w:=by
 intro d
 induction d with
 | zero=>intro t ks hf;simp[flat]at hf
 | succ d ih=>
  intro t ks hf D hD ds Un xs ys vx vy b TV TU hx hy he w;obtain⟨D,rfl⟩:∃D',D=D'+1:=⟨D - 1,Om⟩;have hone:∀{k:CK},ks= [k]→jD ds=false→(match k with| .b=>P.underlying t=some .bool| .i=>∃k,P.underlying t=some (.int k)| .s=>P.underlying t=some .string)→(Op.equalIn (D+1) t (iM ds vx) (iM ds vy)).run P w= .ok b w:=by
   intro k hk hd ht;subst hk
   match xs,ys,TV,TU with
   | [x],[y],_,_=>
    obtain⟨cx,_,rfl,VT,h2⟩:=aR.1 hx;obtain⟨cy,_,rfl,hcy,h3⟩:=aR.1 hy;rw[bB]at h2 h3;subst h2;subst h3;simp only[dA]at he;have RX:de k x y=some b:=by
     cases hc:de k x y with
     | none=>simp[hc]at he
     | some c=>cases c<;>simp[hc]at he<;>simp[he]
    simp only[iM,hd,List.headD_cons,YS,Yo];exact qV ht VT hcy RX D
  unfold flat at hf;split at hf
  ·exact Jz
  ·rename_i hu;rw[hu]at Un;cases Un;cases hf;exact hone rfl rfl ⟨_,hu⟩
  ·exact Jz
  ·rename_i fs hu;rw[hu]at Un;cases Un;split at hf
   case isFalse=>cases hf
   rename_i bS;simp only[iM,jD,Ys];rw[run_equalIn_struct w D t ⟨vx⟩ ⟨vy⟩ (by rw[p8 hu];exact hu) bS,p8 hu];have key:∀ (fl:List Field) (off:Nat) (ks:List CK) (xs ys:List AV) (b:Bool),wa P (flat P d) fl off=some ks→xs.length=ks.length→ys.length=ks.length→
     cH m xs (vx.drop off)→cH m ys (vy.drop off)→dA ks xs ys=some b→(Op.eqFields D ⟨vx⟩ ⟨vy⟩ fl).run P w= .ok b w:=by
    intro fl
    induction fl with
    | nil=>
     intro off ks xs ys b Ru TV TU hx hy he;simp only[wa,Yy]at Ru;subst Ru
     match xs,ys,TV,TU with
     | [],[],_,_=>cases he;rfl
    | cons f fl ihf=>
     intro off ks xs ys b Ru TV TU hx hy he;simp only[wa]at Ru;split at Ru
     case h_2=>cases Ru
     rename_i k1 i hk1 hi;split at Ru
     case isFalse=>cases Ru
     rename_i Rf;obtain⟨hname,hoff,dZ,hpos⟩:=Rf;split at Ru
     case h_2=>cases Ru
     rename_i k2 QY;cases Ru;subst hoff;obtain⟨ds',TG,h1'⟩:=tw hk1;have RH:dR P f.type=some k1.length:=by simp[dR,hi,dZ]
     have XF:xs=xs.take k1.length++xs.drop k1.length:=(Zx _ _).symm;have XE:ys=ys.take k1.length++ys.drop k1.length:=(Zx _ _).symm;simp only[X2]at TV TU;rw[XF,XE]at he;obtain⟨c,hc1,XU⟩:=jh k1 k2 _ _ _ _ b (by simp;omega) (by simp;omega) he;have T3:f.offset+k1.length≤vx.length:=by have:=hx.length;simp at this;omega
     have hvy:f.offset+k1.length≤vy.length:=by have:=hy.length;simp at this;omega
     simp only[Op.eqFields,Yh hname,Yq,nL TG RH (fun h=>h1' h) T3,nL TG RH (fun h=>h1' h) hvy,Yf];rw[ih f.type k1 hk1 D Om ds' TG _ _ _ _ c (by simp;omega) (by simp;omega) (hx.take k1.length) (hy.take k1.length) hc1 w];rcases XU with⟨rfl,hr⟩| ⟨rfl,rfl⟩
     ·simp only[Yf,Yw,YS,Yo];exact ihf (f.offset+k1.length) k2 _ _ b QY (by simp;omega) (by simp;omega) (by have:=hx.drop k1.length;rwa [ZD]at this) (by have:=hy.drop k1.length;rwa [ZD]at this) hr
     ·simp
   exact key fs.toList 0 ks xs ys b hf TV TU (by simpa using hx) (by simpa using hy) he
  ·rename_i len e hu;rw[hu]at Un;cases Un;split at hf
   case h_2=>cases hf
   rename_i k1 i hk1 hi;split at hf
   case isFalse=>cases hf
   rename_i Rf;obtain⟨dZ,hpos⟩:=Rf;cases hf;obtain⟨ds',TG,h1'⟩:=tw hk1;have RH:dR P e=some k1.length:=by simp[dR,hi,dZ]
   simp only[iM,jD,Ys];have key:∀ (n j:Nat) (xs ys:List AV) (b:Bool),j+n=len→xs.length= (List.replicate n k1).flatten.length→ys.length= (List.replicate n k1).flatten.length→
     cH m xs (vx.drop (j * k1.length))→cH m ys (vy.drop (j * k1.length))→dA (List.replicate n k1).flatten xs ys=some b→
     (forIn (m:=Sem) (List.range' j n) ((none,()):Option Bool×Unit) fun(i:Nat) (_:Option Bool×Unit)=>do
      let a ←part e ⟨vx⟩ (i * k1.length)
      let c ←part e ⟨vy⟩ (i * k1.length)
      let r ←Op.equalIn D e a c
      if(!r)=true then pure (ForInStep.done (some false,()))else pure (ForInStep.yield (none,()))).run P w= .ok (if b then(none,())else(some false,())) w:=by
    intro n
    induction n with
    | zero=>
     intro j xs ys b _ TV TU _ _ he;simp only[aav,List.flatten_nil,X9]at TV TU he
     match xs,ys,TV,TU with
     | [],[],_,_=>cases he;rfl
    | succ n ihn=>
     intro j xs ys b hj TV TU hx hy he;simp only[ZG,Zi,X2]at TV TU he;have XF:xs=xs.take k1.length++xs.drop k1.length:=(Zx _ _).symm;have XE:ys=ys.take k1.length++ys.drop k1.length:=(Zx _ _).symm;rw[XF,XE]at he;obtain⟨c,hc1,XU⟩:=jh k1 _ _ _ _ _ b (by simp;omega) (by simp;omega) he;have T3:j * k1.length+k1.length≤vx.length:=by have:=hx.length;simp at this;omega
     have hvy:j * k1.length+k1.length≤vy.length:=by have:=hy.length;simp at this;omega
     simp only[List.range'_succ,List.forIn_cons,Yq,nL TG RH (fun h=>h1' h) T3,nL TG RH (fun h=>h1' h) hvy,Yf];rw[ih e k1 hk1 D Om ds' TG _ _ _ _ c (by simp;omega) (by simp;omega) (hx.take k1.length) (hy.take k1.length) hc1 w];rcases XU with⟨rfl,hr⟩| ⟨rfl,rfl⟩
     ·simp only[Yf,Yw,YS,Yo,YG];exact ihn (j+1) _ _ b Om (by rw[aak];omega) (by rw[aak];omega) (by have:=hx.drop k1.length;rw[ZD]at this;rwa [Zo]) (by have:=hy.drop k1.length;rw[ZD]at this;rwa [Zo]) hr
     ·simp
   have hk:=key len 0 xs ys b Om TV TU (by simpa using hx) (by simpa using hy) he;simp only[Op.equalIn,Yq,Yn hu,Yf,bZ RH,Std.Legacy.Range.forIn_eq_forIn_range',Std.Legacy.Range.size];simp only[Nat.sub_zero,Nat.add_one_sub_one,Nat.div_one];rw[hk];cases b<;>rfl
  ·cases hf
end
def oX(m:bY)(ρ:cT→AV):Option cT→Option Value→Prop
 | none,none=>True
 | some x,some cx=>VR m (ρ x) cx
 | _,_=>False
section
variable {P:Program} {m:bY} {h h':ah} {w:World} {ρ:cT→AV} {v:AV}
def fo{t e:TypeId}{i:TypeInfo}(hs:dS P t=some (e,i)):P.underlying t=some (.slice e)∧P.info? e=some i:=by
 unfold dS at hs;split at hs
 ·rename_i e' hu;cases hi:P.info? e' with
  | none=>simp[hi]at hs
  | some i'=>simp[hi]at hs;obtain⟨rfl,rfl⟩:=hs;exact⟨hu,hi⟩
 ·cases hs
def jl(n:Nat)(z:List AV): (dK n z).length=n * z.length:=by simp[dK]
def sJ{z:List AV}{cz:Array Value}(hz:cH m z cz.toList)(hpos:0 < z.length)(n k:Nat)(hk:k≤n):
  cH m (dK k z) (((Array.range (n * cz.size)).map (cz[·% cz.size]!)).toList.take (k * z.length)):=by
 have dZ:cz.size=z.length:=by have:=hz.length;simpa using this
 refine cH.gO ?_ ?_
 ·rw[jl];simp[dZ,ZW hk]
 ·intro i x hx;have hi:i < k * z.length:=by have:=(X1.1 hx).1;rw[jl]at this;exact this
  have hmod:i % z.length < z.length:=Nat.mod_lt _ hpos;have Q4: (dK k z)[i]? =z[i % z.length]? :=by
   clear hx hk;unfold dK
   induction k generalizing i with
   | zero=>omega
   | succ k ih=>
    rw[ZG,Zi];by_cases hlt:i < z.length
    ·rw[X5 hlt,Nat.mod_eq_of_lt hlt]
    ·rw[Ye Om,ih (i - z.length) (by rw[Zo]at hi;omega) (Nat.mod_lt _ hpos)];congr 1;rw[←Nat.mod_eq_sub_mod Om]
  rw[Q4]at hx;obtain⟨y,hy,hr⟩:=hz.get hx;refine⟨y,?_,hr⟩;have hin:i < n * z.length:=YU hi (Zc _ hk);rw[Z8 hi,Zy,Array.getElem?_map,Array.getElem?_range,dZ,Yh hin];simp only[ZY,Yy];rw[getElem!_pos cz _ Om];have:=(X1.1 hy).2
  simpa using this
def AN{z}(hz:z.all AV.one=true)(n:Nat): (dK n z).all AV.one=true:=by
 rw[YE]at hz ⊢;intro x hx;simp only[dK,List.mem_flatten,List.mem_replicate]at hx;obtain⟨l,⟨_,rfl⟩,hx⟩:=hx;exact hz x hx
def G7{t e:TypeId}{i:TypeInfo}{z:AV}{l c:cT}{cl cc:Value}(hs:dS P t=some (e,i))(hz:jm P e=some z)(hpos:0 < i.size)(hzl:z.cells.length=i.size)(h1:z.cells.all AV.one=true)
  (hr:HR P m h w) (hl:VR m (ρ l) cl) (hc:VR m (ρ c) cc) (hf:dt (.sg i.size i.bytes z.cells l c) ρ h=some (v,h')):
  ∃cv w' m',(Instr.makeSlice t cl cc).run P w= .ok cv w'∧VR m' v cv∧HR P m' h' w'∧Grow m h w m' h' w':=by
 obtain⟨hu,hi⟩:=fo hs;simp only[dt]at hf;split at hf
 case h_2=>cases hf
 rename_i kl l' kc c' hρl hρc;rw[hρl,VR]at hl;rw[hρc,VR]at hc;subst hl;subst hc;split at hf
 case isFalse=>cases hf
 rename_i Rf;obtain⟨h0,hlc,hb,hc63⟩:=Rf;cases hf;obtain⟨cz,TI,Ui⟩:=jJ hz w m;have hzc:=Ui.cells;obtain⟨n,rfl⟩:=Int.eq_ofNat_of_zero_le (Int.le_trans h0 hlc);obtain⟨k,rfl⟩:=Int.eq_ofNat_of_zero_le h0;have hkn:k≤n:=Om
 have hwl:IntKind.i64.wrap (k:Int)=k:=wrap64 Om Om;have hwc:IntKind.i64.wrap (n:Int)=n:=wrap64 Om Om;have dZ:cz.cells.size=z.cells.length:=by have:=hzc.length;simpa using this
 let row:Array Value:=(Array.range (n * cz.cells.size)).map (cz.cells[·% cz.cells.size]!)
 have hrow:cH m (dK k z.cells) (row.toList.take (k * z.cells.length)):=sJ hzc Om n k hkn;have hrs:row.size=n * i.size:=by simp[row,dZ,hzl]
 let e':sI:=⟨w.heap.size,0,row.size,true⟩
 have Ww:=jZ hr (.cells row e) (.cells (dK k z.cells) true true) e' rfl rfl (fun m' hm=>by
  refine⟨row,e,(0,0),World.alloc_heap_new w _,⟨?_,?_,rfl⟩,?_,fun _=>⟨rfl,fun i _=>by simp⟩,fun _=>⟨rfl,fun x=>by cases x⟩⟩
  ·exact JU
  ·exact JU
  ·intro j x hx;obtain⟨y,hy,QZ⟩:=hrow.get hx;have hj:j < k * z.cells.length:=by have:=(X1.1 hx).1;rw[jl]at this;exact this
   rw[Z8 hj]at hy;refine⟨YE.1 (AN h1 k) x (YW hx),y,?_,VR.mono hm _ _ QZ⟩;show row[0+j]? =some y;rw[YR,←Zy];exact hy)
 refine⟨.slice (some ⟨w.heap.size,0,none⟩) k n,w.alloc (.cells row e),m.add h.length e',?_,⟨e',⟨w.heap.size,0,none⟩,n,by simp[bY.add],rfl,hkn,fun _=>rfl,?_⟩,Ww.1,Ww.2⟩
 ·have Rd: (sizeOf e).run P w= .ok i.size w:=bZ (by simp[dR,hi]) w;have Td:¬ ((i.bytes:Int) * n > 2^48):=Om
  have UR: (typeInfo e).run P w= .ok i w:=by simp[typeInfo,hi]
  have Vk:¬ ((n:Int)< 0):=Om
  have hk0:¬ ((k:Int)< 0):=Om
  have hkn':¬ ((k:Int)> (n:Int)):=Om
  simp only[Instr.makeSlice,Yq,Yn hu,Yf,asInt,asIntOf,YG,UR,hwl,hwc,Vk,hk0,hkn',Td];simp only[Yp,Bool.or_self,YS,Yo,run_askRoom,Yf,Rd,Int.toNat_natCast,Yq,Sem.run_ite,YG,TI];by_cases Xn:n * i.size=0
  ·simp only[Xn,Ys,Yf,newRow,run_newObj,Yq,YG];have:row=#[]:=by apply Array.eq_empty_of_size_eq_zero;omega
   have e0: (Array.range 0).map (fun x=>(#[] :Array Value)[x % (#[] :Array Value).size]!)=#[]:=Si
   rw[this,e0];rfl
  ·simp only[Xn,Yo,Yf,newRow,run_newObj,Yq,YG];have:row= (Array.range (n * i.size)).map (cz.cells[·% cz.cells.size]!):=by show(Array.range (n * cz.cells.size)).map _=_;rw[dZ,hzl]
   rw[this];rfl
 ·show 0+0+n * i.size≤row.size;omega
def mi{lo hi}{n l u:Nat}(hb:iR lo hi n=some (l,u)):l≤u∧u≤n∧HD lo=some (l:Int)∧Ge n hi=some (u:Int):=by
 unfold iR at hb;split at hb
 case h_2=>cases hb
 rename_i a b ha hb';split at hb
 case isFalse=>cases hb
 rename_i hc;obtain⟨h0,h1,h2⟩:=hc;simp only[Yy,aaq]at hb;obtain⟨rfl,rfl⟩:=hb;exact⟨Om,Om,by rw[ha];congr 1;omega,by rw[hb'];congr 1;omega⟩
def fR{lo hi Ue TQ}(hlo:oX m ρ lo Ue)
  (hhi:oX m ρ hi TQ) {n l u} (hb:iR (lo.map ρ) (hi.map ρ) n=some (l,u)) (isSlice:Bool) (cap:Nat) (hcap:n≤cap):
  (Instr.sliceBounds isSlice n cap Ue TQ none).run P w= .ok (l,u,cap) w:=by
 obtain⟨VH,hun,h1,h2⟩:=mi hb;have hh:∀ (x:cT) (cx:Value),VR m (ρ x) cx→Ge n (some (ρ x))=some (u:Int)→∃k,cx= .int k u:=by
  intro x cx hx hu;cases hρ:ρ x<;>simp[Ge,hρ]at hu;subst hu;rw[hρ,VR]at hx;exact⟨_,hx⟩
 have hl:∀ (x:cT) (cx:Value),VR m (ρ x) cx→HD (some (ρ x))=some (l:Int)→∃k,cx= .int k l:=by
  intro x cx hx hu;cases hρ:ρ x<;>simp[HD,hρ]at hu;subst hu;rw[hρ,VR]at hx;exact⟨_,hx⟩
 have hcu: (u:Int)≤cap:=Om
 have hlu': (l:Int)≤u:=Om
 have hbu:∀ (k:IntKind) (code:BoundsCode) (w:World),(Instr.sliceBound (.int k u) cap code).run P w= .ok u w:=by
  intro k code w;simp[Instr.sliceBound,asIntOf,hcu]<;>omega
 have hbl:∀ (k:IntKind) (code:BoundsCode) (w:World),(Instr.sliceBound (.int k l) u code).run P w= .ok l w:=by
  intro k code w;simp[Instr.sliceBound,asIntOf]<;>omega
 cases lo with
 | none=>
  cases Ue with
  | some _=>exact hlo.elim
  | none=>
   simp only[aap,HD,Yy]at h1;cases hi with
   | none=>
    cases TQ with
    | some _=>exact hhi.elim
    | none=>
     simp only[aap,Ge,Yy]at h2;have hn:u=n:=Om
     have VM:l=0:=Om
     subst hn;subst VM;simp[Instr.sliceBounds]
   | some y=>
    cases TQ with
    | none=>exact hhi.elim
    | some cy=>
     obtain⟨k,rfl⟩:=hh y cy hhi h2;have VM:l=0:=Om
     subst VM;simp[Instr.sliceBounds,hbu]
 | some x=>
  cases Ue with
  | none=>exact hlo.elim
  | some cx=>
   obtain⟨kx,rfl⟩:=hl x cx hlo h1;cases hi with
   | none=>
    cases TQ with
    | some _=>exact hhi.elim
    | none=>
     simp only[aap,Ge,Yy]at h2;have hn:u=n:=Om
     subst hn;simp[Instr.sliceBounds,hbl]
   | some y=>
    cases TQ with
    | none=>exact hhi.elim
    | some cy=>
     obtain⟨k,rfl⟩:=hh y cy hhi h2;simp[Instr.sliceBounds,hbu,hbl]
def extract_mk(s:By)(l u:Nat): (⟨⟨s⟩⟩:ByteArray).extract l u= ⟨⟨(s.drop l).take (u - l)⟩⟩:=by
 apply ByteArray.ext
 simp[ByteArray.data_extract,List.extract_eq_take_drop]
def Nh{t:TypeId}{es x lo hi cx Ue TQ}{e:TypeId}(hu:P.underlying t=some (.slice e))(hes:dR P e=some es)
  (hx:VR m (ρ x) cx) (hlo:oX m ρ lo Ue)
  (hhi:oX m ρ hi TQ) (hf:dt (.sl es x lo hi) ρ h=some (v,h')):
  ∃cv,(Instr.sliceAt t cx Ue TQ none).run P w= .ok cv w∧VR m v cv∧h' =h:=by
 simp only[dt]at hf;split at hf
 ·rename_i b o n es' hρ;rw[hρ]at hx;obtain⟨en,ca,cap,Ry,rfl,Rk,RD,hroom⟩:=hx;split at hf
  case isFalse=>cases hf
  rename_i hees;subst hees;split at hf
  case h_2=>cases hf
  rename_i l u hb;cases hf;obtain⟨VH,hun,_,_⟩:=mi hb;refine⟨.slice (some (if cap=l then ca else ca.add (l * es'))) (u - l) (cap - l),?_,⟨en,_,cap - l,Ry,rfl,Om,?_,?_⟩,rfl⟩
  ·simp only[Instr.sliceAt,Yq,Yn hu,Yf,Instr.slice,fR hlo hhi hb true cap Rk,bZ hes,YG];by_cases hcl:cap=l<;>simp[hcl]
  ·intro hpos;rw[Yd Om,RD Om,gD];simp only[Addr.mk.injEq,aaD,and_true];omega
  ·have:cap=l+ (cap - l):=Om
   rw[this,aao]at hroom;omega
 ·rename_i hρ;rw[hρ,VR]at hx;subst hx;split at hf
  case h_2=>cases hf
  rename_i p hb;obtain⟨l,u⟩:=p;cases hf;obtain⟨VH,hun,_,_⟩:=mi hb;have VM:l=0:=Om
  have TT:u=0:=Om
  subst VM;subst TT;refine⟨.slice none 0 0,?_,rfl,rfl⟩;simp only[Instr.sliceAt,Yq,Yn hu,Yf,Instr.slice,fR hlo hhi hb true 0 (Yg _),bZ hes,YG];simp
 ·cases hf
def Kn{t:TypeId}{x lo hi cx Ue TQ}(hu:P.underlying t=some .string)
  (hx:VR m (ρ x) cx) (hlo:oX m ρ lo Ue)
  (hhi:oX m ρ hi TQ) (hf:dt (.pL x lo hi) ρ h=some (v,h')):
  ∃cv,(Instr.sliceAt t cx Ue TQ none).run P w= .ok cv w∧VR m v cv∧h' =h:=by
 simp only[dt]at hf;split at hf
 case h_2=>cases hf
 rename_i s hρ;rw[hρ,VR]at hx;subst hx;split at hf
 case h_2=>cases hf
 rename_i l u hb;cases hf;refine⟨.string ((⟨⟨s⟩⟩:ByteArray).extract l u),?_,by rw[extract_mk];rfl,rfl⟩;have hs: (⟨⟨s⟩⟩:ByteArray).size=s.length:=rfl;simp only[Instr.sliceAt,Yq,Yn hu,Yf,Instr.slice];simp[hs,fR hlo hhi hb false s.length (Yg _)]
def Ko{t:TypeId}{k es x lo hi cx Ue TQ}{e:TypeId}(hu:P.underlying t=some (.array k e))(hes:dR P e=some es)(hr:HR P m h w)
  (hx:VR m (ρ x) cx) (hlo:oX m ρ lo Ue)
  (hhi:oX m ρ hi TQ) (hf:dt (.Mz k es x lo hi) ρ h=some (v,h')):
  ∃cv,(Instr.sliceAt t cx Ue TQ none).run P w= .ok cv w∧VR m v cv∧h' =h:=by
 simp only[dt]at hf;split at hf
 case h_2=>cases hf
 rename_i b o hρ;rw[hρ]at hx;obtain⟨en,Ry,rfl⟩:=hx;split at hf
 case h_2=>cases hf
 rename_i c mu tl hbk;split at hf
 case isFalse=>cases hf
 rename_i hle;split at hf
 case h_2=>cases hf
 rename_i l u hb;cases hf;obtain⟨VH,hun,_,_⟩:=mi hb;obtain⟨_,_,_,_,⟨_,dZ⟩,_⟩:=hr.dP b en _ Ry hbk;refine⟨.slice (some (if k=l then⟨en.cb,o+en.d,none⟩else(⟨en.cb,o+en.d,none⟩:Addr).add (l * es))) (u - l) (k - l),?_,⟨en,_,k - l,Ry,rfl,Om,?_,?_⟩,rfl⟩
 ·simp only[Instr.sliceAt,Yq,Yn hu,Yf,Instr.sureAddr,YG,fR hlo hhi hb false k (Yg _),bZ hes]
 ·intro hpos;rw[Yd Om,gD];simp only[Addr.mk.injEq,aaD,and_true];omega
 ·have:k=l+ (k - l):=Om
  rw[this,aao]at hle;omega
def qU{a f n}(hn:dR P f.type=some n)(hpos:0 < n): (fieldPlace a f).run P w= .ok (a.add f.offset) w:=by
 have:n≠0:=Om
 simp[fieldPlace,bZ hn,this]
def Hc{t:TypeId}{i n f x cx}(hfa:fieldAt P t i=some f)(hn:dR P f.type=some n)(hpos:0 < n)(hx:VR m (ρ x) cx)(hf:dt (.aP f.offset x) ρ h=some (v,h')):
  ∃cv,(Instr.fieldAt t cx i).run P w= .ok cv w∧VR m v cv∧h' =h:=by
 unfold Abs.fieldAt at hfa;split at hfa
 case h_2=>cases hfa
 rename_i fs hu;simp only[dt]at hf;split at hf
 case h_2=>cases hf
 rename_i b o hρ;cases hf;rw[hρ]at hx;obtain⟨e,he,rfl⟩:=hx;refine⟨_,?_,⟨e,he,rfl⟩,rfl⟩;simp only[Instr.fieldAt,Yq,Yn hu,Yf,hfa,Instr.sureAddr,YG,qU hn hpos,gD];rw[Nat.add_right_comm]
def G9{t e:TypeId}{es x i cx ci}(hu:P.underlying t=some (.slice e))(hes:dR P e=some es)(hx:VR m (ρ x) cx)(hi:VR m (ρ i) ci)(hf:dt (.aS es x i) ρ h=some (v,h')):
  ∃cv,(Instr.indexAt t cx ci).run P w= .ok cv w∧VR m v cv∧h' =h:=by
 simp only[dt]at hf;split at hf
 case h_2=>cases hf
 rename_i b o n es' k j RP Tt;rw[RP]at hx;rw[Tt,VR]at hi;subst hi;obtain⟨en,ca,cap,Ry,rfl,Rk,RD,hroom⟩:=hx;split at hf
 case isFalse=>cases hf
 rename_i hc;obtain⟨rfl,h0,h1⟩:=hc;cases hf;refine⟨_,?_,⟨en,Ry,rfl⟩,rfl⟩;simp only[Instr.indexAt,asIntOf,Yq,YG,Yf,Yn hu];rw[Yh ⟨h0,h1⟩];simp only[Yq,bZ hes,Yf,YG,RD Om,gD];rw[Nat.add_right_comm]
def Ha{t e:TypeId}{len es x i cx ci}(hu:P.underlying t=some (.array len e))(hes:dR P e=some es)(hx:VR m (ρ x) cx)(hi:VR m (ρ i) ci)(hf:dt (.sj len es x i) ρ h=some (v,h')):
  ∃cv,(Instr.indexAt t cx ci).run P w= .ok cv w∧VR m v cv∧h' =h:=by
 simp only[dt]at hf;split at hf
 case h_2=>cases hf
 rename_i b o k j RP Tt;rw[RP]at hx;rw[Tt,VR]at hi;subst hi;obtain⟨en,Ry,rfl⟩:=hx;split at hf
 case isFalse=>cases hf
 rename_i hc;obtain⟨h0,h1⟩:=hc;cases hf;refine⟨_,?_,⟨en,Ry,rfl⟩,rfl⟩;simp only[Instr.indexAt,asIntOf,Yq,YG,Yf,Yn hu,Instr.sureAddr];rw[Yh ⟨h0,h1⟩];simp only[Yq,bZ hes,Yf,YG,gD];rw[Nat.add_right_comm]
def DI{t:TypeId}{i f n x cx}(hfa:fieldAt P t i=some f)(hn:AJ P f.type=some n)(hx:VR m (ρ x) cx)(hf:dt (.part n f.offset x) ρ h=some (v,h')):
  ∃cv,(Instr.field t cx i).run P w= .ok cv w∧VR m v cv∧h' =h:=by
 unfold Abs.fieldAt at hfa;split at hfa
 case h_2=>cases hfa
 rename_i fs hu;simp only[dt]at hf;split at hf
 case h_2=>cases hf
 rename_i cs hρ;rw[hρ]at hx;obtain⟨l',rfl,hl⟩:=hx;obtain⟨cv,h1,h2,h3⟩:=BA (w:=w) hn hl (by cases n<;>exact hf);exact⟨cv,by simp only[Instr.field,Yq,Yn hu,Yf,hfa,asAgg,YG,h1],h2,h3⟩
def Kq{t e:TypeId}{len es n x i cx ci}(hu:P.underlying t=some (.array len e))(hes:dR P e=some es)(hn:AJ P e=some n)(hx:VR m (ρ x) cx)(hi:VR m (ρ i) ci)
  (hf:dt (.I6 len es n x i) ρ h=some (v,h')):∃cv,(Instr.index t cx ci).run P w= .ok cv w∧VR m v cv∧h' =h:=by
 simp only[dt]at hf;split at hf
 case h_2=>cases hf
 rename_i cs k j RP Tt;rw[RP]at hx;rw[Tt,VR]at hi;subst hi;obtain⟨l',rfl,hl⟩:=hx;split at hf
 case isFalse=>cases hf
 rename_i hc;obtain⟨cv,h1,h2,h3⟩:=BA (w:=w) (off:=j.toNat * es) hn hl (by cases n<;>exact hf);refine⟨cv,?_,h2,h3⟩;simp only[Instr.index,asIntOf,Yq,YG,Yf,Yn hu];rw[Yh hc];simp only[Yq,bZ hes,Yf,h1]
def Kp{t:TypeId}{x i cx ci}(hu:P.underlying t=some .string)(hx:VR m (ρ x) cx)(hi:VR m (ρ i) ci)
  (hf:dt (.qe x i) ρ h=some (v,h')):∃cv,(Instr.index t cx ci).run P w= .ok cv w∧VR m v cv∧h' =h:=by
 simp only[dt]at hf;split at hf
 case h_2=>cases hf
 rename_i s k j RP Tt;rw[RP,VR]at hx;rw[Tt,VR]at hi;subst hi;subst hx;split at hf
 case isFalse=>cases hf
 rename_i h0;split at hf
 case h_2=>cases hf
 rename_i b hb;cases hf;refine⟨.int .u8 b.toNat,?_,rfl,rfl⟩;have hb': (⟨⟨s⟩⟩:ByteArray)[j.toNat]? =some b:=by
  show(if h:j.toNat < s.length then some (s[j.toNat])else none)=some b;obtain⟨hlt,he⟩:=X1.1 hb;rw[dif_pos hlt,he]
 simp only[Instr.index,asIntOf,Yq,YG,Yf,Yn hu,Yh h0,hb']
end
def ak.isObj:ak→Bool
 | .bn _=>true
 | .iter _ _=>true
 | .loop _ _ _ _ _ _=>true
 | _=>false
section
variable {P:Program} {m:bY} {h h':ah} {w:World} {ρ:cT→AV} {v:AV}
def jN(hr:HR P m h w){b e k k' o}(he:m b=some e)(hb:h[b]? =some k)(hk:k.isObj=true)(hk':k'.isObj=true∨k' = .dead)
  (hnew:BR P m (w.putObj e.cb o) e k'):HR P m (h.set b k') (w.putObj e.cb o)∧Grow m h w m (h.set b k') (w.putObj e.cb o):=by
 have hbl:b < h.length:=hr.cI _ _ he;have UO:k.live=true:=by cases k<;>first| rfl| cases hk
 have hown:e.own=true:=by
  have:=hr.dP b e k he hb;cases k<;>first| exact this.1| (cases hk;done)
 have hother:∀i,i≠e.cb→(w.putObj e.cb o).heap[i]? =w.heap[i]? :=fun i hi=>World.putObj_heap_other hi
 have hsep:∀b' e' k2,b'≠b→m b' =some e'→h[b']? =some k2→k2.live=true→e'.cb≠e.cb:=by
  intro b' e' k2 hne RX QY hl hcb;have:=hr.sep b' b e' e k2 k hne RX he QY hb hcb;cases k<;>cases k2<;>first| exact this| (cases hk;done)| (cases hl;done)
 refine⟨⟨?_,?_,?_,hr.fV,fun b' e' hb'=>by simpa using hr.lt b' e' hb'⟩,⟨fun _ _=>rfl,Si,?_,?_,Si,rfl,rfl,rfl,?_⟩⟩
 ·intro b' e' hb';simpa using hr.cI b' e' hb'
 ·intro b' e' k2 RX QY;rw[bH h b b' _ hbl]at QY;by_cases hbb:b' =b
  ·subst hbb;rw[Yh rfl]at QY;cases QY;rw[he]at RX;cases RX;exact hnew
  ·rw[Yd hbb]at QY;have h0:=hr.dP b' e' k2 RX QY;by_cases hl:k2.live=true
   ·exact h0.heap (hother _ (hsep b' e' k2 hbb RX QY hl))
   ·exact GM
 ·intro b1 b2 e1 e2 k1 k2 hne Sj Q6 hk1 QY hcb;rw[bH h b _ _ hbl]at hk1 QY;by_cases Rq:b1=b
  ·subst Rq;rw[Yh rfl]at hk1;cases hk1;rw[Yd (fun x=>hne x.symm)]at QY;rw[he]at Sj;cases Sj;by_cases hl:k2.live=true
   ·exact absurd hcb.symm (hsep b2 e2 k2 (fun x=>hne x.symm) Q6 QY hl)
   ·cases k2<;>first| (cases k'<;>trivial)| exact absurd rfl hl
  ·rw[Yd Rq]at hk1;by_cases RG:b2=b
   ·subst RG;rw[Yh rfl]at QY;cases QY;rw[he]at Q6;cases Q6;by_cases hl:k1.live=true
    ·exact absurd hcb (hsep b1 e1 k1 hne Sj hk1 hl)
    ·cases k1<;>first| trivial| exact absurd rfl hl
   ·exact Ms
 ·intro b' e' hb' RX;exact absurd (hr.cI _ _ RX) Om
 ·intro b' hb' ht;unfold eo at ht ⊢;rw[bH h b b' _ hbl]at ht;by_cases hbb:b' =b
  ·subst hbb;rw[Yh rfl]at ht;rcases hk' with hk'| hk'
   ·cases k'<;>first| (cases hk';done)| (cases ht;done)
   ·subst hk';cases ht
  ·exact Dg
 ·intro i hi hno;exact hother i (fun hcb=>hno b e he hown hcb.symm)
def j9{r o}(ho:w.heap[r]? =some o)(hc:o.isCells=false): (getObj r).run P w= .ok o w:=by
 cases o<;>first| (cases hc;done)| simp[getObj,Sem.run,ho]
def mP{r o o'}(ho:w.heap[r]? =some o)(hc:o.isCells=false): (setObj r o').run P w= .ok () (w.putObj r o'):=by
 cases o<;>first| (cases hc;done)| simp[setObj,Sem.run,ho,World.putObj]
def G5{t:TypeId}{x cx}(hu:P.underlying t=some .string)(hr:HR P m h w)(hx:VR m (ρ x) cx)(hf:dt (.xD x) ρ h=some (v,h')):
  ∃cv w' m',(Instr.range t cx).run P w= .ok cv w'∧VR m' v cv∧HR P m' h' w'∧Grow m h w m' h' w':=by
 simp only[dt]at hf;split at hf
 case h_2=>cases hf
 rename_i s hρ;rw[hρ,VR]at hx;subst hx;cases hf;have Ww:=jZ hr (.stringIter ⟨⟨s⟩⟩ 0) (.iter s 0) ⟨w.heap.size,0,0,true⟩ rfl rfl (fun m' _=>⟨rfl,rfl,World.alloc_heap_new w _⟩);exact⟨.pointer (some ⟨w.heap.size,0,none⟩),_,_,by simp[Instr.range,Yn hu],⟨⟨w.heap.size,0,0,true⟩,by simp[bY.add],rfl⟩,Ww.1,Ww.2⟩
def DJ{t:TypeId}{x cx}(hr:HR P m h w)(hx:VR m (ρ x) cx)(hf:dt (.nS x) ρ h=some (v,h')):
  ∃cv w' m',(Instr.next cx true t).run P w= .ok cv w'∧VR m' v cv∧HR P m' h' w'∧Grow m h w m' h' w':=by
 simp only[dt]at hf;split at hf
 case h_2=>cases hf
 rename_i b hρ;rw[hρ]at hx;obtain⟨e,he,rfl⟩:=hx;split at hf
 case h_2=>cases hf
 rename_i s pos hb;obtain⟨hown,hd0,hheap⟩:=hr.dP b e _ he hb;have hg:=j9 (P:=P) hheap rfl;have dZ: (⟨⟨s⟩⟩:ByteArray).size=s.length:=rfl;split at hf
 ·rename_i hlt;cases hf;have hbl:e.cb < w.heap.size:=(Ym.1 hheap).1;obtain⟨h1,h2⟩:=jN hr he hb rfl (k':=.iter s (pos+ (Utf8.decode ⟨⟨s⟩⟩ pos).2)) (o:=.stringIter ⟨⟨s⟩⟩ (pos+ (Utf8.decode ⟨⟨s⟩⟩ pos).2)) (.inl rfl) ⟨hown,hd0,World.putObj_heap_same hbl⟩;refine⟨.tuple #[.bool true,goInt pos,.int .i32 (Utf8.decode ⟨⟨s⟩⟩ pos).1],_,m,?_,⟨_,rfl,?_⟩,h1,h2⟩
  ·simp[Instr.next,hd0,hg,dZ,hlt,mP hheap rfl]
  ·exact⟨_,_,rfl,rfl,_,_,rfl,rfl,_,_,rfl,rfl,rfl⟩
 ·rename_i hlt;cases hf;refine⟨.tuple #[.bool false],w,m,?_,⟨_,rfl,_,_,rfl,rfl,rfl⟩,hr,Grow.refl m h w hr.cI⟩;simp[Instr.next,hd0,hg,dZ,hlt]
def zY(kk:CK)(d:TypeDesc):Prop:=
 match kk with
 | .b=>d= .bool
 | .i=>∃i,d= .int i
 | .s=>d= .string
def tq{t:TypeId}{kk}(hk:x6 P t=some kk):∃d,P.underlying t=some d∧zY kk d:=by
 unfold x6 at hk;split at hk
 ·rename_i k hu;cases hk;exact⟨_,hu,k,rfl⟩
 ·rename_i hu;cases hk;exact⟨_,hu,rfl⟩
 ·rename_i hu;cases hk;exact⟨_,hu,rfl⟩
 ·cases hk
def yY{kk}{d:TypeDesc}(hd:zY kk d){k k' ck ck' b}(hk:VR m k ck)(hk':VR m k' ck')(he:de kk k k' =some b):
  Instr.sameNow d ck ck' =some b:=by
 unfold de at he;split at he
 ·rw[VR]at hk hk';subst hk;subst hk';cases hd;cases he;rfl
 ·split at he
  ·rename_i hkk;rw[VR]at hk hk';subst hk;subst hk';subst hkk;obtain⟨i,rfl⟩:=hd;cases he;simp[Instr.sameNow]
  ·cases he
 ·rw[VR]at hk hk';subst hk;subst hk';cases hd;cases he;simp[Instr.sameNow,toList_mk,beq_toListBytes]
 ·cases he
def mz(m:bY):List (AV×AV)→List MapEntry→Prop
 | [],l=>l= []
 | p::r,l=>∃q s,l=q::s∧VR m p.1 q.key∧VR m p.2 q.val∧mz m r s
theorem mz.gO:∀{es} {l},l.length=es.length→(∀ (i:Nat) (p:AV×AV),es[i]? =some p→∃q,l[i]? =some q∧VR m p.1 q.key∧VR m p.2 q.val)→mz m es l
 | [],l,hl,_=>Y9.1 (by simpa using hl)
 | p::r,[],hl,_=>by simp at hl
 | p::r,q::s,hl,h=>by
  obtain⟨q',hq,h1,h2⟩:=h 0 p Si;simp at hq;subst hq;exact⟨q,s,rfl,h1,h2,mz.gO (by simpa using hl) fun i p hp=>by simpa using h (i+1) p (by simpa using hp)⟩
theorem mz.get:∀{es} {l},mz m es l→l.length=es.length∧∀ (i:Nat) (p:AV×AV),es[i]? =some p→∃q,l[i]? =some q∧VR m p.1 q.key∧VR m p.2 q.val
 | [],l,h=>by cases h;exact⟨rfl,fun i p hp=>by simp at hp⟩
 | p::r,l,h=>by
  obtain⟨q,s,rfl,h1,h2,h3⟩:=h;obtain⟨hl,hg⟩:=mz.get h3;refine⟨by simp[hl],fun i p' hp=>?_⟩;cases i with
  | zero=>simp at hp;subst hp;exact⟨q,Si,h1,h2⟩
  | succ i=>simpa using hg i p' (by simpa using hp)
theorem rC{kk}{d:TypeDesc}(hd:zY kk d){k ck}(hk:VR m k ck):∀{es} {l} {r} (i:Nat),mz m es l→jg kk k es=some r→
  ∃cr,Instr.findNow d ck l i=some cr∧(match r,cr with| none,none=>True| some v,some (_,cv)=>VR m v cv| _,_=>False)
 | [],l,r,i,h,hf=>by cases h;cases hf;exact⟨none,rfl,trivial⟩
 | (a,v)::es,l,r,i,h,hf=>by
  obtain⟨q,s,rfl,h1,h2,h3⟩:=h;simp only[jg]at hf;cases he:de kk k a with
  | none=>simp[he]at hf
  | some b=>
   have hs:=yY hd hk h1 he;cases b with
   | true=>
    simp[he]at hf;subst hf;exact⟨some (i,q.val),by simp[Instr.findNow,hs],h2⟩
   | false=>
    simp only[he]at hf;obtain⟨cr,hcr,hm⟩:=rC hd hk (i+1) h3 hf;exact⟨cr,by simp[Instr.findNow,hs,hcr],hm⟩
def r9{t:TypeId}{d:TypeDesc}{kk}(hu:P.underlying t=some d)(hd:zY kk d)(b:Bool)(v:Value)(n:Nat): (Instr.checkKey b (n+1) t v).run P w= .ok () w:=by
 cases kk with
 | b=>cases hd;cases v<;>simp[Instr.checkKey,Yn hu]
 | i=>obtain⟨i,rfl⟩:=hd;cases v<;>simp[Instr.checkKey,Yn hu]
 | s=>cases hd;cases v<;>simp[Instr.checkKey,Yn hu]
def run_checkKey{t:TypeId}{d:TypeDesc}{kk}(hu:P.underlying t=some d)(hd:zY kk d)(b:Bool)(v:Value): (Instr.checkKey b 10000 t v).run P w= .ok () w:=r9 hu hd b v 9999
def G8{t kt e:TypeId}{kk z ok x k cx ck}(hu:P.underlying t=some (.map kt e))(hkk:x6 P kt=some kk)(hz:jm P e=some z)(hr:HR P m h w)(hx:VR m (ρ x) cx)(hk:VR m (ρ k) ck)
  (hf:dt (.look kk z ok x k) ρ h=some (v,h')):∃cv,(Instr.lookup t cx ck ok).run P w= .ok cv w∧VR m v cv∧h' =h:=by
 obtain⟨d,hud,hd⟩:=tq hkk;obtain⟨cz,TI,Ui⟩:=jJ hz w m;simp only[dt]at hf;split at hf
 ·rename_i hρ;rw[hρ,VR]at hx;subst hx;cases hf;refine⟨if ok then .tuple #[cz,.bool false]else cz,?_,?_,rfl⟩
  ·simp only[Instr.lookup,Yq,Yn hu,Yf,YG,run_checkKey hud hd,Instr.findKey,Yn hud];simp[Instr.findNow,TI]
  ·exact z164
 ·rename_i r hρ;rw[hρ]at hx;obtain⟨en,Ry,rfl⟩:=hx;split at hf
  case h_2=>cases hf
  rename_i es hb;obtain⟨_,S3,clock,hheap,hlen,Q4⟩:=hr.dP r en _ Ry hb;have R8:mz m es S3.toList:=mz.gO (by simpa using hlen) (fun i p hp=>by obtain⟨q,hq,h1,h2⟩:=Q4 i p hp;exact⟨q,by simpa using hq,h1,h2⟩);have hg:=j9 (P:=P) hheap rfl;split at hf
  ·rename_i u Ti;cases hf;obtain⟨cr,hcr,hm⟩:=rC hd hk 0 R8 Ti;cases cr with
   | none=>exact hm.elim
   | some p=>
    obtain⟨i,cu⟩:=p;refine⟨if ok then .tuple #[cu,.bool true]else cu,?_,?_,rfl⟩
    ·simp only[Instr.lookup,Yq,Yn hu,Yf,hg,YG,run_checkKey hud hd,Instr.findKey,Yn hud,hcr]
    ·cases ok
     ·exact hm
     ·exact⟨_,rfl,_,_,rfl,hm,_,_,rfl,rfl,rfl⟩
  ·rename_i Ti;cases hf;obtain⟨cr,hcr,hm⟩:=rC hd hk 0 R8 Ti;cases cr with
   | some p=>exact hm.elim
   | none=>
    refine⟨if ok then .tuple #[cz,.bool false]else cz,?_,?_,rfl⟩
    ·simp only[Instr.lookup,Yq,Yn hu,Yf,hg,YG,run_checkKey hud hd,Instr.findKey,Yn hud,hcr,TI]
    ·exact z164
  ·cases hf
 ·cases hf
theorem VR.sameBits{kk k k' ck ck'}(hk:VR m k ck)(hk':VR m k' ck')(he:de kk k k' =some true)(n:Nat):Instr.sameBits n ck' ck=true:=by
 unfold de at he;split at he
 ·rw[VR]at hk hk';subst hk;subst hk';simp at he;simp[Instr.sameBits,he]
 ·split at he
  ·rename_i hkk;rw[VR]at hk hk';subst hk;subst hk';subst hkk;simp at he;simp[Instr.sameBits,he]
  ·cases he
 ·rw[VR]at hk hk';subst hk;subst hk';simp at he;subst he;simp[Instr.sameBits,beq_toListBytes]
 ·cases he
theorem yw{kk}{d:TypeDesc}(hd:zY kk d){k x ck cx}(hk:VR m k ck)(hx:VR m x cx)(clock:Nat):∀{es es'} {l} (i:Nat),mz m es l→o7 kk k x es=some es'→
  (∃j q,Instr.findNow d ck l i=some (some (i+j,q.val))∧l[j]? =some q∧Instr.sameBits 10000 q.key ck=true∧mz m es' (l.set j { q with key:=ck,val:=cx }))∨
  (Instr.findNow d ck l i=some none∧mz m es' (l++ [{ key:=ck,val:=cx,born:=clock }]))
 | [],es',l,i,h,hf=>by cases h;cases hf;exact .inr ⟨rfl,_,_,rfl,hk,hx,rfl⟩
 | (a,u)::es,es',l,i,h,hf=>by
  obtain⟨q,s,rfl,h1,h2,h3⟩:=h;simp only[o7]at hf;cases he:de kk k a with
  | none=>simp[he]at hf
  | some b=>
   have hs:=yY hd hk h1 he;cases b with
   | true=>
    simp[he]at hf;subst hf;exact .inl ⟨0,q,by simp[Instr.findNow,hs],Si,VR.sameBits hk h1 he 10000,_,_,rfl,hk,hx,h3⟩
   | false=>
    simp only[he,Yr]at hf;obtain⟨es2,hes2,rfl⟩:=hf;rcases yw hd hk hx clock (i+1) h3 hes2 with⟨j,q',hj,Wk,hb,hr⟩| ⟨hj,hr⟩
    ·exact .inl ⟨j+1,q',by simp[Instr.findNow,hs,hj];omega,by simpa using Wk,hb,_,_,rfl,h1,h2,hr⟩
    ·exact .inr ⟨by simp[Instr.findNow,hs,hj],_,_,rfl,h1,h2,hr⟩
def G6{t kt e:TypeId}{kk x k u cx ck cu}(hu:P.underlying t=some (.map kt e))(hkk:x6 P kt=some kk)(hr:HR P m h w)(hx:VR m (ρ x) cx)(hk:VR m (ρ k) ck)(hv:VR m (ρ u) cu)
  (hf:dt (.fj kk x k u) ρ h=some (v,h')):∃w',(Instr.mapUpdate t cx ck cu).run P w= .ok () w'∧v=aA∧HR P m h' w'∧Grow m h w m h' w':=by
 obtain⟨d,hud,hd⟩:=tq hkk;simp only[dt]at hf;split at hf
 case h_2=>cases hf
 rename_i r hρ;rw[hρ]at hx;obtain⟨en,Ry,rfl⟩:=hx;split at hf
 case h_2=>cases hf
 rename_i es hb;split at hf
 case h_2=>cases hf
 rename_i es' hupd;cases hf;obtain⟨hown,S3,clock,hheap,hlen,Q4⟩:=hr.dP r en _ Ry hb;have R8:mz m es S3.toList:=mz.gO (by simpa using hlen) (fun i p hp=>by obtain⟨q,hq,h1,h2⟩:=Q4 i p hp;exact⟨q,by simpa using hq,h1,h2⟩);have hg:=j9 (P:=P) hheap rfl;have hbl:en.cb < w.heap.size:=(Ym.1 hheap).1;have done:∀ (ces':Array MapEntry) (c:Nat),mz m es' ces'.toList→HR P m (h.set r (.bn es')) (w.putObj en.cb (.map ces' c))∧Grow m h w m (h.set r (.bn es')) (w.putObj en.cb (.map ces' c)):=by
  intro ces' c Tj;obtain⟨Q7,Rj⟩:=Tj.get;exact jN hr Ry hb rfl (.inl rfl) ⟨hown,ces',c,World.putObj_heap_same hbl,by simpa using Q7,fun i p hp=>by obtain⟨q,hq,h1,h2⟩:=Rj i p hp;exact⟨q,by simpa using hq,h1,h2⟩⟩
 rcases yw hd hk hv clock 0 R8 hupd with⟨j,q,hj,hq,hbits,Tj⟩| ⟨hj,Tj⟩
 ·have Wk:S3[j]? =some q:=by simpa using hq
  obtain⟨h1,h2⟩:=done (S3.modify j fun e=>{ e with key:=ck,val:=cu }) clock (by
   have: (S3.modify j fun e=>{ e with key:=ck,val:=cu }).toList=S3.toList.set j { q with key:=ck,val:=cu }:=by
    apply aar
    intro i;rw[Zy,Array.getElem?_modify,List.getElem?_set];by_cases hij:j=i
    ·subst hij;obtain⟨hlt,heq⟩:=Ym.1 Wk;simp[Wk,hlt,heq]
    ·simp[hij]
   rw[this];exact Tj)
  refine⟨_,?_,rfl,h1,h2⟩;simp only[Instr.mapUpdate,Yq,Yn hu,Yf,hg,run_checkKey hud hd,Instr.findKey,Yn hud,hj,YG,YR,Wk,ZY,aaj,Instr.keyThatStays,hbits,Ys,mP hheap rfl]
 ·obtain⟨h1,h2⟩:=done (S3.push { key:=ck,val:=cu,born:=clock }) (clock+1) (by simpa using Tj);refine⟨_,?_,rfl,h1,h2⟩;simp only[Instr.mapUpdate,Yq,Yn hu,Yf,hg,run_checkKey hud hd,Instr.findKey,Yn hud,hj,YG,mP hheap rfl]
end
section
variable {P:Program} {m:bY} {h h':ah} {w:World} {ρ:cT→AV} {v:AV}
theorem mS(m:bY):∀ (s:By),cH m (s.map fun b=>AV.int .u8 b.toNat) (s.map fun b=>Value.int .u8 b.toNat)
 | []=>bB.2 rfl
 | b::s=>aR.2 ⟨_,_,rfl,rfl,mS m s⟩
def rm(s:By): (s.map fun b=>AV.int .u8 b.toNat).all AV.one=true:=by
 rw[YE];intro x hx;simp only[YA]at hx;obtain⟨b,_,rfl⟩:=hx;rfl
def cJ{es y cy ys k}(hr:HR P m h w)(hy:VR m y cy)(hc:cellsIn es h y=some (ys,k)):
  (Builtin.lenOf cy).run P w= .ok k w∧ys.length=k * es∧ys.all AV.one=true∧
   ∀n,n≤k→∃vs,(Builtin.firstCells es n cy).run P w= .ok ⟨vs⟩ w∧cH m (ys.take (n * es)) vs:=by
 unfold cellsIn at hc;split at hc
 ·rw[VR]at hy;subst hy;cases hc;exact⟨rfl,Si,rfl,fun n hn=>⟨[],by simp[Builtin.firstCells],by simp[bB]⟩⟩
 ·rename_i b o n es';obtain⟨e,ca,cap,he,rfl,Rk,RD,hroom⟩:=hy;split at hc
  case isFalse=>cases hc
  rename_i hes;subst hes;split at hc
  case h_2=>cases hc
  rename_i c mu tl hb;split at hc
  case isFalse=>cases hc
  rename_i hle;cases hc;obtain⟨_,_,_,hone⟩:=mT hr he hb o (k * es') hle;refine⟨rfl,by simp;omega,hone,fun n hn=>?_⟩;have hmul:n * es'≤k * es':=Zc _ hn;by_cases h0:cap=0
  ·have hk0:k=0:=Om
   have Vk:n=0:=Om
   subst Vk;exact⟨[],by simp[Builtin.firstCells,loadCells,loadCellsFrom],by simp[bB]⟩
  ·rw[RD Om];obtain⟨vs,Q1,RQ,_⟩:=mT hr he hb o (n * es') Om;refine⟨vs,by simp[Builtin.firstCells,Q1],?_⟩;rw[List.take_take,ZW hmul];exact RQ
 ·rename_i s;rw[VR]at hy;subst hy;split at hc
  case isFalse=>cases hc
  rename_i hes;subst hes;cases hc;refine⟨rfl,Si,rm s,fun n hn=>⟨(s.take n).map fun b=>Value.int .u8 b.toNat,?_,?_⟩⟩
  ·simp only[Builtin.firstCells,YG,extract_mk];simp
  ·rw[aaf,←List.map_take];exact mS m _
 ·cases hc
theorem sN{cb}{el:TypeId}{fz}:∀ (vs:List Value) (p j:Nat) (cc:Array Value) (w:World),w.heap[cb]? =some (.cells cc el fz)→p+j+vs.length≤cc.size→
  (∀i,i < cc.size→¬ (fz.1≤i∧i < fz.2))→(∀v∈vs,v.oneCell' =true)→
  ∃w' RE,(storeCells ⟨cb,p,none⟩ vs j).run P w= .ok () w'∧w'.heap[cb]? =some (.cells RE el fz)∧RE.size=cc.size∧
   (∀i,RE[i]? =if p+j≤i∧i < p+j+vs.length then vs[i - (p+j)]? else cc[i]?)∧(∀k,k≠cb→w'.heap[k]? =w.heap[k]?)∧w'.heap.size=w.heap.size∧w'.os=w.os∧w'.output=w.output∧w'.tape=w.tape
 | [],p,j,cc,w,hw,_,_,_=>⟨w,cc,rfl,hw,rfl,fun i=>by simp;omega,fun _ _=>rfl,rfl,rfl,rfl,rfl⟩
 | v::vs,p,j,cc,w,hw,hlen,hfz,hone=>by
  simp only[X8]at hlen;have RN:w.cell? ⟨cb,p+j,none⟩=some (cc[p+j]'Om):=by simp only[World.cell?,hw];exact YT Om
  have hfr:w.frozen? ⟨cb,p+j,none⟩=false:=n7 hw (hfz _ Om);have UD:=heap_setCell_same (i:=p+j) hw v;have SJ: (cc.setIfInBounds (p+j) v).size=cc.size:=Si
  obtain⟨w',RE,h1,h2,h3,h4,h5,h6,h7,h8,h9⟩:=sN vs p (j+1) (cc.setIfInBounds (p+j) v) (w.setCell ⟨cb,p+j,none⟩ v) UD (by rw[SJ];omega) (by rw[SJ];exact hfz) (fun u hu=>hone u (YI _ hu));refine⟨w',RE,?_,h2,Om,?_,?_,by simpa using h6,h7,h8,h9⟩
  ·simp only[storeCells,Yq];rw[gD,run_store P w _ v .plain (hone v (YV ..)),RN];simp only[hfr,YS,Yo,Yf];exact h1
  ·intro i;rw[h4 i];by_cases hi:i=p+j
   ·subst hi;rw[Yd Om,Yh (by simp only[X8];omega)];rw[Zm Om];simp
   ·rw[ZL (fun x=>hi x.symm)];by_cases hin:p+ (j+1)≤i∧i < p+ (j+1)+vs.length
    ·rw[Yh hin,Yh (by simp only[X8];omega)];rw[show i - (p+j)= (i - (p+ (j+1)))+1 from by omega];simp
    ·rw[Yd hin,Yd (by simp only[X8];omega)]
  ·intro k hk;rw[h5 k hk];exact Go.RowKit.Below.heap_setCell w _ v k hk
def D4(need cap:Nat)(hc:cap < need):Builtin.nextslicecap need cap≤2 * need+192:=by
 unfold Builtin.nextslicecap;split
 ·omega
 ·split
  ·omega
  ·have grow:∀ (r c:Nat),c < need+ (need+768) / 4→Builtin.growBy need r c≤need+ (need+768) / 4:=by
    intro r
    induction r with
    | zero=>intro c Uo;simp only[Builtin.growBy];omega
    | succ r ih=>
     intro c Uo;simp only[Builtin.growBy];split
     ·omega
     ·rename_i hlt;have h1:c < need:=Om
      by_cases hh:c+ (c+768) / 4 < need+ (need+768) / 4
      ·exact ih _ hh
      ·have:c+ (c+768) / 4≤need+ (need+768) / 4:=Om
       have e:c+ (c+768) / 4=need+ (need+768) / 4:=Om
       rw[e];cases r with
       | zero=>simp[Builtin.growBy]
       | succ r=>simp only[Builtin.growBy];rw[Yh Om];exact Yg _
   have:=grow 4 cap Om;omega
theorem cH.vu:∀{l} {vs},cH m l vs→l.all AV.one=true→∀v∈vs,v.oneCell' =true
 | [],vs,h,_,v,hv=>by rw[bB]at h;subst h;cases hv
 | x::xs,vs,h,h1,v,hv=>by
  obtain⟨y,ys,rfl,hy,hys⟩:=aR.1 h;simp only[ZF,YD]at h1;rcases YH.1 hv with rfl| hv
  ·exact hy.tV h1.1
  ·exact cH.vu hys h1.2 v hv
def rA(hr:HR P m h w){b o q e c ys mu mu' k0}(he:m b=some e)(hb:h[b]? =some (.cells c mu true))(hoq:o+q≤c.length)
  (hk0: (k0= .cells c false false∧o+q=c.length∧mu' =false)∨(k0= .dead∧mu=true)) {vs} (hys:cH m ys vs) (h1:ys.all AV.one=true) (hroom:o+q+e.d+ys.length≤e.sz) (j:Nat):
  ∃w' m',(storeCells ⟨e.cb,o+e.d+q,none⟩ vs 0).run P w= .ok () w'∧m' h.length=some ⟨e.cb,e.d+o,e.sz,true⟩∧
   HR P m' (h.set b k0++ [.cells ((c.drop o).take q++ys) mu' true]) w'∧Grow m h w m' (h.set b k0++ [.cells ((c.drop o).take q++ys) mu' true]) w':=by
 have _:=j;obtain⟨cc,el,fz,hw,⟨hle,hle'⟩,Q4,hown,hmt⟩:=hr.dP b e _ he hb;have ho:e.own=true:=(hmt (.inr rfl)).1;obtain⟨dZ,hfz⟩:=hown ho;have hlv:=hys.length;obtain⟨w',RE,Q1,hw',Rc,hcc',hoth,hhs,hos,hout,htape⟩:=sN (P:=P) vs (o+e.d+q) 0 cc w hw Om hfz (hys.vu h1);have hbl:b < h.length:=hr.cI _ _ he
 let e':sI:=⟨e.cb,e.d+o,e.sz,true⟩
 have RZ:m h.length=none:=by
  exact Mt
 have TC:m.le (m.add h.length e'):=bY.rM e' RZ;have hlen: (h.set b k0).length=h.length:=Si
 have UC:∀b2 e2 k2,b2≠b→m b2=some e2→h[b2]? =some k2→k2.live=true→e2.cb=e.cb→mu=false∧∃c2,k2= .cells c2 false false∧e2.d+c2.length≤e.d+c.length:=by
  intro b2 e2 k2 hne Q6 QY hl hcb;have:=hr.sep b b2 e e2 _ k2 (fun x=>hne x.symm) he Q6 hb QY hcb.symm;cases k2 with
  | cells c2 mu2 tl2=>
   obtain⟨SF,Vm,ht⟩:=this;obtain⟨ht2,SV⟩:=ht rfl;subst Vm;subst ht2;exact⟨SF,c2,rfl,SV⟩
  | dead=>cases hl
  | bn _=>exact this.elim
  | iter _ _=>exact this.elim
  | loop _ _ _ _ _ _=>exact this.elim
 have Wp:∀i,i < e.d+o+q→RE[i]? =cc[i]? :=by
  intro i hi;rw[hcc' i,Yd Om]
 have hnew:BR P (m.add h.length e') w' e' (.cells ((c.drop o).take q++ys) mu' true):=by
  refine⟨RE,el,fz,hw',⟨?_,?_,(by rw[Rc,dZ])⟩,?_,fun _=>⟨by rw[Rc,dZ],fun i hi=>hfz i Om⟩,fun _=>⟨rfl,fun x=>by cases x⟩⟩
  ·show e.d+o+ ((c.drop o).take q++ys).length≤RE.size;simp;omega
  ·show e.d+o+ ((c.drop o).take q++ys).length≤e.sz;simp;omega
  ·intro i x hx;by_cases hi:i < q
   ·rw[X5 (by simp;omega),Z8 hi,aan]at hx;obtain⟨hone,v,hv,QZ⟩:=Q4 (o+i) x hx;refine⟨hone,v,?_,VR.mono TC _ _ QZ⟩;show RE[e.d+o+i]? =some v;rw[Wp _ Om,show e.d+o+i=e.d+ (o+i)from by omega];exact hv
   ·have Uk: ((c.drop o).take q).length=q:=by simp;omega
    rw[Ye Om,Uk]at hx;obtain⟨v,hv,QZ⟩:=hys.get hx;have hlt:i - q < ys.length:=(X1.1 hx).1;refine⟨YE.1 h1 x (YW hx),v,?_,VR.mono TC _ _ QZ⟩;show RE[e.d+o+i]? =some v;rw[hcc',Yh Om,show e.d+o+i - (o+e.d+q+0)=i - q from by omega];exact hv
 have hbr0:∀b2 e2 k2,m b2=some e2→(h.set b k0)[b2]? =some k2→BR P (m.add h.length e') w' e2 k2:=by
  intro b2 e2 k2 Q6 QY;rw[bH h b b2 _ hbl]at QY;by_cases hbb:b2=b
  ·subst hbb;rw[Yh rfl]at QY;cases QY;rw[he]at Q6;cases Q6;rcases hk0 with⟨rfl,hcl,_⟩| ⟨rfl,_⟩
   ·refine⟨RE,el,fz,hw',⟨Om,Om⟩,?_,fun _=>⟨by rw[Rc,dZ],fun i hi=>hfz i Om⟩,fun x=>by rcases x with x| x<;>cases x⟩;intro i x hx;obtain⟨hone,v,hv,QZ⟩:=Q4 i x hx;have hi:i < c.length:=(X1.1 hx).1;exact JF
   ·trivial
  ·rw[Yd hbb]at QY;have h0:=hr.dP b2 e2 k2 Q6 QY;by_cases hl:k2.live=true
   ·by_cases hcb:e2.cb=e.cb
    ·obtain⟨hmf,c2,rfl,SV⟩:=UC b2 e2 k2 hbb Q6 QY hl hcb;rcases hk0 with⟨_,hcl,_⟩| ⟨_,UK⟩
     ·obtain⟨cc2,el2,fz2,hw2,⟨hle2a,hle2b⟩,hget2,hown2,hmt2⟩:=h0;rw[hcb,hw]at hw2;cases hw2;refine⟨RE,el,fz,by rw[hcb];exact hw',⟨Om,Om⟩,?_,fun ho2=>by have:=hown2 ho2;exact⟨Om,fun i hi=>this.2 i Om⟩,hmt2⟩;intro i x hx;obtain⟨hone,v,hv,QZ⟩:=hget2 i x hx;have hi:i < c2.length:=(X1.1 hx).1;exact JF
     ·rw[hmf]at UK;cases UK
    ·exact(h0.mono TC).heap (hoth _ hcb)
   ·exact GM
 have hget0:∀b2 k2,b2 < h.length→(h.set b k0++ [.cells ((c.drop o).take q++ys) mu' true])[b2]? =some k2→(h.set b k0)[b2]? =some k2:=by
  intro b2 k2 hlt QY
  rwa [X5 Om]at QY
 have hsep1:∀b2 e2 k2,m b2=some e2→(h.set b k0)[b2]? =some k2→e2.cb=e.cb→pN e' e2 (.cells ((c.drop o).take q++ys) mu' true) k2∧pN e2 e' k2 (.cells ((c.drop o).take q++ys) mu' true):=by
  intro b2 e2 k2 Q6 QY hcb;rw[bH h b b2 _ hbl]at QY;by_cases hbb:b2=b
  ·subst hbb;rw[Yh rfl]at QY;cases QY;rw[he]at Q6;cases Q6;rcases hk0 with⟨rfl,hcl,rfl⟩| ⟨rfl,_⟩
   ·refine⟨⟨rfl,rfl,fun _=>⟨rfl,?_⟩⟩,⟨rfl,rfl,fun x=>by cases x⟩⟩;show e.d+c.length≤e.d+o+ ((c.drop o).take q++ys).length;simp;omega
   ·exact⟨trivial,trivial⟩
  ·rw[Yd hbb]at QY;by_cases hl:k2.live=true
   ·obtain⟨hmf,c2,rfl,SV⟩:=UC b2 e2 k2 hbb Q6 QY hl hcb;rcases hk0 with⟨_,hcl,rfl⟩| ⟨_,UK⟩
    ·refine⟨⟨rfl,rfl,fun _=>⟨rfl,?_⟩⟩,⟨rfl,rfl,fun x=>by cases x⟩⟩;show e2.d+c2.length≤e.d+o+ ((c.drop o).take q++ys).length;simp;omega
    ·rw[hmf]at UK;cases UK
   ·cases k2<;>first| exact⟨trivial,trivial⟩| exact absurd rfl hl
 have hsep2:∀b1 b2 e1 e2 k1 k2,b1≠b2→m b1=some e1→m b2=some e2→(h.set b k0)[b1]? =some k1→(h.set b k0)[b2]? =some k2→e1.cb=e2.cb→pN e1 e2 k1 k2:=by
  intro b1 b2 e1 e2 k1 k2 hne Sj Q6 hk1 QY hcb;rw[bH h b _ _ hbl]at hk1 QY;by_cases Rq:b1=b
  ·subst Rq;rw[Yh rfl]at hk1;cases hk1;rw[Yd (fun x=>hne x.symm)]at QY;have:=hr.sep b1 b2 e1 e2 _ k2 hne Sj Q6 hb QY hcb;rcases hk0 with⟨rfl,_⟩| ⟨rfl,_⟩
   ·cases k2<;>first| exact⟨rfl,this.2.1,fun x=>by cases x⟩| trivial| exact this
   ·trivial
  ·rw[Yd Rq]at hk1;by_cases RG:b2=b
   ·subst RG;rw[Yh rfl]at QY;cases QY;have:=hr.sep b1 b2 e1 e2 k1 _ hne Sj Q6 hk1 hb hcb;rcases hk0 with⟨rfl,_⟩| ⟨rfl,_⟩
    ·cases k1<;>first| exact⟨this.1,rfl,fun x=>absurd (this.2.2 x).1 Si⟩| trivial| exact this
    ·cases k1<;>trivial
   ·exact Ms
 refine⟨w',m.add h.length e',by simpa using Q1,by simp[bY.add,e'],⟨?_,?_,?_,?_,?_⟩,⟨?_,Si,?_,?_,Om,hos,hout,htape,?_⟩⟩
 ·intro b2 e2 RG;unfold bY.add at RG;by_cases hx:b2=h.length
  ·subst hx;simp
  ·rw[Yd hx]at RG;have:=hr.cI _ _ RG;simp;omega
 ·intro b2 e2 k2 Q6 QY;unfold bY.add at Q6;by_cases hx:b2=h.length
  ·subst hx;rw[Yh rfl]at Q6;cases Q6;rw[Ye Om]at QY;simp at QY;subst QY;exact hnew
  ·rw[Yd hx]at Q6;exact hbr0 b2 e2 k2 Q6 (hget0 b2 k2 (hr.cI _ _ Q6) QY)
 ·intro b1 b2 e1 e2 k1 k2 hne Sj Q6 hk1 QY hcb;unfold bY.add at Sj Q6;by_cases hx1:b1=h.length
  ·subst hx1;rw[Yh rfl]at Sj;cases Sj;rw[Yd (fun x=>hne x.symm)]at Q6;rw[Ye Om]at hk1;simp at hk1;subst hk1;exact(hsep1 b2 e2 k2 Q6 (hget0 b2 k2 (hr.cI _ _ Q6) QY) hcb.symm).1
  ·rw[Yd hx1]at Sj;have hk1':=hget0 b1 k1 (hr.cI _ _ Sj) hk1;by_cases T2:b2=h.length
   ·subst T2;rw[Yh rfl]at Q6;cases Q6;rw[Ye Om]at QY;simp at QY;subst QY;exact(hsep1 b1 e1 k1 Sj hk1' hcb).2
   ·rw[Yd T2]at Q6;exact hsep2 b1 b2 e1 e2 k1 k2 hne Sj Q6 hk1' (hget0 b2 k2 (hr.cI _ _ Q6) QY) hcb
 ·intro g hg;obtain⟨x,hx,h2⟩:=hr.fV g hg;exact⟨x,TC _ _ hx,h2⟩
 ·intro b2 e2 Q6;unfold bY.add at Q6;by_cases hx:b2=h.length
  ·rw[Yh hx]at Q6;cases Q6;have:=hr.lt _ _ he;show e.cb < _;omega
  ·rw[Yd hx]at Q6;have:=hr.lt _ _ Q6;omega
 ·intro b2 RG;unfold bY.add;rw[Yd Om]
 ·intro b2 e2 RG Q6;unfold bY.add at Q6;by_cases hx:b2=h.length
  ·rw[Yh hx]at Q6;cases Q6;refine⟨rfl,.inr ⟨b,e,he,rfl,ho,by simp[eo,hb],?_⟩⟩;unfold eo;rw[X5 Om,bH h b b _ hbl,Yh rfl];rcases hk0 with⟨rfl,_⟩| ⟨rfl,_⟩<;>rfl
  ·rw[Yd hx]at Q6;exact absurd (hr.cI _ _ Q6) Om
 ·intro b2 RG ht;unfold eo at ht ⊢;rw[X5 Om,bH h b b2 _ hbl]at ht;by_cases hbb:b2=b
  ·subst hbb;rw[Yh rfl]at ht;rcases hk0 with⟨rfl,_⟩| ⟨rfl,_⟩<;>cases ht
  ·exact Dg
 ·intro i hi hno;exact hoth i (fun x=>hno b e he ho x.symm)
end
section
variable {P:Program} {m:bY} {h h':ah} {w:World} {ρ:cT→AV} {v:AV}
def yn:ak→ak→Prop
 | .cells c mu tl,k=>k= .dead∨∃mu' tl',k= .cells c mu' tl'∧(mu' =true→mu=true∧(tl' =false→tl=false))∧(tl' =true→tl=true)
 | k,k'=>k' = .dead∨k' =k
def yn.Ng{e1 e2 k k' k2}(hw:yn k k')(hs:pN e1 e2 k k2):pN e1 e2 k' k2:=by
 cases k with
 | cells c mu tl=>
  rcases hw with rfl| ⟨mu',tl',rfl,hm,ht⟩
  ·trivial
  ·cases k2 with
   | cells c2 mu2 tl2=>
    refine⟨?_,hs.2.1,fun x=>hs.2.2 (ht x)⟩;cases mu' with
    | false=>rfl
    | true=>have:=hs.1;rw[(hm rfl).1]at this;cases this
   | _=>first| trivial| exact hs
 | dead=>rcases hw with rfl| rfl<;>trivial
 | bn es=>rcases hw with rfl| rfl<;>first| trivial| exact hs
 | iter s p=>rcases hw with rfl| rfl<;>first| trivial| exact hs
 | loop a b c d e f=>rcases hw with rfl| rfl<;>first| trivial| exact hs
def yn.Nf{e1 e2 k k' k1}(hw:yn k k')(hs:pN e1 e2 k1 k):pN e1 e2 k1 k':=by
 cases k with
 | cells c mu tl=>
  rcases hw with rfl| ⟨mu',tl',rfl,hm,ht⟩
  ·cases k1<;>trivial
  ·cases k1 with
   | cells c1 mu1 tl1=>
    refine⟨hs.1,?_,fun x=>⟨?_,(hs.2.2 x).2⟩⟩
    ·cases mu' with
     | false=>rfl
     | true=>have:=hs.2.1;rw[(hm rfl).1]at this;cases this
    ·cases tl' with
     | false=>rfl
     | true=>have:=(hs.2.2 x).1;rw[ht rfl]at this;cases this
   | _=>first| trivial| exact hs
 | dead=>rcases hw with rfl| rfl<;>cases k1<;>trivial
 | bn es=>rcases hw with rfl| rfl<;>first| exact hs| (cases k1<;>trivial)
 | iter s p=>rcases hw with rfl| rfl<;>first| exact hs| (cases k1<;>trivial)
 | loop a b c d e f=>rcases hw with rfl| rfl<;>first| exact hs| (cases k1<;>trivial)
def yn.br{e k k'}(hw:yn k k')(hb:BR P m w e k):BR P m w e k':=by
 cases k with
 | cells c mu tl=>
  rcases hw with rfl| ⟨mu',tl',rfl,hm,ht⟩
  ·trivial
  ·obtain⟨cc,el,fz,h1,h2,h3,h4,h5⟩:=hb;refine⟨cc,el,fz,h1,h2,h3,h4,fun x=>⟨(h5 (x.elim (fun y=>.inl (hm y).1) (fun y=>.inr (ht y)))).1,fun y=>?_⟩⟩;rcases x with x| x
   ·exact(h5 (.inl (hm x).1)).2 ((hm x).2 y)
   ·rw[x]at y;cases y
 | dead=>rcases hw with rfl| rfl<;>trivial
 | bn es=>rcases hw with rfl| rfl<;>first| trivial| exact hb
 | iter s p=>rcases hw with rfl| rfl<;>first| trivial| exact hb
 | loop a b c d e f=>rcases hw with rfl| rfl<;>first| trivial| exact hb
def vW(hr:HR P m h w){b k k'}(hb:h[b]? =some k)(hk:yn k k'):HR P m (h.set b k') w∧Grow m h w m (h.set b k') w:=by
 have hbl:b < h.length:=(X1.1 hb).1;refine⟨⟨?_,?_,?_,hr.fV,hr.lt⟩,⟨fun _ _=>rfl,Si,?_,?_,Yg _,rfl,rfl,rfl,fun _ _ _=>rfl⟩⟩
 ·intro b' e' hb';simpa using hr.cI b' e' hb'
 ·intro b' e' k2 RX QY;rw[bH h b b' _ hbl]at QY;by_cases hbb:b' =b
  ·subst hbb;rw[Yh rfl]at QY;cases QY;exact hk.br (hr.dP b' e' k RX hb)
  ·rw[Yd hbb]at QY;exact hr.dP b' e' k2 RX QY
 ·intro b1 b2 e1 e2 k1 k2 hne Sj Q6 hk1 QY hcb;rw[bH h b _ _ hbl]at hk1 QY;by_cases Rq:b1=b
  ·subst Rq;rw[Yh rfl]at hk1;cases hk1;rw[Yd (fun x=>hne x.symm)]at QY;exact hk.Ng (hr.sep b1 b2 e1 e2 k k2 hne Sj Q6 hb QY hcb)
  ·rw[Yd Rq]at hk1;by_cases RG:b2=b
   ·subst RG;rw[Yh rfl]at QY;cases QY;exact hk.Nf (hr.sep b1 b2 e1 e2 k1 k hne Sj Q6 hk1 hb hcb)
   ·exact Ms
 ·intro b' e' hb' RX;exact absurd (hr.cI _ _ RX) Om
 ·intro b' hb' ht;unfold eo at ht ⊢;rw[bH h b b' _ hbl]at ht;by_cases hbb:b' =b
  ·subst hbb;rw[Yh rfl]at ht;rw[hb];cases k with
   | cells c mu tl=>
    rcases hk with rfl| ⟨mu',tl',rfl,_,h2⟩
    ·cases ht
    ·exact h2 ht
   | dead=>rcases hk with rfl| rfl<;>cases ht
   | bn es=>rcases hk with rfl| rfl<;>cases ht
   | iter s p=>rcases hk with rfl| rfl<;>cases ht
   | loop a b c d e f=>rcases hk with rfl| rfl<;>cases ht
  ·exact Dg
def jY(hr:HR P m h w){c vs}(hc:cH m c vs)(h1:c.all AV.one=true)(rest:List Value)(el:TypeId)(mu tl:Bool)(hml:mu=true→tl=true):
  ∃m',m' h.length=some ⟨w.heap.size,0,vs.length+rest.length,true⟩∧HR P m' (h++ [.cells c mu tl]) (w.alloc (.cells ⟨vs++rest⟩ el))∧Grow m h w m' (h++ [.cells c mu tl]) (w.alloc (.cells ⟨vs++rest⟩ el)):=by
 have hl:=hc.length;refine⟨_,by simp[bY.add],jZ hr (.cells ⟨vs++rest⟩ el) (.cells c mu tl) ⟨w.heap.size,0,vs.length+rest.length,true⟩ rfl rfl (fun m' hm=>?_)⟩;refine⟨⟨vs++rest⟩,el,(0,0),World.alloc_heap_new w _,⟨by simp;omega,by refine⟨?_,Si⟩;show 0+c.length≤vs.length+rest.length;omega⟩,?_,fun _=>⟨Si,fun i _=>by simp⟩,fun x=>⟨rfl,fun y=>by
  rcases x with x| x
  ·rw[hml x]at y;cases y
  ·rw[x]at y;cases y⟩⟩
 intro i x hx;obtain⟨v,hv,QZ⟩:=hc.get hx;have hi:i < c.length:=(X1.1 hx).1;refine⟨YE.1 h1 x (YW hx),v,?_,VR.mono hm _ _ QZ⟩;show(⟨vs++rest⟩:Array Value)[0+i]? =some v;rw[YR,Zz,X5 Om];exact hv
def nM{sT xT e:TypeId}{i:TypeInfo}{y ts}(hts0:ts[0]? =some sT)(hts1:ts[1]? =some xT)(hs:dS P sT=some (e,i))(hbytes:0 < i.bytes)(hbytes':i.bytes≤2^20)
  {d:TypeDesc} (hud:P.underlying xT=some d) (hdk:∀k,d≠.int k) {cz} (hz: (zeroValue e).run P w.drew= .ok cz w.drew) {base} {n cap k} (hcap:cap < n+k) (hb: (n+k) * i.bytes≤2^46)
  (hlen: (Builtin.lenOf y).run P w= .ok k w) {vo vn} (ho: (Builtin.firstCells i.size n (.slice base n cap)).run P w.drew= .ok ⟨vo⟩ w.drew) (hn: (Builtin.firstCells i.size k y).run P w.drew= .ok ⟨vn⟩ w.drew) (T:TypeId) (dZ:i.size=cz.cells.size):
  ∃newCap rest,n+k≤newCap∧rest.length= (newCap - (n+k)) * i.size∧
   (Builtin.append_ ts T #[.slice base n cap,y]).run P w= .ok (.slice (some ⟨w.heap.size,0,none⟩) (n+k) newCap) (w.drew.alloc (.cells ⟨vo++vn++rest⟩ e)):=by
 obtain⟨hu,hi⟩:=fo hs;have UI:=D4 (n+k) cap hcap;have hno:¬ (Builtin.nextslicecap (n+k) cap * i.bytes > 2^48):=by
  have h1:Builtin.nextslicecap (n+k) cap * i.bytes≤(2 * (n+k)+192) * i.bytes:=Zc _ UI;have h2: (2 * (n+k)+192) * i.bytes=2 * ((n+k) * i.bytes)+192 * i.bytes:=by rw[aao,Nat.mul_assoc]
  omega
 obtain⟨q,hq⟩:∃q:Question,q= .appendCap (n+k) cap e:=⟨_,rfl⟩;obtain⟨nc,UJ⟩:∃nc:Nat,nc=q.cut (w.tape w.drawn q):=⟨_,rfl⟩;have Vj:n+k≤nc:=by rw[UJ,hq];show n+k≤(n+k)+_;omega
 have SM: (match d with| .int _=>true| _=>false)=false:=by
  cases d<;>first| rfl| exact absurd rfl (hdk _)
 have Rd:∀w,(sizeOf e).run P w= .ok i.size w:=fun w=>bZ (by simp[dR,hi]) w
 have UR:∀w,(typeInfo e).run P w= .ok i w:=fun w=>by simp[typeInfo,hi]
 have R9:¬ (i.bytes=0):=Om
 have SY: (choose (.appendCap (n+k) cap e)).run P w= .ok nc w.drew:=by
  rw[run_choose,UJ,hq];rfl
 refine⟨nc,(Builtin.zeroCells cz.cells (nc - (n+k))).toList,Vj,by simp[Builtin.zeroCells,dZ],?_⟩;simp only[Builtin.append_,hts0,hts1,Zz,Zg,Zr,Yq,Yn hu,Yf,Rd,Yn hud,YG,SM,
  YS,Yo,hlen,Nat.not_le.2 hcap]
 simp only[Sem.run_ite,Yq,UR,Yf,hno,Yo,R9,ZI,and_false,YS,SY,run_askRoom,ho,hn,hz,Yz,Ys,newRow,run_newObj,YG];have earr: ((⟨vo⟩:Array Value)++ ⟨vn⟩++Builtin.zeroCells cz.cells (nc - (n+k)))= ⟨vo++vn++ (Builtin.zeroCells cz.cells (nc - (n+k))).toList⟩:=by
  apply aaw
  simp
 rw[earr];rfl
def mF{c:List AV}{o q:Nat}(h:o+q=c.length): (c.drop o).take q=c.drop o:=YN (by simp;omega)
def Kv{sT xT e:TypeId}{i:TypeInfo}{ts:Array TypeId}(hts0:ts[0]? =some sT)(hts1:ts[1]? =some xT)(hs:dS P sT=some (e,i))(hspos:0 < i.size)(hbytes:0 < i.bytes)(hbytes':i.bytes≤2^20)
  {d:TypeDesc} (hud:P.underlying xT=some d) (hdk:∀k,d≠.int k) {z:AV} (hz:i.zero.bind (mw 4)=some z) (hzs:z.cells.length=i.size)
  (hr:HR P m h w) {x y:AV} {cx cy:Value} (hx:VR m x cx) (hy:VR m y cy) (hf:wE i.size i.bytes x y h v h') (T:TypeId):
  ∃cv w' m',(Builtin.append_ ts T #[cx,cy]).run P w= .ok cv w'∧VR m' v cv∧HR P m' h' w'∧Grow m h w m' h' w':=by
 obtain⟨hu,hi⟩:=fo hs;have hzA:jm P e=some z:=by simp[jm,hi,hz]
 obtain⟨cz,TI,Ui⟩:=jJ hzA w.drew m;have Vz:i.size=cz.cells.size:=by have:=Ui.cells.length;simp at this;omega
 have Rd:∀w,(sizeOf e).run P w= .ok i.size w:=fun w=>bZ (by simp[dR,hi]) w
 have SM: (match d with| .int _=>true| _=>false)=false:=by
  cases d<;>first| rfl| exact absurd rfl (hdk _)
 have room:∀{base:Option Addr} {n cap k:Nat} {vn:List Value} {w1:World},n+k≤cap→(Builtin.lenOf cy).run P w= .ok k w→(Builtin.firstCells i.size k cy).run P w= .ok ⟨vn⟩ w→
   (match base with| some a=>(storeCells (a.add (n * i.size)) vn).run P w= .ok () w1| none=>w1=w)→
   (Builtin.append_ ts T #[.slice base n cap,cy]).run P w= .ok (.slice base (n+k) cap) w1:=by
  intro base n cap k vn w1 hle hlen Q5 bS;cases base with
  | none=>
   subst bS;simp only[Builtin.append_,hts0,hts1,Zz,Zg,Zr,Yq,Yn hu,Yf,Rd,Yn hud,YG,SM,
    YS,Yo,hlen,hle,Ys,Yz,Q5]
  | some a=>
   simp only at bS;simp only[Builtin.append_,hts0,hts1,Zz,Zg,Zr,Yq,Yn hu,Yf,Rd,Yn hud,YG,SM,
    YS,Yo,hlen,hle,Ys,Yz,Q5,bS]
 cases hf with
 | none Sy RH=>
  obtain⟨hlen,_,_,Q5⟩:=cJ hr hy Sy;obtain⟨vn,Ta,QZ⟩:=Q5 0 (Yg _);have Xt:vn= []:=by simp[bB]at QZ;exact QZ
  subst Xt;rcases RH with rfl| ⟨b,o,n,rfl⟩
  ·rw[VR]at hx;subst hx;exact⟨.slice none 0 0,w,m,room Om hlen Ta rfl,rfl,hr,Grow.refl m h w hr.cI⟩
  ·have hx0:=hx;obtain⟨en,ca,cap,Ry,rfl,Rk,RD,hroom⟩:=hx;exact⟨.slice (some ca) n cap,w,m,room Om hlen Ta (by simp[storeCells]),hx0,hr,Grow.refl m h w hr.cI⟩
 | new ys k mu Sy hk hb RH=>
  subst RH;rw[VR]at hx;subst hx;obtain⟨hlen,SO,hone,_⟩:=cJ hr hy Sy;obtain⟨_,_,_,Q5⟩:=cJ hr.drew hy Sy;obtain⟨vn,Ta,QZ⟩:=Q5 k (Yg _);rw[YN Om]at QZ;obtain⟨nc,rest,Vj,RY,Q1⟩:=nM (n:=0) (cap:=0) (base:=none) (vo:=[]) hts0 hts1 hs hbytes hbytes' hud hdk TI Om (by rw[YR];exact hb) hlen (by simp[Builtin.firstCells]) Ta T Vz;obtain⟨m',h0,h1,h2⟩:=jY hr.drew QZ hone rest e mu true (fun _=>rfl);have RL:=QZ.length;refine⟨_,_,m',Q1,⟨_,_,nc,h0,by rw[YR];rfl,Om,fun _=>rfl,?_⟩,by simpa using h1,by simpa using h2.Cv⟩;show 0+0+nc * i.size≤vn.length+rest.length;rw[RY,RL,SO];have:nc * i.size=k * i.size+ (nc - (0+k)) * i.size:=by rw[←aao];congr 1;omega
  omega
 | on ys k b o n c mu Sy hk hb RH hc hl=>
  subst RH;obtain⟨en,ca,cap,Ry,rfl,Rk,RD,hroom⟩:=hx;obtain⟨hlen,SO,hone,Q5⟩:=cJ hr hy Sy;have Vf:cellsIn i.size h (.slice b o n i.size)=some ((c.drop o).take (n * i.size),n):=by simp[cellsIn,hc];omega
  have hdt:=mF hl;by_cases UW:n+k≤cap
  ·obtain⟨vn,Ta,QZ⟩:=Q5 k (Yg _);rw[YN Om]at QZ;have UZ:=RD Om;have hr1: (n+k) * i.size≤cap * i.size:=Zc _ UW;rw[aao]at hr1;obtain⟨w',m',h0,h1,h2,h3⟩:=rA (mu':=false) (k0:=.cells c false false) (q:=n * i.size) hr Ry hc Om (.inl ⟨rfl,hl,rfl⟩) QZ hone Om 0;rw[hdt]at h2 h3;exact z53
  ·obtain⟨_,_,_,hfo⟩:=cJ hr.drew (y:=.slice b o n i.size) ⟨en,ca,cap,Ry,rfl,Rk,RD,hroom⟩ Vf;obtain⟨vo,hvo,So⟩:=hfo n (Yg _);obtain⟨_,_,Sr,_⟩:=cJ hr (y:=.slice b o n i.size) ⟨en,ca,cap,Ry,rfl,Rk,RD,hroom⟩ Vf;obtain⟨_,_,_,R4⟩:=cJ hr.drew hy Sy;obtain⟨vn,Ta,QZ⟩:=R4 k (Yg _);rw[YN Om]at QZ;rw[YN (by simp;omega),hdt]at So;rw[hdt]at Sr;obtain⟨nc,rest,Vj,RY,Q1⟩:=nM hts0 hts1 hs hbytes hbytes' hud hdk TI Om hb hlen hvo Ta T Vz;obtain⟨g1,g2⟩:=vW (k':=.cells c false false) hr hc (.inr ⟨false,false,rfl,fun x=>(by cases x),fun x=>(by cases x)⟩);obtain⟨m',h0,h1,h2⟩:=jY g1.drew (So.append QZ) (by simp[Sr,hone]) rest e false true (fun _=>rfl)
   have Re: (h.set b (.cells c false false)).length=h.length:=Si
   rw[Re]at h0;have RL:=QZ.length;have Xs:=So.length;refine⟨_,_,m',Q1,⟨_,_,nc,h0,rfl,Vj,fun _=>rfl,?_⟩,h1,(g2.drew.trans h2 hr.cI)⟩;exact MU
 | over ys k b o n c mu Sy hk hb RH hc hl=>
  subst RH;obtain⟨en,ca,cap,Ry,rfl,Rk,RD,hroom⟩:=hx;obtain⟨hlen,SO,hone,Q5⟩:=cJ hr hy Sy;have Vf:cellsIn i.size h (.slice b o n i.size)=some ((c.drop o).take (n * i.size),n):=by simp[cellsIn,hc];omega
  by_cases UW:n+k≤cap
  ·obtain⟨vn,Ta,QZ⟩:=Q5 k (Yg _);rw[YN Om]at QZ;have UZ:=RD Om;have hr1: (n+k) * i.size≤cap * i.size:=Zc _ UW;rw[aao]at hr1;obtain⟨w',m',h0,h1,h2,h3⟩:=rA (mu':=mu) (k0:=.dead) (q:=n * i.size) hr Ry hc Om (.inr ⟨rfl,rfl⟩) QZ hone Om 0;exact z53
  ·obtain⟨_,_,_,hfo⟩:=cJ hr.drew (y:=.slice b o n i.size) ⟨en,ca,cap,Ry,rfl,Rk,RD,hroom⟩ Vf;obtain⟨vo,hvo,So⟩:=hfo n (Yg _);obtain⟨_,_,Sr,_⟩:=cJ hr (y:=.slice b o n i.size) ⟨en,ca,cap,Ry,rfl,Rk,RD,hroom⟩ Vf;obtain⟨_,_,_,R4⟩:=cJ hr.drew hy Sy;obtain⟨vn,Ta,QZ⟩:=R4 k (Yg _);rw[YN Om]at QZ;rw[YN (by simp;omega)]at So;obtain⟨nc,rest,Vj,RY,Q1⟩:=nM hts0 hts1 hs hbytes hbytes' hud hdk TI Om hb hlen hvo Ta T Vz;obtain⟨g1,g2⟩:=vW (k':=.dead) hr hc (.inl rfl);obtain⟨m',h0,h1,h2⟩:=jY g1.drew (So.append QZ) (by rw[List.all_append,Sr,hone];rfl) rest e mu true (fun _=>rfl);have Re: (h.set b .dead).length=h.length:=Si
   rw[Re]at h0;have RL:=QZ.length;have Xs:=So.length;refine⟨_,_,m',Q1,⟨_,_,nc,h0,rfl,Vj,fun _=>rfl,?_⟩,h1,(g2.drew.trans h2 hr.cI)⟩;exact MU
 | full ys k b o n c Sy hk hb RH hc hl=>
  subst RH;obtain⟨en,ca,cap,Ry,rfl,Rk,RD,hroom⟩:=hx;obtain⟨hlen,SO,hone,Q5⟩:=cJ hr hy Sy;have Vf:cellsIn i.size h (.slice b o n i.size)=some ((c.drop o).take (n * i.size),n):=by simp[cellsIn,hc];omega
  have hdt:=mF hl;have hfull:cap≤n:=by
   obtain⟨_,_,_,_,_,_,_,hex⟩:=hr.dP b en _ Ry hc;have he:=(hex (.inl rfl)).2 rfl;by_cases hle:cap≤n
   ·exact hle
   ·have h2: (n+1) * i.size≤cap * i.size:=Zc _ Om;rw[Zo]at h2;omega
  obtain⟨_,_,_,hfo⟩:=cJ hr.drew (y:=.slice b o n i.size) ⟨en,ca,cap,Ry,rfl,Rk,RD,hroom⟩ Vf;obtain⟨vo,hvo,So⟩:=hfo n (Yg _);obtain⟨_,_,Sr,_⟩:=cJ hr (y:=.slice b o n i.size) ⟨en,ca,cap,Ry,rfl,Rk,RD,hroom⟩ Vf;obtain⟨_,_,_,R4⟩:=cJ hr.drew hy Sy;obtain⟨vn,Ta,QZ⟩:=R4 k (Yg _);rw[YN Om]at QZ;rw[YN (by simp;omega),hdt]at So;rw[hdt]at Sr;obtain⟨nc,rest,Vj,RY,Q1⟩:=nM hts0 hts1 hs hbytes hbytes' hud hdk TI Om hb hlen hvo Ta T Vz;obtain⟨m',h0,h1,h2⟩:=jY hr.drew (So.append QZ) (by simp[Sr,hone]) rest e true true (fun _=>rfl);have RL:=QZ.length;have Xs:=So.length;refine⟨_,_,m',Q1,⟨_,_,nc,h0,rfl,Vj,fun _=>rfl,?_⟩,h1,h2.Cv⟩
  exact MU
def DB(n es cap:Nat)(h:n≤cap):n * es≤cap * es:=Zc _ h
def Ks{dT e:TypeId}{i:TypeInfo}{ts}(hts0:ts[0]? =some dT)(hs:dS P dT=some (e,i))(hspos:0 < i.size)
  (hr:HR P m h w) {x y} {cx cy} (hx:VR m (ρ x) cx) (hy:VR m (ρ y) cy) (hf:dt (.wI i.size x y) ρ h=some (v,h')) (T:TypeId):
  ∃cv w' m',(Builtin.copy_ ts T #[cx,cy]).run P w= .ok cv w'∧VR m' v cv∧HR P m' h' w'∧Grow m h w m' h' w':=by
 obtain⟨hu,hi⟩:=fo hs;have Rd:∀w,(sizeOf e).run P w= .ok i.size w:=fun w=>bZ (by simp[dR,hi]) w
 simp only[dt]at hf;split at hf
 ·rename_i b o n es' ys k RP Sy;rw[RP]at hx;obtain⟨en,ca,cap,Ry,rfl,Rk,RD,hroom⟩:=hx;obtain⟨hlen,SO,hone,Q5⟩:=cJ hr hy Sy;obtain⟨vn,Ta,QZ⟩:=Q5 (min k n) (Nat.min_le_left _ _);split at hf
  case isFalse=>cases hf
  rename_i hes;subst hes;have T7:Nat.min k n=min k n:=rfl;split at hf
  ·rename_i h0;cases hf;have Xt:vn= []:=by rw[h0]at QZ;simp[bB]at QZ;exact QZ
   subst Xt;refine⟨.int .i64 0,w,m,?_,rfl,hr,Grow.refl m h w hr.cI⟩;simp only[Builtin.copy_,hts0,Zz,Zg,Zr,Yq,Yn hu,Yf,hlen,Rd,T7,Ta,YG,storeCells];simp[goInt,h0]
  ·rename_i h0;split at hf
   case h_2=>cases hf
   rename_i c tl hb;split at hf
   case isFalse=>cases hf
   rename_i hle;cases hf;have T0: (ys.take (min k n * i.size)).all AV.one=true:=by
    rw[YE]at hone ⊢;exact fun a ha=>hone a (Zd ha)
   have VK: (ys.take (min k n * i.size)).length=min k n * i.size:=by
    have:=DB (min k n) i.size k (Nat.min_le_left _ _);simp;omega
   obtain⟨w',bS,h1,h2⟩:=o9 (ys.take (min k n * i.size)) vn hr Ry hb o 0 Om T0 QZ;refine⟨.int .i64 (min k n:Nat),w',m,?_,rfl,h1,h2⟩;have UZ:=RD Om;subst UZ;simp only[Builtin.copy_,hts0,Zz,Zg,Zr,Yq,Yn hu,Yf,hlen,Rd,T7,Ta,YG,bS,goInt]
 ·rename_i RP Sy;rename_i p;obtain⟨ys,k⟩:=p;rw[RP,VR]at hx;subst hx;cases hf;obtain⟨hlen,SO,hone,Q5⟩:=cJ hr hy Sy;obtain⟨vn,Ta,QZ⟩:=Q5 0 (YB _);have T7:Nat.min k 0=0:=Nat.min_zero k;refine⟨.int .i64 0,w,m,?_,rfl,hr,Grow.refl m h w hr.cI⟩;simp only[Builtin.copy_,hts0,Zz,Zg,Zr,Yq,Yn hu,Yf,hlen,Rd,T7,Ta,YG,goInt];rfl
 ·cases hf
end
section
variable {P:Program} {m:bY} {h h':ah} {w:World} {ρ:cT→AV} {v:AV}
theorem wm:∀{l} {vs} {bs},cH m l vs→l.mapM byteOf=some bs→
  ∀ (acc:ByteArray),(forIn (m:=Sem) vs acc fun c s=>
    match c with
    | .int .u8 n=>pure (ForInStep.yield (s.push (UInt8.ofNat n.toNat)))
    | _=>do
     (stuck "bytesToString: byte expected" :Sem PUnit)
     pure (ForInStep.yield s)).run P w= .ok ⟨⟨acc.data.toList++bs⟩⟩ w
 | [],vs,bs,hv,hb,acc=>by
  rw[bB]at hv;subst hv;simp at hb;subst hb;simp
 | x::xs,vs,bs,hv,hb,acc=>by
  obtain⟨y,ys,rfl,hy,hys⟩:=aR.1 hv;simp only[aat,aae,aaA]at hb;cases hx:byteOf x with
  | none=>simp[hx]at hb
  | some b=>
   cases hl:xs.mapM byteOf with
   | none=>simp[hx,hl]at hb
   | some bs'=>
    simp[hx,hl]at hb;subst hb;unfold byteOf at hx;split at hx
    case h_2=>cases hx
    rename_i n;cases hx;rw[VR]at hy;subst hy;have:=wm hys hl (acc.push (UInt8.ofNat n.toNat));simp only[List.forIn_cons,Yq,YG,Yf];rw[this];simp[ByteArray.push]
def yZ{e:TypeId}(h:Ek P e=true):P.underlying e=some (.int .u8):=by
 unfold Ek at h;split at h
 ·assumption
 ·cases h
def Hd{s d:TypeId}{k x cx}(hk:CA P s d=some k)(hr:HR P m h w)(hx:VR m (ρ x) cx)(hf:dt (.conv k x) ρ h=some (v,h')):
  ∃cv w' m',(convert s d cx).run P w= .ok cv w'∧VR m' v cv∧HR P m' h' w'∧Grow m h w m' h' w':=by
 simp only[dt]at hf;have same:∀{cv:Value},(convert s d cx).run P w= .ok cv w→VR m v cv→h' =h→∃cv w' m',(convert s d cx).run P w= .ok cv w'∧VR m' v cv∧HR P m' h' w'∧Grow m h w m' h' w':=by
  intro cv h1 h2 h3;exact Jo
 unfold CA at hk;split at hk
 ·rename_i k1 k2 hs hd;cases hk;simp only[jX]at hf;split at hf
  case h_2=>cases hf
  rename_i hρ;rw[hρ,VR]at hx;subst hx;cases hf;exact same (by simp[convert,Yn hs,Yn hd,Conv.intToInt]) rfl rfl
 ·rename_i k1 k2 hs hd;cases hk;simp only[jX]at hf;split at hf
  case h_2=>cases hf
  rename_i hρ;rw[hρ,VR]at hx;subst hx;cases hf;exact same (by simp[convert,Yn hs,Yn hd,Conv.intToFloat]) ⟨_,rfl,.inl rfl⟩ rfl
 ·rename_i k1 k2 hs hd;cases hk;simp only[jX]at hf;split at hf
  case h_2=>cases hf
  rename_i sk b hρ;rw[hρ]at hx;obtain⟨b',rfl,hfr⟩:=hx;split at hf
  case h_2=>cases hf
  rename_i n hn;split at hf
  case isFalse=>cases hf
  rename_i hc;cases hf;have hbb:b' =b:=by
   rcases hfr with h1| ⟨h1,_⟩
   ·exact h1
   ·rw[hc.1]at h1;cases h1
  subst hbb;exact same (by simp[convert,Yn hs,Yn hd,Conv.floatToInt,hn,hc.2]) rfl rfl
 ·rename_i k1 k2 hs hd;cases hk;simp only[jX]at hf;split at hf
  case h_2=>cases hf
  rename_i sk b hρ;rw[hρ]at hx;obtain⟨b',rfl,hfr⟩:=hx;split at hf
  case isFalse=>cases hf
  rename_i hc;cases hf;subst hc;exact same (by simp[convert,Yn hs,Yn hd,Conv.floatToFloat]) ⟨_,rfl,hfr⟩ rfl
 ·rename_i hs hd;cases hk;simp only[jX]at hf;split at hf
  case h_2=>cases hf
  rename_i hρ;rw[hρ,VR]at hx;subst hx;cases hf;exact same (by simp[convert,Yn hs,Yn hd]) rfl rfl
 ·rename_i e hs hd;split at hk
  case isFalse=>cases hk
  rename_i he;have hue:P.underlying e=some (.int .u8):=yZ he;cases hk;simp only[jX]at hf;split at hf
  case h_2=>cases hf
  rename_i s hρ;rw[hρ,VR]at hx;subst hx;cases hf;obtain⟨q,hq⟩:∃q:Question,q= .appendCap s.length 0 e:=⟨_,rfl⟩;obtain⟨nc,UJ⟩:∃nc:Nat,nc=q.cut (w.tape w.drawn q):=⟨_,rfl⟩;have Vj:s.length≤nc:=by rw[UJ,hq];show s.length≤s.length+_;omega
  have SY: (choose (.appendCap s.length 0 e)).run P w= .ok nc w.drew:=by
   rw[run_choose,UJ,hq];rfl
  let vs:List Value:=s.map fun b=>.int .u8 b.toNat
  let rest:List Value:=List.replicate (nc - s.length) (.int .u8 0)
  have RL:vs.length=s.length:=by simp[vs]
  have Sd:rest.length=nc - s.length:=by simp[rest]
  let W:World:=(w.drew.alloc (.cells ⟨vs++rest⟩ e))
  let W':World:=W.freeze ⟨w.heap.size,nc,none⟩ 1
  have hWh:W.heap[w.heap.size]? =some (.cells ⟨vs++rest⟩ e):=World.alloc_heap_new w.drew _;have hlt:w.heap.size < W.heap.size:=(Ym.1 hWh).1;have hW':W'.heap[w.heap.size]? =some (.cells ⟨vs++rest⟩ e (nc,nc+1)):=by
   have hk:W.heap[w.heap.size]= .cells ⟨vs++rest⟩ e:=(Ym.1 hWh).2;show((if(1:Nat)=0 then W else { W with heap:=W.heap.modify w.heap.size _ }).heap)[w.heap.size]? =_;rw[Yd Om];show(W.heap.modify w.heap.size _)[w.heap.size]? =_;rw[YT (by rw[Array.size_modify];exact hlt),Array.getElem_modify_self,hk];rfl
  have hother:∀i,i≠w.heap.size→W'.heap[i]? =W.heap[i]? :=by
   intro i hi;show((if(1:Nat)=0 then W else { W with heap:=W.heap.modify w.heap.size _ }).heap)[i]? =_;rw[Yd Om];show(W.heap.modify w.heap.size _)[i]? =_;rw[Array.getElem?_modify,Yd (fun x=>hi x.symm)]
  have Rd:W'.heap.size=W.heap.size:=by
   show((if(1:Nat)=0 then W else { W with heap:=W.heap.modify w.heap.size _ }).heap).size=_;rw[Yd Om];simp
  obtain⟨m',h0,h1,h2⟩:=jY hr.drew (mS m s) (rm s) rest e true true (fun _=>rfl);have h0':m' h.length=some ⟨w.heap.size,0,vs.length+rest.length,true⟩:=h0;have hne:∀b e2 k2,m' b=some e2→b≠h.length→(h++ [.cells (s.map fun b=>.int .u8 b.toNat) true true])[b]? =some k2→k2.live=true→e2.cb≠w.heap.size:=by
   intro b e2 k2 hb hbl QY hl hcb;have:=h1.sep h.length b _ e2 (.cells (s.map fun b=>.int .u8 b.toNat) true true) k2 (fun x=>hbl x.symm) h0' hb Si QY hcb.symm;cases k2<;>first| exact absurd this.1 Si| exact this| (cases hl;done)
  have hgrow:Grow m h w m' (h++ [.cells (s.map fun b=>.int .u8 b.toNat) true true]) W':=by
   have g:=h2.Cv;refine⟨g.ext,g.len,g.new,g.tl,by rw[Rd];exact g.size,?_,?_,?_,?_⟩
   ·exact g.os
   ·exact g.out
   ·exact g.tape
   ·intro i hi hno;rw[hother i Om];exact g.frame i hi hno
  refine⟨.slice (some ⟨w.heap.size,0,none⟩) s.length nc,W',m',?_,⟨_,_,nc,h0',rfl,Vj,fun _=>rfl,by show 0+0+nc * 1≤vs.length+rest.length;omega⟩,⟨h1.cI,?_,h1.sep,h1.fV,fun b' e' hb'=>by have:=h1.lt b' e' hb';rw[Rd];exact this⟩,hgrow⟩
  ·have dZ: (⟨⟨s⟩⟩:ByteArray).size=s.length:=rfl;have UN: (⟨s⟩:Array UInt8).map (fun b=>Value.int .u8 b.toNat)= ⟨vs⟩:=by apply aaw;simp[vs]
   have RJ: (⟨vs⟩:Array Value)++Array.replicate (nc - s.length) (.int .u8 0)= ⟨vs++rest⟩:=by apply aaw;simp[rest]
   have Xw:W.shape? w.heap.size=some (e,nc):=by
    simp only[World.shape?,hWh];simp[RL,Sd];omega
   simp only[convert,Yq,Yn hs,Yn hd,Yf,Yn hue,Conv.stringToBytes,dZ,SY,UN,RJ,newRow,run_newObj,YG];simp only[markStringish,Yq,run_shape];have Rt:World.shape? { heap:=w.drew.heap.push (Obj.cells ⟨vs++rest⟩ e),tape:=w.drew.tape,drawn:=w.drew.drawn,os:=w.drew.os,output:=w.drew.output } w.drew.heap.size=some (e,nc):=Xw;simp only[Rt,Yf,run_freeze];rfl
  ·intro b e2 k2 hb QY;have R9:=h1.dP b e2 k2 hb QY;by_cases hbl:b=h.length
   ·subst hbl;rw[h0']at hb;cases hb;simp at QY;subst QY;obtain⟨cc,el,fz,hh,h3,h4,h5,h6⟩:=R9;have hWh':W.heap[w.heap.size]? =some (.cells cc el fz):=hh;rw[hWh]at hWh';cases hWh';refine⟨⟨vs++rest⟩,e,(nc,nc+1),hW',h3,h4,fun _=>⟨(h5 rfl).1,fun i hi=>?_⟩,h6⟩;have: (⟨vs++rest⟩:Array Value).size=nc:=by simp[RL,Sd];omega
    simp only;omega
   ·by_cases hl:k2.live=true
    ·exact R9.heap (hother _ (hne b e2 k2 hb hbl QY hl))
    ·exact GM
 ·rename_i e hs hd;split at hk
  case isFalse=>cases hk
  rename_i he;have hue:P.underlying e=some (.int .u8):=yZ he;cases hk;simp only[jX]at hf;split at hf
  ·rename_i hρ;rw[hρ,VR]at hx;subst hx;cases hf;exact same (by simp[convert,Yn hs,Yn hd,Yn hue,Conv.bytesToString];rfl) rfl rfl
  ·rename_i b o n es hρ;rw[hρ]at hx;split at hf
   case h_2=>cases hf
   rename_i l k hc;split at hf
   case h_2=>cases hf
   rename_i r hl;cases hf;obtain⟨hlen,SO,hone,Q5⟩:=cJ hr hx hc;obtain⟨vs,RQ,QZ⟩:=Q5 k (Yg _);rw[YN Om]at QZ;have hkn:k=n:=by
    unfold cellsIn at hc;simp only at hc;split at hc
    ·split at hc
     ·split at hc
      ·cases hc;rfl
      ·cases hc
     ·cases hc
    ·cases hc
   subst hkn;obtain⟨en,ca,cap,Ry,rfl,Rk,RD,hroom⟩:=hx;simp only[Builtin.firstCells,aaf]at RQ;refine same (cv:=.string ⟨⟨r⟩⟩) ?_ rfl rfl;have hb:=wm (P:=P) (w:=w) QZ hl ByteArray.empty;simp only[convert,Yq,Yn hs,Yn hd,Yf,Yn hue,Conv.bytesToString,RQ];rw[←Array.forIn_toList]
   erw [hb]
   simp
  ·cases hf
 ·cases hk
theorem v7:∀{l} {vs} {x v} {cx},VR m x cx→cH m l vs→gZ pU x l=some v→∃cv,(vs.foldlM (m:=Sem) Builtin.max2 cx).run P w= .ok cv w∧VR m v cv
 | [],vs,x,v,cx,hx,hl,hf=>by
  exact Jj
 | y::l,vs,x,v,cx,hx,hl,hf=>by
  obtain⟨cy,vs',rfl,hy,Q7⟩:=aR.1 hl;simp only[gZ]at hf;split at hf
  case h_2=>cases hf
  rename_i z hz;unfold pU at hz;split at hz
  case h_2=>cases hz
  rename_i k a k' b;split at hz
  case isFalse=>cases hz
  cases hz;rw[VR]at hx hy;subst hx;subst hy;obtain⟨cv,h1,h2⟩:=v7 (x:=.int k (if b > a then b else a)) (cx:=.int k (if b > a then b else a)) rfl Q7 hf;exact⟨cv,by simp only[List.foldlM_cons,Yq,Builtin.max2,YG,Yf];exact h1,h2⟩
theorem vZ:∀{l} {vs} {x v} {cx},VR m x cx→cH m l vs→gZ pT x l=some v→∃cv,(vs.foldlM (m:=Sem) Builtin.min2 cx).run P w= .ok cv w∧VR m v cv
 | [],vs,x,v,cx,hx,hl,hf=>by
  exact Jj
 | y::l,vs,x,v,cx,hx,hl,hf=>by
  obtain⟨cy,vs',rfl,hy,Q7⟩:=aR.1 hl;simp only[gZ]at hf;split at hf
  case h_2=>cases hf
  rename_i z hz;unfold pT at hz;split at hz
  case h_2=>cases hz
  rename_i k a k' b;split at hz
  case isFalse=>cases hz
  cases hz;rw[VR]at hx hy;subst hx;subst hy;obtain⟨cv,h1,h2⟩:=vZ (x:=.int k (if b < a then b else a)) (cx:=.int k (if b < a then b else a)) rfl Q7 hf;exact⟨cv,by simp only[List.foldlM_cons,Yq,Builtin.min2,YG,Yf];exact h1,h2⟩
def BC{t e:TypeId}{i:TypeInfo}{n:Nat}{z:AV}{ps:Array (Nat×Operand)}{l:List (Nat×cT)}{σ:Operand→Value}(hs:dS P t=some (e,i))(hz:jm P e=some z)
  (hl:ps.toList.mapM (fun p=>(cP p.2).map fun y=>(p.1 * i.size,y))=some l) (hspos:0 < i.size) (hzs:z.cells.length=i.size) (h1:z.cells.all AV.one=true) (hn:n * i.size≤2^24)
  (hr:HR P m h w) (hρ:∀p∈ps.toList,∀y,cP p.2=some y→VR m (ρ y) (σ p.2)) {c:List AV} (hf:eF (dK n z.cells) (l.map fun p=>(p.1,i.size,ρ p.2))=some c) (hc1:c.all AV.one=true) (hcl:c.length=n * i.size) (mu tl:Bool):
  ∃cv w' m',(Instr.buildSlice t n (ps.map fun(i,x)=>(i,σ x))).run P w= .ok cv w'∧VR m' (.slice h.length 0 n i.size) cv∧HR P m' (h++ [.cells c mu tl]) w'∧Grow m h w m' (h++ [.cells c mu tl]) w':=by
 have _:=h1;obtain⟨hu,hi⟩:=fo hs;obtain⟨cz,TI,Ui⟩:=jJ hz w m;have hzc:=Ui.cells;have dZ:cz.cells.size=z.cells.length:=by have:=hzc.length;simpa using this
 have hzero:∀ (row:Array Value),row= (Array.range (n * cz.cells.size)).map (cz.cells[·% cz.cells.size]!)→cH m (dK n z.cells) row.toList:=by
  intro row hrow;have:=sJ hzc Om n n (Yg _);rw[←hrow,YN]at this
  ·exact this
  ·rw[hrow];simp[dZ]
 have XB:∀ (qs:List (Nat×Operand)) (l:List (Nat×cT)),qs.mapM (fun p=>(cP p.2).map fun y=>(p.1 * i.size,y))=some l→qs.length=l.length∧∀ (j:Nat) p q,qs[j]? =some p→l[j]? =some q→q.1=p.1 * i.size∧cP p.2=some q.2:=by
  intro qs
  induction qs with
  | nil=>intro l hl;simp at hl;subst hl;exact⟨rfl,fun j p q hp=>by simp at hp⟩
  | cons p qs ih=>
   intro l hl;simp only[aat,aae,aaA]at hl;cases ho:cP p.2 with
   | none=>simp[ho]at hl
   | some y=>
    cases hr':qs.mapM (fun p=>(cP p.2).map fun y=>(p.1 * i.size,y))with
    | none=>simp[ho,hr']at hl
    | some l'=>
     simp[ho,hr']at hl;subst hl;obtain⟨h2,h3⟩:=ih l' hr';refine⟨by simp[h2],fun j a b ha hb=>?_⟩;cases j with
     | zero=>simp at ha hb;subst ha;subst hb;exact⟨rfl,ho⟩
     | succ j=>exact h3 j a b (by simpa using ha) (by simpa using hb)
 obtain⟨T6,hpq⟩:=XB _ _ hl;by_cases Vk:n * i.size=0
 ·have hnz:n=0:=by
   rcases Nat.mul_eq_zero.1 Vk with h| h
   ·exact h
   ·omega
  obtain⟨RE,Sb,RQ⟩:=qu (m:=m) (fun j=>some (j * i.size,i.size)) (ps.toList.map fun p=>(p.1,σ p.2)) (l.map fun p=>(p.1,i.size,ρ p.2)) (dK n z.cells) #[] c (by simp[T6])
   (fun j p q hp hq=>by
    simp only[Zp,Yr]at hp hq;obtain⟨p0,hp0,rfl⟩:=hp;obtain⟨q0,hq0,rfl⟩:=hq;obtain⟨h2,h3⟩:=hpq j p0 q0 hp0 hq0;exact⟨by simp[h2],hρ p0 (YW hp0) _ h3⟩) (by subst hnz;simp[dK,bB]) hf
  obtain⟨m',h2,h3,h4⟩:=lL hr RQ hc1 e mu tl;have RL:=RQ.length;refine⟨.slice (some ⟨w.heap.size,0,none⟩) n n,_,m',?_,⟨_,_,n,h2,rfl,Yg _,fun _=>rfl,by show 0+0+n * i.size≤RE.toList.length;omega⟩,h3,h4⟩;have Rb:¬ (n * i.size > 2^24):=Om
  have Rd: (sizeOf e).run P w= .ok i.size w:=bZ (by simp[dR,hi]) w;have e0: (Array.range 0).map (fun x=>(#[] :Array Value)[x % (#[] :Array Value).size]!)=#[]:=Si
  simp only[Instr.buildSlice,Yq,Yn hu,Yf,Rd,Rb,Yo];simp only[Vk,Ys,Yq,Yf,YG,e0];exact JX
 ·obtain⟨RE,Sb,RQ⟩:=qu (m:=m) (fun j=>some (j * i.size,i.size)) (ps.toList.map fun p=>(p.1,σ p.2)) (l.map fun p=>(p.1,i.size,ρ p.2)) (dK n z.cells) ((Array.range (n * i.size)).map (cz.cells[·% cz.cells.size]!)) c (by simp[T6])
   (fun j p q hp hq=>by
    simp only[Zp,Yr]at hp hq;obtain⟨p0,hp0,rfl⟩:=hp;obtain⟨q0,hq0,rfl⟩:=hq;obtain⟨h2,h3⟩:=hpq j p0 q0 hp0 hq0;exact⟨by simp[h2],hρ p0 (YW hp0) _ h3⟩) (hzero _ (by rw[dZ,hzs])) hf
  obtain⟨m',h2,h3,h4⟩:=lL hr RQ hc1 e mu tl;have RL:=RQ.length;refine⟨.slice (some ⟨w.heap.size,0,none⟩) n n,_,m',?_,⟨_,_,n,h2,rfl,Yg _,fun _=>rfl,by show 0+0+n * i.size≤RE.toList.length;omega⟩,h3,h4⟩;have Rb:¬ (n * i.size > 2^24):=Om
  have Rd: (sizeOf e).run P w= .ok i.size w:=bZ (by simp[dR,hi]) w;simp only[Instr.buildSlice,Yq,Yn hu,Yf,Rd,Rb,Yo,Vk,YG,TI];exact JX
def wh{op}{t:TypeId}{x y xs ys}(hm:P.eqGuardType P.depth t=false): (eqGuard op t x y (.agg xs) (.agg ys)).run P w= .ok () w:=by
 cases op<;>simp[eqGuard,run_program,hm]
def kj{op}{t:TypeId}{x y a b}(h1:∀l,a≠.agg l)(h2:a≠.nilIface): (eqGuard op t x y a b).run P w= .ok () w:=by
 cases op<;>cases a<;>first
  | rfl
  | exact absurd rfl h2
  | exact absurd rfl (h1 _)
def VR.KO{x cx}(hx:VR m x cx)(h1:x.one=true): (∀l,cx≠.agg l)∧cx≠.nilIface:=by
 have hc:=hx.tV h1;refine⟨fun l e=>?_,fun e=>?_⟩
 ·subst e;cases hc
 ·subst e;cases x<;>simp[VR,AV.one]at hx h1
def DM{t:TypeId}{e:TypeId}(hu:P.underlying t=some (.slice e)){x y cx cy b}(hx:VR m x cx)(hy:VR m y cy)(hb:OG x y=some b)(d:Nat):
  (Op.equalIn (d+1) t cx cy).run P w= .ok b w∧(∀l,cx≠.agg l)∧cx≠.nilIface∧(binOp .eql t cx cy=do pure (.bool (←Op.equal t cx cy)))∧(binOp .neq t cx cy=do pure (.bool (!(←Op.equal t cx cy)))):=by
 unfold OG at hb;split at hb
 ·rw[VR]at hx hy;subst hx;subst hy;cases hb;exact AG
 ·rw[VR]at hx;obtain⟨_,ca,cap,_,rfl,_⟩:=hy;subst hx;cases hb;exact AG
 ·rw[VR]at hy;obtain⟨_,ca,cap,_,rfl,_⟩:=hx;subst hy;cases hb;exact AG
 ·cases hb
def DN{t:TypeId}{e:TypeId}(hu:P.underlying t=some (.pointer e)){x y cx cy b}(hx:VR m x cx)(hy:VR m y cy)(hb:OH x y=some b)(d:Nat):
  (Op.equalIn (d+1) t cx cy).run P w= .ok b w∧(∀l,cx≠.agg l)∧cx≠.nilIface∧(binOp .eql t cx cy=do pure (.bool (←Op.equal t cx cy)))∧(binOp .neq t cx cy=do pure (.bool (!(←Op.equal t cx cy)))):=by
 unfold OH at hb;split at hb
 ·rw[VR]at hx hy;subst hx;subst hy;cases hb;exact AG
 ·rw[VR]at hx;obtain⟨_,_,rfl⟩:=hy;subst hx;cases hb;exact AG
 ·rw[VR]at hy;obtain⟨_,_,rfl⟩:=hx;subst hy;cases hb;exact AG
 ·cases hb
def DP{t:TypeId}{e f g}(hu:P.underlying t=some (.func e f g)){x y cx cy b}(hx:VR m x cx)(hy:VR m y cy)(hb:OJ x y=some b)(d:Nat):
  (Op.equalIn (d+1) t cx cy).run P w= .ok b w∧(∀l,cx≠.agg l)∧cx≠.nilIface∧(binOp .eql t cx cy=do pure (.bool (←Op.equal t cx cy)))∧(binOp .neq t cx cy=do pure (.bool (!(←Op.equal t cx cy)))):=by
 unfold OJ at hb;split at hb
 ·rw[VR]at hx hy;subst hx;subst hy;cases hb;exact AG
 ·rw[VR]at hx;obtain⟨_,_,_,rfl,_⟩:=hy;subst hx;cases hb;exact AG
 ·rw[VR]at hy;obtain⟨_,_,_,rfl,_⟩:=hx;subst hy;cases hb;exact AG
 ·cases hb
def DO{t:TypeId}{e f:TypeId}(hu:P.underlying t=some (.map e f)){x y cx cy b}(hx:VR m x cx)(hy:VR m y cy)(hb:OI x y=some b)(d:Nat):
  (Op.equalIn (d+1) t cx cy).run P w= .ok b w∧(∀l,cx≠.agg l)∧cx≠.nilIface∧(binOp .eql t cx cy=do pure (.bool (←Op.equal t cx cy)))∧(binOp .neq t cx cy=do pure (.bool (!(←Op.equal t cx cy)))):=by
 unfold OI at hb;split at hb
 ·rw[VR]at hx hy;subst hx;subst hy;cases hb;exact AG
 ·rw[VR]at hx;obtain⟨_,_,rfl⟩:=hy;subst hx;cases hb;exact AG
 ·rw[VR]at hy;obtain⟨_,_,rfl⟩:=hx;subst hy;cases hb;exact AG
 ·cases hb
def F2{t:TypeId}{neg k x y ox oy cx cy}(hk:H6 P neg t x y=some (.eqv neg k x y))(hx:VR m (ρ x) cx)(hy:VR m (ρ y) cy)(hf:dt (.eqv neg k x y) ρ h=some (v,h')):
  ∃cv,(do eqGuard (if neg then .neq else .eql) t ox oy cx cy;binOp (if neg then .neq else .eql) t cx cy:Sem Value).run P w= .ok cv w∧VR m v cv∧h' =h:=by
 simp only[dt]at hf;split at hf
 case h_2=>cases hf
 rename_i b hb;cases hf;have fin: (eqGuard (if neg then .neq else .eql) t ox oy cx cy).run P w= .ok () w→(Op.equalIn 10000 t cx cy).run P w= .ok b w→(binOp .eql t cx cy=do pure (.bool (←Op.equal t cx cy)))→(binOp .neq t cx cy=do pure (.bool (!(←Op.equal t cx cy))))→
   ∃cv,(do eqGuard (if neg then .neq else .eql) t ox oy cx cy;binOp (if neg then .neq else .eql) t cx cy:Sem Value).run P w= .ok cv w∧VR m (.bool (if neg then !b else b)) cv∧h=h:=by
  intro h1 h2 h3 h4;refine⟨.bool (if neg then !b else b),?_,rfl,rfl⟩;simp only[Yq,h1,Yf];cases neg
  ·simp only[YS,Yo,h3,Yq,Op.equal,Op.maxDepth,h2,Yf,YG]
  ·simp only[Ys,h4,Yq,Op.equal,Op.maxDepth,h2,Yf,YG]
 unfold H6 at hk;split at hk<;>first
  | (cases hk;done)
  | skip
 ·rename_i hu;cases hk;have hb':de .b (ρ x) (ρ y)=some b:=hb;have hone: (ρ x).one=true:=by unfold de at hb';split at hb'<;>first| (cases hb';done)| simp_all [AV.one]
  obtain⟨n1,n2⟩:=hx.KO hone;obtain⟨a,c,hxa,Sy⟩:∃a c,ρ x= .bool a∧ρ y= .bool c:=by unfold de at hb';split at hb'<;>first| (cases hb';done)| simp_all
  rw[hxa,VR]at hx;rw[Sy,VR]at hy;subst hx;subst hy;refine fin (kj n1 n2) ?_ rfl rfl;exact qV (m:=m) (t:=t) (k:=.b) hu (x:=.bool a) (y:=.bool c) rfl rfl (by rw[←hxa,←Sy];exact hb') 9999
 ·rename_i fs hu;exact z24
 ·rename_i n e hu;exact z24
 ·rename_i e hu;cases hk;obtain⟨h1,h2,h3,h4,h5⟩:=DM (w:=w) hu hx hy hb 9999;exact Dh
 ·rename_i e hu;cases hk;obtain⟨h1,h2,h3,h4,h5⟩:=DN (w:=w) hu hx hy hb 9999;exact Dh
 ·rename_i hu;cases hk;obtain⟨h1,h2,h3,h4,h5⟩:=DP (w:=w) hu hx hy hb 9999;exact Dh
 ·rename_i hu;cases hk;obtain⟨h1,h2,h3,h4,h5⟩:=DO (w:=w) hu hx hy hb 9999;exact Dh
end
def mI(k:oZ)(ρ:cT→AV)(h:ah)(v:AV)(h':ah):Prop:=
 match k with
 | .call _ _=>False
 | .app es w x y=>wE es w (ρ x) (ρ y) h v h'
 | .aE es n z ps=>∃c mu tl,eF (dK n z) (ps.map fun p=>(p.1,es,ρ p.2))=some c∧c.all AV.one=true∧c.length=n * es∧v= .slice h.length 0 n es∧h' =h++ [.cells c mu tl]
 | k=>dt k ρ h=some (v,h')
section
variable {P:Program} {m:bY} {h h':ah} {w:World} {ρ:cT→AV} {v:AV} {σ:Operand→Value}
def eP.nB{r:Result Value}(hr:HR P m h w)(hx:∃cv,r= .ok cv w∧VR m v cv∧h' =h){R:Result Next}(hR:∀cv,r= .ok cv w→R= .ok (.value cv) w):eP P m h w v h' R:=by
 obtain⟨cv,h1,h2,rfl⟩:=hx;exact eP.same hr h2 (hR cv h1)
def eP.zy{r:Result Value}(hx:∃cv w' m',r= .ok cv w'∧VR m' v cv∧HR P m' h' w'∧Grow m h w m' h' w'){R:Result Next}(hR:∀cv w',r= .ok cv w'→R= .ok (.value cv) w'):eP P m h w v h' R:=by
 obtain⟨cv,w',m',h1,h2,h3,h4⟩:=hx;exact⟨cv,w',m',.inl (hR cv w' h1),h2,h3,h4⟩
def nR{l l'}(hl:yQ l=some l')(hρ:∀x∈l,∀x',cP x=some x'→VR m (ρ x') (σ x)):cH m (l'.map ρ) (l.map σ).toList:=by
 have key:∀ (l:List Operand) (l':List cT),l.mapM cP=some l'→(∀x∈l,∀x',cP x=some x'→VR m (ρ x') (σ x))→cH m (l'.map ρ) (l.map σ):=by
  intro l
  induction l with
  | nil=>intro l' h _;simp at h;subst h;exact bB.2 rfl
  | cons x l ih=>
   intro l' h hρ;simp only[aat,aae,aaA]at h;cases hx:cP x with
   | none=>simp[hx]at h
   | some y=>
    cases hl:l.mapM cP with
    | none=>simp[hx,hl]at h
    | some l2=>
     simp[hx,hl]at h;subst h;exact aR.2 ⟨_,_,rfl,hρ x Si y hx,ih l2 hl (fun x' Q2=>hρ x' (by simp[Q2]))⟩
 have:=key l.toList l' hl (fun x hx=>hρ x (by simpa using hx))
 simpa using this
def ra{lo lo'}(hl:vp lo=some lo')(hρ:∀x∈lo,∀x',cP x=some x'→VR m (ρ x') (σ x)):
  oX m ρ lo' (lo.map σ):=by
 cases lo with
 | none=>simp[vp]at hl;subst hl;trivial
 | some x=>
  simp only[vp,Yr]at hl;obtain⟨y,hy,rfl⟩:=hl;exact hρ x rfl y hy
def Ku{op}{t:TypeId}{x y ox oy cx cy}(hr:HR P m h w)(hx:VR m (ρ x) cx)(hy:VR m (ρ y) cy)(hf:dt (.bin op x y) ρ h=some (v,h')):
  ∃cv w' m',(do eqGuard op t ox oy cx cy;binOp op t cx cy:Sem Value).run P w= .ok cv w'∧VR m' v cv∧HR P m' h' w'∧Grow m h w m' h' w':=by
 simp only[dt]at hf;split at hf
 case h_2=>cases hf
 rename_i u hu;cases hf;have fin:∀{cv:Value},(eqGuard op t ox oy cx cy).run P w= .ok () w→(binOp op t cx cy).run P w= .ok cv w→VR m v cv→
   ∃cv w' m',(do eqGuard op t ox oy cx cy;binOp op t cx cy:Sem Value).run P w= .ok cv w'∧VR m' v cv∧HR P m' h w'∧Grow m h w m' h w':=by
  intro cv h1 h2 h3;exact⟨cv,w,m,by simp only[Yq,h1,Yf,h2],h3,hr,Grow.refl m h w hr.cI⟩
 unfold dY at hu;split at hu
 ·rename_i k a k' b RP Xk;rw[RP,VR]at hx;rw[Xk,VR]at hy;subst hx;subst hy;have hg: (eqGuard op t ox oy (.int k a) (.int k' b)).run P w= .ok () w:=kj (fun l=>by simp) Si;split at hu
  ·rename_i hs;obtain⟨cv,h1,h2⟩:=xA (P:=P) (m:=m) (w:=w) (k':=k') hs hu t;exact fin hg h1 h2
  ·rename_i hs;split at hu
   case isFalse=>cases hu
   rename_i hk;subst hk;obtain⟨cv,h1,h2⟩:=xC (P:=P) (m:=m) (w:=w) (by simpa using hs) hu t;exact fin hg h1 h2
 ·rename_i a b RP Xk;rw[RP,VR]at hx;rw[Xk,VR]at hy;subst hx;subst hy;obtain⟨cv,h1,h2⟩:=xz (P:=P) (m:=m) (w:=w) hu t;exact fin (kj (fun l=>by simp) Si) h1 h2
 ·cases hu
def sD{b ts l k Sc}(hk:oa P b ts l=some k)(hargs:cH m (l.map ρ) Sc.toList)(hr:HR P m h w)(hs:mI k ρ h v h')(T:TypeId)(cs:Array Bool):
  ∃cv w' m',(builtin b ts T cs Sc).run P w= .ok (.value cv) w'∧VR m' v cv∧HR P m' h' w'∧Grow m h w m' h' w':=by
 have same:∀{cv:Value},(builtin b ts T cs Sc).run P w= .ok (.value cv) w→VR m v cv→h' =h→∃cv w' m',(builtin b ts T cs Sc).run P w= .ok (.value cv) w'∧VR m' v cv∧HR P m' h' w'∧Grow m h w m' h' w':=by
  intro cv h1 h2 h3;exact Jo
 have args1:∀{x:cT},cH m [ρ x] Sc.toList→∃cx,Sc=#[cx]∧VR m (ρ x) cx:=by
  intro x h1;obtain⟨cx,r,VT,T3,Uj⟩:=aR.1 h1;rw[bB]at Uj;subst Uj;exact⟨cx,by apply aaw;rw[VT],T3⟩
 have WT:∀{x y:cT},cH m [ρ x,ρ y] Sc.toList→∃cx cy,Sc=#[cx,cy]∧VR m (ρ x) cx∧VR m (ρ y) cy:=by
  intro x y h1;obtain⟨cx,r,VT,T3,Uj⟩:=aR.1 h1;obtain⟨cy,r',hcy,hvy,hr1⟩:=aR.1 Uj;rw[bB]at hr1;subst hr1;subst hcy;exact⟨cx,cy,by apply aaw;rw[VT],T3,hvy⟩
 unfold oa at hk;split at hk
 ·
  rename_i x;obtain⟨cx,rfl,hx⟩:=args1 hargs;have ub:∀ (lk:LK) (t0:TypeId) (d:TypeDesc),ts[0]? =some t0→P.underlying t0=some d→(match lk with| .sl=>∃e,d= .slice e| .st=>d= .string| .mp=>∃a b,d= .map a b)→dt (.len lk x) ρ h=some (v,h')→
    ∃cv w' m',(builtin .len ts T cs #[cx]).run P w= .ok (.value cv) w'∧VR m' v cv∧HR P m' h' w'∧Grow m h w m' h' w':=by
   intro lk t0 d Tb hu hd QW;simp only[dt]at QW;split at QW
   case h_2=>cases QW
   rename_i n hn;cases QW;have go: (Builtin.len_ ts T #[cx]).run P w= .ok (.int .i64 n) w:=by
    unfold zX at hn;split at hn
    ·rename_i s hρ;rw[hρ,VR]at hx;subst hx;split at hn
     case isFalse=>cases hn
     rename_i Tf;subst Tf;cases hn;cases hd;have: (⟨⟨s⟩⟩:ByteArray).size=s.length:=rfl;simp[Builtin.len_,Tb,Yn hu,goInt,this]
    ·rename_i b o n' es hρ;rw[hρ]at hx;obtain⟨_,ca,cap,_,rfl,_⟩:=hx;exact J2
    ·rename_i hρ;rw[hρ,VR]at hx;subst hx;exact J2
    ·rename_i r hρ;rw[hρ]at hx;obtain⟨e,he,rfl⟩:=hx;split at hn
     case h_2=>cases hn
     rename_i es hb;split at hn
     case isFalse=>cases hn
     rename_i Tf;subst Tf;cases hn;obtain⟨a,b,rfl⟩:=hd;obtain⟨_,S3,clock,hheap,hlen,_⟩:=hr.dP r e _ he hb;simp[Builtin.len_,Tb,Yn hu,goInt,j9 hheap rfl,hlen]
    ·rename_i hρ;rw[hρ,VR]at hx;subst hx;split at hn
     case isFalse=>cases hn
     rename_i Tf;subst Tf;cases hn;obtain⟨a,b,rfl⟩:=hd;simp[Builtin.len_,Tb,Yn hu,goInt]
    ·cases hn
   exact⟨.int .i64 n,w,m,by simp only[builtin,Yq,go,Yf,YG],rfl,hr,Grow.refl m h w hr.cI⟩
  split at hk
  ·rename_i e hd;cases hk;obtain⟨t0,Tb,TT⟩:=Za.1 hd;exact ub .sl t0 _ Tb TT ⟨e,rfl⟩ hs
  ·rename_i hd;cases hk;obtain⟨t0,Tb,TT⟩:=Za.1 hd;exact ub .st t0 _ Tb TT rfl hs
  ·rename_i a b hd;cases hk;obtain⟨t0,Tb,TT⟩:=Za.1 hd;exact ub .mp t0 _ Tb TT ⟨a,b,rfl⟩ hs
  ·rename_i n e hd;cases hk;obtain⟨t0,Tb,TT⟩:=Za.1 hd;have QW:dt (.zW n) ρ h=some (v,h'):=hs;simp only[dt,Yy,aaq]at QW;obtain⟨rfl,rfl⟩:=QW;exact same (cv:=.int .i64 n) (by simp[builtin,Builtin.len_,Tb,Yn TT,goInt]) rfl rfl
  ·cases hk
 ·
  rename_i x y;obtain⟨cx,cy,rfl,hx,hy⟩:=WT hargs;have appF:∀ (e:TypeId) (i:TypeInfo) (d:TypeDesc),(ts[0]?).bind (dS P)=some (e,i)→(ts[1]?).bind P.underlying=some d→(∀k,d≠.int k)→
    (if 0 < i.size∧0 < i.bytes∧i.bytes≤2^20 then(i.zero.bind (mw 4)).bind fun z=>if z.cells.length=i.size then some (oZ.app i.size i.bytes x y)else none else none)=some k→
    ∃cv w' m',(builtin .append ts T cs #[cx,cy]).run P w= .ok (.value cv) w'∧VR m' v cv∧HR P m' h' w'∧Grow m h w m' h' w':=by
   intro e i d h0 h1 hd hk;obtain⟨sT,hts0,hsl⟩:=Za.1 h0;obtain⟨xT,hts1,hud⟩:=Za.1 h1;split at hk
   case isFalse=>cases hk
   rename_i hc;obtain⟨c1,c2,c3⟩:=hc;obtain⟨z,hz,hk⟩:=Za.1 hk;split at hk
   case isFalse=>cases hk
   rename_i hzl;cases hk;obtain⟨cv,w',m',h2,h3,h4,h5⟩:=Kv (w:=w) hts0 hts1 hsl c1 c2 c3 hud hd hz hzl hr hx hy hs T;exact⟨cv,w',m',by simp only[builtin,Yq,h2,Yf,YG],h3,h4,h5⟩
  split at hk
  ·rename_i e i e2 h0 h1;exact appF e i _ h0 h1 (fun k=>by simp) hk
  ·rename_i e i h0 h1;exact appF e i _ h0 h1 (fun k=>by simp) hk
  ·cases hk
 ·
  rename_i x y;obtain⟨cx,cy,rfl,hx,hy⟩:=WT hargs;split at hk
  case h_2=>cases hk
  rename_i e i h0;split at hk
  case isFalse=>cases hk
  rename_i hpos;cases hk;obtain⟨dT,hts0,hsl⟩:=Za.1 h0;obtain⟨cv,w',m',h2,h3,h4,h5⟩:=Ks (w:=w) hts0 hsl hpos hr hx hy hs T;exact⟨cv,w',m',by simp only[builtin,Yq,h2,Yf,YG],h3,h4,h5⟩
 ·
  rename_i x l;cases hk;have QW:dt (.mx x l) ρ h=some (v,h'):=hs;simp only[dt]at QW;split at QW
  case h_2=>cases QW
  rename_i u hu;cases QW;obtain⟨cx,r,VT,T3,QZ⟩:=aR.1 hargs;obtain⟨cv,h1,h2⟩:=v7 (P:=P) (w:=w) T3 QZ hu;exact same (by simp only[builtin,Builtin.max_,VT,Yq,h1,Yf,YG]) h2 rfl
 ·
  rename_i x l;cases hk;have QW:dt (.mn x l) ρ h=some (v,h'):=hs;simp only[dt]at QW;split at QW
  case h_2=>cases QW
  rename_i u hu;cases QW;obtain⟨cx,r,VT,T3,QZ⟩:=aR.1 hargs;obtain⟨cv,h1,h2⟩:=vZ (P:=P) (w:=w) T3 QZ hu;exact same (by simp only[builtin,Builtin.min_,VT,Yq,h1,Yf,YG]) h2 rfl
 ·cases hk
def w7{o:Oper}{k:oZ}(hc:dX P o=some k)(hρ:∀x∈o.op.operands,∀x',cP x=some x'→VR m (ρ x') (σ x))(hcst:∀z,ρ (.c z)=z)(hr:HR P m h w)(hs:mI k ρ h v h'):
  eP P m h w v h' ((execOp σ o).run P w):=by
 unfold dX at hc;cases QX:o.op with
 | move x=>
  exact z49
 | assign x=>
  exact z49
 | pick c a b=>
  simp only[QX]at hc;split at hc
  case h_2=>cases hc
  rename_i c' a' b' Sk VV hb';cases hc;have QW:dt (.pick c' a' b') ρ h=some (v,h'):=hs;simp only[dt]at QW;split at QW
  case h_2=>cases QW
  rename_i t ht;cases QW;have h1:=hρ c (by simp[QX,Op.operands]) c' Sk;rw[ht,VR]at h1;refine eP.same (cv:=if t then σ a else σ b) hr ?_ (by simp[execOp,QX,h1,asBool]);cases t
  ·exact hρ b (by simp[QX,Op.operands]) b' hb'
  ·exact hρ a (by simp[QX,Op.operands]) a' VV
 | alloc e=>
  simp only[QX]at hc;split at hc
  case h_2=>cases hc
  rename_i z hz;split at hc
  case isFalse=>cases hc
  rename_i h1;cases hc;have QW:dt (.box (.c z)) ρ h=some (v,h'):=hs;simp only[dt,hcst,h1,Ys,Yy,aaq]at QW;obtain⟨rfl,rfl⟩:=QW;obtain⟨cz,TI,Ui⟩:=jJ hz w m;obtain⟨m',h2,h3,h4,h5⟩:=te hr Ui h1 e true false;exact⟨_,_,m',.inl (by simp only[execOp,QX,Instr.alloc,Yq,TI,Yf,h2,YG]),h3,h4,h5⟩
 | box e x=>
  simp only[QX,Yr]at hc;obtain⟨x',Q2,rfl⟩:=hc;have QW:dt (.box x') ρ h=some (v,h'):=hs;simp only[dt]at QW;split at QW
  case isFalse=>cases QW
  rename_i h1;cases QW;obtain⟨m',h2,h3,h4,h5⟩:=te hr (hρ x (by simp[QX,Op.operands]) x' Q2) h1 e true false;exact⟨_,_,m',.inl (by simp only[execOp,QX,Instr.box,Yq,Yf,h2,YG]),h3,h4,h5⟩
 | build t ps=>
  simp only[QX]at hc;split at hc
  case h_2=>cases hc
  rename_i z l hz hl;split at hc
  case isFalse=>cases hc
  rename_i hp;cases hc;have QW:dt (.build z.cells l) ρ h=some (v,h'):=hs;exact eP.nB hr (DK (w:=w) (σ:=σ) hz hl hp (fun p hp y hy=>hρ p.2 (by simp only[QX,Op.operands];simp only[List.mem_toArray,YA];exact⟨p,hp,rfl⟩) y hy) QW) (fun cv h=>by simp[execOp,QX,h])
 | buildSlice t n ps=>
  simp only[QX]at hc;split at hc
  case h_2=>cases hc
  rename_i e i hsl;split at hc
  case h_2=>cases hc
  rename_i z l hz hl;split at hc
  case isFalse=>cases hc
  rename_i Rf;obtain⟨h1,h2,h3,h4⟩:=Rf;cases hc;obtain⟨c,mu,tl,Sb,hc1,hcl,rfl,rfl⟩:=hs;exact eP.zy (BC (w:=w) (σ:=σ) hsl hz hl h1 h2 h3 h4 hr (fun p hp y hy=>hρ p.2 (by simp only[QX,Op.operands];simp only[List.mem_toArray,YA];exact⟨p,hp,rfl⟩) y hy) Sb hc1 hcl mu tl) (fun cv w' h=>by simp[execOp,QX,h])
 | load t a=>
  simp only[QX]at hc;split at hc
  case h_2=>cases hc
  rename_i n a' hn VV;cases hc;exact eP.nB hr (BB hn hr (hρ a (by simp[QX,Op.operands]) a' VV) hs) (fun cv h=>by simp[execOp,QX,h])
 | store t a x=>
  simp only[QX]at hc;split at hc
  case h_2=>cases hc
  rename_i n a' x' hn VV Q2;cases hc;obtain⟨w',h1,rfl,h2,h3⟩:=DH (w:=w) hn hr (hρ a (by simp[QX,Op.operands]) a' VV) (hρ x (by simp[QX,Op.operands]) x' Q2) hs;exact⟨undef,w',m,.inr ⟨by simp[execOp,QX,h1],rfl⟩,jK m,h2,h3⟩
 | nilCheck x=>
  simp only[QX,Yr]at hc;obtain⟨x',Q2,rfl⟩:=hc;have QW:dt (.bt x') ρ h=some (v,h'):=hs;have h1:=hρ x (by simp[QX,Op.operands]) x' Q2;simp only[dt]at QW;split at QW
  ·rename_i b o hv;cases QW;rw[hv]at h1;have h1':=h1;obtain⟨e,he,h2⟩:=h1;exact eP.same hr h1' (by simp[execOp,QX,h2])
  ·rename_i f a c hv;exact MP
  ·rename_i f a c hv;cases QW;rw[hv]at h1;have h1':=h1;obtain⟨f',a',c',h2,h3,_⟩:=h1;obtain⟨e,he,rfl⟩:=h3;exact eP.same hr h1' (by simp[execOp,QX,h2])
  ·rename_i t' n a c hv;exact MP
  ·rename_i t' p f q a c hv;exact MP
  ·cases QW
 | binOp op t x y ty=>
  simp only[QX]at hc;split at hc
  case h_2=>cases hc
  rename_i x' y' Q2 hy';have hx:=hρ x (by simp[QX,Op.operands]) x' Q2;have hy:=hρ y (by simp[QX,Op.operands]) y' hy';have bin:∀{op':BinOp},o.op= .binOp op' t x y ty→k= .bin op' x' y'→eP P m h w v h' ((execOp σ o).run P w):=by
   intro op' ho hk;subst hk;exact eP.zy (Ku (op:=op') (t:=t) (ox:=x) (oy:=y) hr hx hy hs) (fun cv w' h=>by simp only[execOp,ho];rw[Yq,h];rfl)
  have eqv:∀ (neg:Bool),o.op= .binOp (if neg then .neq else .eql) t x y ty→H6 P neg t x' y' =some k→eP P m h w v h' ((execOp σ o).run P w):=by
   intro neg ho hk;have hk0:=hk;unfold H6 at hk;split at hk
   ·cases hk;exact bin ho rfl
   ·cases hk;exact bin ho rfl
   ·cases hk;exact bin ho rfl
   ·exact Ji
   ·exact PW
   ·exact PW
   ·exact Ji
   ·exact Ji
   ·exact Ji
   ·exact Ji
   ·cases hk
  split at hc
  ·exact eqv false QX hc
  ·exact eqv true QX hc
  ·cases hc;exact bin QX rfl
 | unOp op t x=>
  simp only[QX,Yr]at hc;obtain⟨x',Q2,rfl⟩:=hc;have QW:dt (.un op x') ρ h=some (v,h'):=hs;simp only[dt]at QW;split at QW
  case h_2=>cases QW
  rename_i u hu;cases QW;obtain⟨cv,h1,h2⟩:=DL (P:=P) (w:=w) (hρ x (by simp[QX,Op.operands]) x' Q2) hu;exact eP.same hr h2 (by simp[execOp,QX,h1])
 | convert s d x=>
  simp only[QX]at hc;split at hc
  case h_2=>cases hc
  rename_i ck x' Sg Q2;cases hc;exact eP.zy (Hd Sg hr (hρ x (by simp[QX,Op.operands]) x' Q2) hs) (fun cv w' h=>by simp[execOp,QX,h])
 | makeInterface u x=>
  simp only[QX]at hc;split at hc
  ·cases hc
  ·rename_i d x' hni hd Q2;cases hc;have QW:dt (.conv (.qh u) x') ρ h=some (v,h'):=hs;simp only[dt,jX,Yy,aaq]at QW;obtain⟨rfl,rfl⟩:=QW;have T2:=hρ x (by simp[QX,Op.operands]) x' Q2;refine eP.same (cv:=.iface u (σ x)) hr ⟨_,rfl,T2⟩ ?_;simp only[execOp,QX,Instr.makeInterface,Yq,Yn hd,Yf];cases d<;>first| rfl| exact absurd rfl (hni _)
  ·cases hc
 | makeFunc fn a c=>
  simp only[QX]at hc;split at hc
  case isFalse=>cases hc
  rename_i hfn;split at hc
  case h_2=>cases hc
  rename_i a' c' VV Sk;cases hc;have QW:dt (.kQ fn a' c') ρ h=some (v,h'):=hs;simp only[dt,Yy,aaq]at QW;obtain⟨rfl,rfl⟩:=QW;have h1:=nR (m:=m) (ρ:=ρ) (σ:=σ) VV (fun x hx=>hρ x (by simp only[QX,Op.operands];exact Array.mem_append.2 (.inl hx)));have h2:=nR (m:=m) (ρ:=ρ) (σ:=σ) Sk (fun x hx=>hρ x (by simp only[QX,Op.operands];exact Array.mem_append.2 (.inr hx)));refine eP.same (cv:=.func fn (a.map σ) (c.map σ)) hr ⟨fn,(a.map σ).toList,(c.map σ).toList,rfl,?_,h1,h2⟩ (by simp[execOp,QX,Instr.makeFunc]);cases fn<;>first
   | rfl
   | (cases hfn;done)
 | makeMap t r=>
  simp only[QX]at hc;cases r with
  | some _=>simp at hc
  | none=>
   simp only[Yy]at hc;subst hc;have QW:dt .lE ρ h=some (v,h'):=hs;simp only[dt,Yy,aaq]at QW;obtain⟨rfl,rfl⟩:=QW;have Ww:=jZ hr (.map #[] 0) (.bn []) ⟨w.heap.size,0,0,true⟩ rfl rfl (fun m' _=>⟨rfl,#[],0,World.alloc_heap_new w _,rfl,fun i p hp=>by simp at hp⟩);exact⟨.map (some w.heap.size),_,_,.inl (by simp[execOp,QX,Instr.makeMap]),⟨⟨w.heap.size,0,0,true⟩,by simp[bY.add],rfl⟩,Ww.1,Ww.2⟩
 | makeSlice t l c=>
  simp only[QX]at hc;split at hc
  case h_2=>cases hc
  rename_i e i l' c' hsl Q7 Sk;split at hc
  case h_2=>cases hc
  rename_i z hz;split at hc
  case isFalse=>cases hc
  rename_i Rf;obtain⟨h1,h2,h3⟩:=Rf;cases hc;exact eP.zy (G7 hsl hz h1 h2 h3 hr (hρ l (by simp[QX,Op.operands]) l' Q7) (hρ c (by simp[QX,Op.operands]) c' Sk) hs) (fun cv w' h=>by simp[execOp,QX,h])
 | slice t x lo hi mx=>
  simp only[QX]at hc;cases mx with
  | some _=>simp at hc
  | none=>
   simp only at hc;split at hc
   case h_2=>cases hc
   rename_i x' lo' hi' Q2 hlo' hhi';have hx:=hρ x (by simp[QX,Op.operands]) x' Q2;have hlo:=ra (m:=m) (ρ:=ρ) (σ:=σ) hlo' (fun y hy=>hρ y (by simp only[QX,Op.operands];cases hy;simp));have hhi:=ra (m:=m) (ρ:=ρ) (σ:=σ) hhi' (fun y hy=>hρ y (by simp only[QX,Op.operands];cases hy;simp));split at hc
   ·rename_i hu;cases hc;exact eP.nB hr (Kn hu hx hlo hhi hs) (fun cv h=>by simp only[execOp,QX,aap];rw[Yq,h];rfl)
   ·rename_i e hu;simp only[Yr]at hc;obtain⟨n,hn,rfl⟩:=hc;exact eP.nB hr (Nh hu hn hx hlo hhi hs) (fun cv h=>by simp only[execOp,QX,aap];rw[Yq,h];rfl)
   ·rename_i n e hu;simp only[Yr]at hc;obtain⟨es,hes,rfl⟩:=hc;exact eP.nB hr (Ko hu hes hr hx hlo hhi hs) (fun cv h=>by simp only[execOp,QX,aap];rw[Yq,h];rfl)
   ·cases hc
 | fieldAddr t x i=>
  simp only[QX]at hc;split at hc
  case h_2=>cases hc
  rename_i f x' hf Q2;split at hc
  case h_2=>cases hc
  rename_i n hn;split at hc
  case isFalse=>cases hc
  rename_i hpos;cases hc;exact eP.nB hr (Hc hf hn hpos (hρ x (by simp[QX,Op.operands]) x' Q2) hs) (fun cv h=>by simp[execOp,QX,h])
 | indexAddr t x i=>
  simp only[QX]at hc;split at hc
  case h_2=>cases hc
  rename_i x' i' Q2 hi';have hx:=hρ x (by simp[QX,Op.operands]) x' Q2;have hi:=hρ i (by simp[QX,Op.operands]) i' hi';split at hc
  ·rename_i e hu;simp only[Yr]at hc;obtain⟨n,hn,rfl⟩:=hc;exact eP.nB hr (G9 hu hn hx hi hs) (fun cv h=>by simp[execOp,QX,h])
  ·rename_i len e hu;simp only[Yr]at hc;obtain⟨n,hn,rfl⟩:=hc;exact eP.nB hr (Ha hu hn hx hi hs) (fun cv h=>by simp[execOp,QX,h])
  ·cases hc
 | field t x i=>
  simp only[QX]at hc;split at hc
  case h_2=>cases hc
  rename_i f x' hf Q2;simp only[Yr]at hc;obtain⟨n,hn,rfl⟩:=hc;exact eP.nB hr (DI hf hn (hρ x (by simp[QX,Op.operands]) x' Q2) hs) (fun cv h=>by simp[execOp,QX,h])
 | index t x i=>
  simp only[QX]at hc;split at hc
  case h_2=>cases hc
  rename_i x' i' Q2 hi';have hx:=hρ x (by simp[QX,Op.operands]) x' Q2;have hi:=hρ i (by simp[QX,Op.operands]) i' hi';split at hc
  ·rename_i hu;cases hc;exact eP.nB hr (Kp hu hx hi hs) (fun cv h=>by simp[execOp,QX,h])
  ·rename_i len e hu;split at hc
   case h_2=>cases hc
   rename_i n q hn hq;cases hc;exact eP.nB hr (Kq hu hn hq hx hi hs) (fun cv h=>by simp[execOp,QX,h])
  ·cases hc
 | lookup t x i ok=>
  simp only[QX]at hc;split at hc
  case h_2=>cases hc
  rename_i kt e x' i' hu Q2 hi';split at hc
  case h_2=>cases hc
  rename_i kk z hkk hz;cases hc;exact eP.nB hr (G8 hu hkk hz hr (hρ x (by simp[QX,Op.operands]) x' Q2) (hρ i (by simp[QX,Op.operands]) i' hi') hs) (fun cv h=>by simp[execOp,QX,h])
 | mapUpdate t x i y=>
  exact P5
 | insert t x i y=>
  exact P5
 | range t x=>
  simp only[QX]at hc;split at hc
  case h_2=>cases hc
  rename_i hu;simp only[Yr]at hc;obtain⟨x',Q2,rfl⟩:=hc;exact eP.zy (G5 hu hr (hρ x (by simp[QX,Op.operands]) x' Q2) hs) (fun cv w' h=>by simp[execOp,QX,h])
 | next x isS=>
  simp only[QX]at hc;cases isS with
  | false=>simp at hc
  | true=>
   simp only[Yr]at hc;obtain⟨x',Q2,rfl⟩:=hc;exact eP.zy (DJ (t:=o.type) hr (hρ x (by simp[QX,Op.operands]) x' Q2) hs) (fun cv w' h=>by simp[execOp,QX,h])
 | extract x i=>
  simp only[QX,Yr]at hc;obtain⟨x',Q2,rfl⟩:=hc;have QW:dt (.ext x' i) ρ h=some (v,h'):=hs;simp only[dt]at QW;split at QW
  case h_2=>cases QW
  rename_i l hl;split at QW
  case h_2=>cases QW
  rename_i u hu;cases QW;have h1:=hρ x (by simp[QX,Op.operands]) x' Q2;rw[hl]at h1;obtain⟨l',h2,h3⟩:=h1;obtain⟨cv,SW,QZ⟩:=h3.get hu;exact eP.same hr QZ (by simp[execOp,QX,Instr.extract,h2,SW])
 | call c=>
  simp only[QX]at hc;split at hc
  case h_2=>cases hc
  rename_i l hl;have hargs:=nR (m:=m) (ρ:=ρ) (σ:=σ) hl (fun x hx=>hρ x (by simp only[QX,Op.operands,Call.operands];exact Array.mem_append.2 (.inr hx)));split at hc
  ·exact JK
  ·exact JK
  ·rename_i b hb;obtain⟨cv,w',m',h1,h2,h3,h4⟩:=sD (w:=w) hc hargs hr hs o.type (c.args.map fun| .const _=>true| _=>false);refine⟨cv,w',m',.inl ?_,h2,h3,h4⟩;simp only[execOp,QX,resolve,hb,Yq,YG,Yf,invoke];exact h1
 | _=>simp[QX]at hc
end
def Rel(P:Program)(m:bY)(h:ah)(w:World)(v:AV)(h':ah)(e:Ending)(w':World):Prop:=
 ∃cv m',e= .returned cv∧VR m' v cv∧HR P m' h' w'∧Grow m h w m' h' w'
def lO(P:Program)(f:FuncId)(args:List AV)(h:ah)(v:AV)(h':ah):Prop:=
 ∀ (m:bY) (w:World) (vs:List Value),HR P m h w→cH m args vs→Calls P f ⟨vs⟩ w (Rel P m h w v h')
def Da(P:Program)(R:Ending→World→Prop):Result Next→Prop
 | .ok (.value cv) w'=>R (.returned cv) w'
 | .ok (.enter f args) w'=>CallsIn Fence.wide 0 P f args w' R
 | .ok (.round l f tmps asg body) w'=>RoundIn Fence.wide 0 P l f tmps asg body w' R
 | _=>False
def fg(P:Program)(fv:AV)(args:List AV)(h:ah)(v:AV)(h':ah):Prop:=
 ∀ (m:bY) (w:World) (cv:Value) (vs:List Value),HR P m h w→VR m fv cv→cH m args vs→
  ∃d,(∀w,(Deferred.ofValue cv ⟨vs⟩).run P w= .ok d w)∧Da P (Rel P m h w v h') ((invoke d.target d.args).run P w)
def pH(P:Program)(k:oZ)(ρ:cT→AV)(h:ah)(v:AV)(h':ah):Prop:=
 match k with
 | .call f args=>fg P (ρ f) (args.map ρ) h v h'
 | k=>mI k ρ h v h'
abbrev Fd(ro:Option Nat):Fence:={ Fence.wide with round:=ro }
def ka{P f fn args w}(hf:P.funcs[f]? =some fn)(hb:fn.body.isSome=true)(hn: (fn.name== "runtime.NumGoroutine")=false):
  (callFunc f args).run P w= .ok (.enter f args) w:=by
 have hb':fn.body≠none:=by cases h:fn.body<;>simp_all
 have Vl:fn.name≠ "runtime.NumGoroutine":=by simpa using hn
 simp[callFunc,Yq,run_program,hf,Vl,hb',Result.andThen]
section
variable {P:Program} {m:bY} {h h':ah} {w:World} {v:AV}
def qE{ro:Option Nat}{o:Oper}{a:Act}{next:Act→World→Prop}{Q:Exit→Act→World→Prop}{r:Result Next}
  (hr:Da P (Rel P m h w v h') r) (hn:∀cv m' w',VR m' v cv→HR P m' h' w'→Grow m h w m' h' w'→next (a.put o.dst cv) w'):o.uponIn (Fd ro) 0 P a next Q r:=by
 cases r with
 | halt x w'=>exact hr.elim
 | ok x w'=>
  cases x<;>first
   | exact hr.elim
   | skip
  case value cv=>
   obtain⟨cv',m',he,h1,h2,h3⟩:=hr;cases he;exact hn cv m' w' h1 h2 h3
  case enter f args=>
   rw[Oper.uponIn_enter];refine⟨fun hd=>by simp[Fd,Fence.wide]at hd,CallsIn.mono (F:=Fd ro) (show CallsIn (Fd ro) (0 - 1) P f args w' (Rel P m h w v h')from hr) fun e w'' he=>?_⟩;exact z173
  case round l f tmps asg body=>
   rw[Oper.uponIn_round];refine⟨fun hd=>by simp[Fd,Fence.wide]at hd,RoundIn.mono (F:=Fd ro) (show RoundIn (Fd ro) (0 - 1) P l f tmps asg body w' (Rel P m h w v h')from hr) fun e w'' he=>?_⟩;exact z173
def vq{o:Oper}{k:oZ}{ρ:cT→AV}(hc:dX P o=some k){a:Act}(hρ:∀x∈o.op.operands,∀x',cP x=some x'→VR m (ρ x') (a.eval x))(hcst:∀z,ρ (.c z)=z)
  (hr:HR P m h w) (hs:pH P k ρ h v h') (ro:Option Nat) (next:Act→World→Prop) (Q:Exit→Act→World→Prop)
  (hn:∀cv m' w',VR m' v cv→HR P m' h' w'→Grow m h w m' h' w'→next (a.put o.dst cv) w'):o.wpIn (Fd ro) 0 P a w next Q:=by
 refine⟨fun _ _=>trivial,?_⟩;have hdef:∀c,o.op≠.defer c:=by
  intro c QX;simp[dX,QX]at hc
 rw[Oper.semAt_eq _ _ _ hdef];by_cases Tl:∃f args,k= .call f args
 ·obtain⟨f,args,rfl⟩:=Tl;have QW:fg P (ρ f) (args.map ρ) h v h':=hs;cases QX:o.op with
  | call c=>
   have Sk:=hc;simp only[dX,QX]at Sk;split at Sk
   case h_2=>cases Sk
   rename_i l hl;have hargs:=nR (m:=m) (ρ:=ρ) (σ:=a.eval) hl (fun x hx=>hρ x (by simp only[QX,Op.operands,Call.operands];exact Array.mem_append.2 (.inr hx)));split at Sk
   ·rename_i g hg;simp only[Yr]at Sk;obtain⟨g',Rj,he⟩:=Sk;cases he;have hf:=hρ g (by simp[QX,Op.operands,Call.operands,hg]) _ Rj;obtain⟨d,hd,haf⟩:=QW m w _ _ hr hf hargs;refine qE (m:=m) (h:=h) (w:=w) (v:=v) (h':=h') ?_ hn;simp only[execOp,QX,resolve,hg,Yq];have Rr: (Deferred.ofValue (a.eval g) (c.args.map a.eval)).run P w= .ok d w:=hd w;rw[Rr];exact haf
   ·rename_i r name hg;simp only[Yr]at Sk;obtain⟨r',hr',he⟩:=Sk;cases he;have hrv:=hρ r (by simp[QX,Op.operands,Call.operands,hg]) _ hr';have hf:VR m (ρ (.c (.func (.method name) [] []))) (.func (.method name) #[] #[]):=by
     rw[hcst,VR];exact⟨_,[],[],rfl,rfl,rfl,rfl⟩
    obtain⟨d,hd,haf⟩:=QW m w _ (a.eval r:: (c.args.map a.eval).toList) hr hf (aR.2 ⟨_,_,rfl,hrv,hargs⟩);refine qE (m:=m) (h:=h) (w:=w) (v:=v) (h':=h') ?_ hn;simp only[execOp,QX,resolve,hg,Yq];have Rr:=hd w;have: (#[]++ (⟨a.eval r:: (c.args.map a.eval).toList⟩:Array Value))=#[a.eval r]++c.args.map a.eval:=by
     apply aaw;simp
    simp only[Deferred.ofValue,this]at Rr;cases Rr;exact haf
   ·rename_i b hb;exfalso;unfold oa at Sk
    repeat' split at Sk
    all_goals first| (cases Sk;done)| (simp only[Za]at Sk;obtain⟨z,_,hz⟩:=Sk;split at hz<;>cases hz)
  | makeMap t r=>cases r<;>simp[dX,QX]at hc
  | next x b=>
   cases b
   ·simp[dX,QX]at hc
   ·simp[dX,QX,Yr]at hc
  | slice t x lo hi mx=>
   cases mx with
   | some _=>simp[dX,QX]at hc
   | none=>
    exfalso;simp only[dX,QX]at hc
    repeat' split at hc
    all_goals first
     | (cases hc;done)
     | (simp[Yr]at hc;done)
  | _=>
   exfalso;simp only[dX,QX]at hc
   repeat' split at hc
   all_goals first
    | (cases hc;done)
    | (simp[Yr,Za]at hc;done)
    | (unfold H6 at hc;repeat' split at hc;all_goals first| (cases hc;done)| (simp[Yr]at hc;done))
 ·have QW:mI k ρ h v h':=by
   cases k<;>first| exact hs| exact absurd ⟨_,_,rfl⟩ Tl
  obtain⟨cv,w',m',he,h1,h2,h3⟩:=w7 (w:=w) hc hρ hcst hr QW;rcases he with he| ⟨he,rfl⟩
  ·rw[he];exact hn cv m' w' h1 h2 h3
  ·rw[he];exact hn undef m' w' h1 h2 h3
def GV(P:Program)(m:bY):Prop:=∀g,g < P.globals.size→∃e,m g=some e∧e.cb=g∧e.d=0
def HR.gv(hr:HR P m h w):GV P m:=fun g hg=>by obtain⟨e,h1,h2,h3,_⟩:=hr.fV g hg;exact⟨e,h1,h2,h3⟩
def y7(hg:GV P m){ts:TS}{a:Act}{x:Operand}{x':cT}(hx:cP x=some x')(hok:MB P x=true)(ht:∀t,x= .tmp t→VR m (ts.getD t aA) (a.tmps.getD t undef)):VR m (val ts x') (a.eval x):=by
 cases x with
 | tmp t=>cases hx;exact ht t rfl
 | const c=>
  simp only[cP,Yr]at hx;obtain⟨y,hy,rfl⟩:=hx;exact qx m 4 _ _ hy
 | global g=>
  cases hx;simp only[MB,YO]at hok;obtain⟨e,he,hcb,hd⟩:=hg g hok;exact⟨e,he,by rw[hcb,hd];rfl⟩
 | func f=>cases hx;exact⟨.func f,[],[],rfl,rfl,rfl,rfl⟩
def nJ{ts:TS}{vs:Array Value}(h:cH m ts vs.toList)(t:Nat):VR m (ts.getD t aA) (vs.getD t undef):=by
 have hl:=h.length;by_cases ht:t < ts.length
 ·have hx:ts[t]? =some ts[t]:=X6 ht;obtain⟨y,hy,hr⟩:=h.get hx;have e1:ts.getD t aA=ts[t]:=by simp[List.getD,hx]
  have e2:vs.getD t undef=y:=by
   simp only[Zy]at hy;simp[YP,hy]
  rw[e1,e2];exact hr
 ·have e1:ts.getD t aA=aA:=by simp[List.getD,Z1 (by omega:ts.length≤t)]
  have e2:vs.getD t undef=undef:=by
   have:vs.size≤t:=by simp at hl;omega
   simp[YP,ZC this]
  rw[e1,e2];exact jK m
def DY{ts:TS}{a:Act}(h:cH m ts a.tmps.toList){x:AV}{cv:Value}(hx:VR m x cv)(d:Option Nat):cH m (put ts d x) (a.put d cv).tmps.toList:=by
 cases d with
 | none=>exact h
 | some d=>simp only[put,Act.put,Array.toList_setIfInBounds];exact h.set d hx
def put_defers(a:Act)(d:Option Nat)(cv:Value): (a.put d cv).defers=a.defers:=by cases d<;>rfl
def qD{ts:TS}{a:Act}{ops:Array Oper}{o:Oper}{g:Option (Nat×Bool)}(hg:ud ops o.guard=some g)
  (ht:∀t b,g=some (t,b)→(t < ts.length↔t < a.tmps.size)∧VR m (ts.getD t aA) (a.tmps.getD t undef)):Region.wanted o (yielded ops a.tmps)=true↔wanted g ts:=by
 unfold ud at hg;unfold Region.wanted wanted;cases Ul:o.guard with
 | none=>rw[Ul]at hg;cases hg;simp
 | some p=>
  obtain⟨j,b⟩:=p;rw[Ul]at hg;simp only[Yr]at hg;obtain⟨d,hd,rfl⟩:=hg;simp only[yielded,hd,Option.bind_some,beq_iff_eq];obtain⟨hlt,QZ⟩:=ht d b rfl;by_cases hdl:d < ts.length
  ·have Un:=hlt.1 hdl;have e1:ts.getD d aA=ts[d]:=by simp[List.getD,X6 hdl]
   have e2:a.tmps.getD d undef=a.tmps[d]:=by simp[YP,YT Un]
   rw[e1,e2]at QZ;rw[YT Un,X6 hdl];generalize a.tmps[d]=cv at QZ;generalize ts[d]=av at QZ;cases av with
   | bool t=>rw[VR]at QZ;subst QZ;simp
   | int k n=>rw[VR]at QZ;subst QZ;simp
   | wG k n=>rw[VR]at QZ;obtain⟨_,rfl,_⟩:=QZ;simp
   | wk k x y=>rw[VR]at QZ;obtain⟨_,_,rfl,_⟩:=QZ;simp
   | str s=>rw[VR]at QZ;subst QZ;simp
   | ptr b o=>rw[VR]at QZ;obtain⟨_,_,rfl⟩:=QZ;simp
   | nilPtr=>rw[VR]at QZ;subst QZ;simp
   | slice b o n e=>rw[VR]at QZ;obtain⟨_,_,_,_,rfl,_⟩:=QZ;simp
   | af=>rw[VR]at QZ;subst QZ;simp
   | map r=>rw[VR]at QZ;obtain⟨_,_,rfl⟩:=QZ;simp
   | cQ=>rw[VR]at QZ;subst QZ;simp
   | func f x y=>rw[VR]at QZ;obtain⟨_,_,_,rfl,_⟩:=QZ;simp
   | nilFunc=>rw[VR]at QZ;subst QZ;simp
   | agg l=>rw[VR]at QZ;obtain⟨_,rfl,_⟩:=QZ;simp
   | dL l=>rw[VR]at QZ;obtain⟨_,rfl,_⟩:=QZ;simp
   | qh u l=>rw[VR]at QZ;obtain⟨_,rfl,_⟩:=QZ;simp
   | kf=>rw[VR]at QZ;subst QZ;simp
  ·have Un:¬d < a.tmps.size:=fun x=>hdl (hlt.2 x)
   rw[ZC Om,Z1 Om];simp
inductive dx (P:Program) (o:bJ) (ts:TS) (h:ah):TS→ah→Prop
 | run {v:AV} {h':ah} (hw:wanted o.gd ts) (hb:y3 o.dst o.k ts.length) (hs:pH P o.k (val ts) h v h'):dx P o ts h (put ts o.dst v) h'
 | skip (hw:¬wanted o.gd ts):dx P o ts h (put ts o.dst aA) h
def yp(P:Program):List bJ→TS→ah→TS→ah→Prop
 | [],ts,h,ts',h'=>ts' =ts∧h' =h
 | o::r,ts,h,ts',h'=>∃Sz h1,dx P o ts h Sz h1∧(o.q=true→∃g,h1=h++g)∧yp P r Sz h1 ts' h'
structure St(P:Program)(m:bY)(ts:TS)(h:ah)(a:Act)(w:World):Prop where
 hr:HR P m h w
 ts:cH m ts a.tmps.toList
def oz{ρ}:¬pH P .bad ρ h v h':=fun hs=>by
 have QW:dt .bad ρ h=some (v,h'):=hs;simp[dt]at QW
def fq{ops:Array Oper}{i:Nat}{o:Oper}(ho:ops[i]? =some o){q:Bool}{io:bJ}(hc:bP P ops q o=some io){ts ts':TS}{a:Act}
  (hg:GV P m) (hr:HR P m h w) (hlen:a.tmps.size=ts.length)
  (ht:∀t,t∈o.looksAt ops→VR m (ts.getD t aA) (a.tmps.getD t undef)) (hs:dx P io ts h ts' h') (ro:Option Nat) (K:Act→World→Prop) (Q:Exit→Act→World→Prop)
  (hn:∀cv v m' w',ts' =put ts o.dst v→VR m' v cv→HR P m' h' w'→Grow m h w m' h' w'→K (a.put o.dst cv) w'):wpOpIn (Fd ro) 0 P ops Q i K a w:=by
 unfold bP at hc;split at hc
 case h_2=>cases hc
 rename_i g Ul;cases hc;have hw:=qD (m:=m) (ts:=ts) (a:=a) Ul (fun t b Ua=>⟨Om,ht t (by
  unfold Oper.looksAt;refine List.mem_append_right _ ?_;unfold ud at Ul;cases hog:o.guard with
  | none=>rw[hog]at Ul;cases Ul;cases Ua
  | some p=>
   obtain⟨j,b'⟩:=p;rw[hog]at Ul;simp only[Yr]at Ul;obtain⟨d,hd,rfl⟩:=Ul;cases Ua;simp[hd])⟩)
 unfold wpOpIn;rw[ho];cases hs with
 | run hwa hb hs=>
  clear hb;simp only;rw[Yh (hw.2 hwa)];simp only at hs;split at hs
  case isFalse=>exact absurd hs oz
  rename_i XM;cases hk:dX P o with
  | none=>rw[hk]at hs;exact absurd hs oz
  | some k=>
   rw[hk]at hs;refine vq hk (fun x hx x' Q2=>?_) (fun z=>rfl) hr hs ro K Q (fun cv m' w' h1 h2 h3=>hn cv _ m' w' rfl h1 h2 h3);exact PU
 | skip hwa=>
  simp only;rw[Yd (fun x=>hwa (hw.1 x))];exact⟨fun _ _=>trivial,hn undef _ m w rfl (jK m) hr (Grow.refl m h w hr.cI)⟩
theorem fX{α β:Type}{f:Nat→α→Option β}:∀{l:List α} {i:Nat} {r:List β},eG f l i=some r→r.length=l.length∧∀ (j:Nat) (x:α),l[j]? =some x→∃y,r[j]? =some y∧f (i+j) x=some y
 | [],i,r,h=>by cases h;exact⟨rfl,fun j x hx=>by simp at hx⟩
 | x::xs,i,r,h=>by
  unfold eG at h;split at h
  case h_2=>cases h
  rename_i y ys hy hys;cases h;obtain⟨h1,h2⟩:=fX hys;refine⟨by simp[h1],fun j z hz=>?_⟩;cases j with
  | zero=>simp at hz;subst hz;exact⟨y,Si,hy⟩
  | succ j=>
   simp at hz;obtain⟨u,hu,hf⟩:=h2 j z hz;exact⟨u,by simpa using hu,by rw[show i+ (j+1)=i+1+j from by omega];exact hf⟩
structure Row(P:Program)(l:List bJ)(T:Nat→TS)(H:Nat→ah):Prop where
 step:∀i o,l[i]? =some o→dx P o (T i) (H i) (T (i+1)) (H (i+1))∧(o.q=true→∃g,H (i+1)=H i++g)
theorem yp.row:∀{l} {ts ts'} {h h'},yp P l ts h ts' h'→∃T H,T 0=ts∧H 0=h∧T l.length=ts'∧H l.length=h'∧Row P l T H
 | [],ts,ts',h,h',hs=>by
  obtain⟨rfl,rfl⟩:=hs;exact⟨fun _=>ts',fun _=>h',rfl,rfl,rfl,rfl,⟨fun i o ho=>by simp at ho⟩⟩
 | o::r,ts,ts',h,h',hs=>by
  obtain⟨Sz,h1,bS,hq,hr⟩:=hs;obtain⟨T,H,hT,hH,Sm,hH',hrow⟩:=hr.row;refine⟨fun i=>match i with| 0=>ts| i+1=>T i,fun i=>match i with| 0=>h| i+1=>H i,rfl,rfl,Sm,hH',⟨fun i x hx=>?_⟩⟩;cases i with
  | zero=>
   simp at hx;subst hx;show dx P o ts h (T 0) (H 0)∧_;rw[hT,hH];exact⟨bS,fun q=>by show ∃g,H 0=h++g;rw[hH];exact hq q⟩
  | succ i=>exact hrow.step i x (by simpa using hx)
def mR(ts:TS)(d:Option Nat)(v:AV): (put ts d v).length=ts.length:=by cases d<;>simp[put]
theorem dx.put{o ts ts'}(hs:dx P o ts h ts' h'):∃v,ts' =put ts o.dst v:=by
 cases hs with
 | run=>exact⟨_,rfl⟩
 | skip=>exact⟨_,rfl⟩
def dm{ops q o io}(hc:bP P ops q o=some io):io.dst=o.dst∧io.q=q:=by
 unfold bP at hc;split at hc
 ·cases hc;exact⟨rfl,rfl⟩
 ·cases hc
def xQ{ops:Array Oper}{l:List bJ}(hc:cK P ops false=some l){ts ts':TS}{h h':ah}(hs:yp P l ts h ts' h'){m:bY}{a:Act}{w:World}(st:St P m ts h a w)(ro:Option Nat)
  (Q:Exit→Act→World→Prop) (hQ:∀m' a' w',St P m' ts' h' a' w'→Grow m h w m' h' w'→a'.defers=a.defers→Q .normal a' w') (id:Nat): (Code.region id ops false).wpIn (Fd ro) 0 P Q a w:=by
 refine wpIn_region ?_;obtain⟨T,H,rfl,rfl,rfl,rfl,hrow⟩:=hs.row;obtain⟨hlen,Q4⟩:=fX (show eG (fun _ o=>bP P ops false o) ops.toList 0=some l from hc);simp only[aag]at hlen;have key:∀ (k j:Nat),j+k=ops.size→∀ (m1:bY) (a1:Act) (w1:World),St P m1 (T j) (H j) a1 w1→Grow m (H 0) w m1 (H j) w1→a1.defers=a.defers→
   wpOpsIn (Fd ro) 0 P ops Q (List.range' j k) a1 w1:=by
  intro k
  induction k with
  | zero=>
   intro j hj m1 a1 w1 s1 g1 hd;have:j=l.length:=Om
   subst this;exact hQ m1 a1 w1 s1 g1 hd
  | succ k ih=>
   intro j hj m1 a1 w1 s1 g1 hd;rw[List.range'_succ,wpOpsIn_cons];have XI:j < ops.size:=Om
   have ho:ops[j]? =some ops[j]:=YT XI;obtain⟨io,hio,Q8⟩:=Q4 j ops[j] Si;obtain⟨bS,_⟩:=hrow.step j io hio;refine fq ho Q8 s1.hr.gv s1.hr (by simpa using s1.ts.length) (fun t _=>nJ s1.ts t) bS ro _ Q ?_;intro cv v m' w' QV h1 h2 h3;have hle:=h3.le s1.hr.cI;exact ih (j+1) Om m' _ w' ⟨h2,by rw[QV];exact DY (cH.mono hle _ _ s1.ts) h1 _⟩ (g1.trans h3 st.hr.cI) (by rw[put_defers];exact hd)
 have:=key ops.size 0 Om m a w st (Grow.refl m _ w st.hr.cI) rfl
 rwa [←List.range_eq_range']at this
end
end Go.Abs
