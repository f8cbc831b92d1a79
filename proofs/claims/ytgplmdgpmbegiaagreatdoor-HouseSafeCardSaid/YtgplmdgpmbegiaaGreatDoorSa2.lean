/- A part of the proof that HouseSafe holds. No condition. -/
import Derived.Shelf.Strings.Builder1
import Derived.Shelf.Strings.Builder2
import Derived.Shelf.Strings.OnBuilder
import Derived.Test.YtgplmdgpmbegiaaGreatDoorProg
import Derived.Shelf.Strings.Repeat
import Derived.Tactics
import Derived.OrdersIn
import Derived.RangeFuncLeaves
import Derived.RangeFuncIn
import Derived.RangeFuncOwn
import Derived.Laws.Sem
import Derived.Laws.World
import Derived.Laws.Cells
import Derived.Laws.Entries
import Derived.Below
import Derived.MapKept
import Derived.Laws.Tables
import Derived.Laws.StructEq
import Derived.Test.YtgplmdgpmbegiaaGreatDoorSa0
set_option linter.all false
namespace Go.Proofs
open Go.Shelf
def Tryz.pH:Go.Shelf.Ren:=⟨fun| 156=>114| 165=>210| 166=>211| 169=>212| 240=>257| 241=>258| 276=>282| 277=>283| n=>n,fun| 31=>28| 9=>9| 3=>3| 4=>4| 0=>0| 20=>20| 72=>271| 76=>275| 70=>269| 37=>119| 75=>274| 127=>308| 164=>332| 5=>5| 80=>97| n=>n,fun n=>n⟩
def Tryz.yk:Go.Proofs.Lays.n156 Tryz.prog Tryz.pH:={
 mixed:=by kernel_rfl
 f156:=Tryz.func114.trans (congrArg some (by kernel_rfl))
 f165:=Tryz.func210.trans (congrArg some (by kernel_rfl))
 f166:=Tryz.func211.trans (congrArg some (by kernel_rfl))
 f169:=Tryz.func212.trans (congrArg some (by kernel_rfl))
 f240:=Tryz.func257.trans (congrArg some (by kernel_rfl))
 f241:=Tryz.func258.trans (congrArg some (by kernel_rfl))
 f276:=Tryz.func282.trans (congrArg some (by kernel_rfl))
 f277:=Tryz.func283.trans (congrArg some (by kernel_rfl))
 t0:=Tryz.underlying0
 a0:=Tryz.isAgg0
 z0:=Tryz.sizeOf0
 v0:=Tryz.zeroValue0
 t3:=Tryz.underlying3
 a3:=Tryz.isAgg3
 z3:=Tryz.sizeOf3
 v3:=Tryz.zeroValue3
 t4:=Tryz.underlying4
 a4:=Tryz.isAgg4
 z4:=Tryz.sizeOf4
 v4:=Tryz.zeroValue4
 t9:=Tryz.underlying9
 a9:=Tryz.isAgg9
 z9:=Tryz.sizeOf9
 v9:=Tryz.zeroValue9
 t20:=Tryz.underlying20
 a20:=Tryz.isAgg20
 z20:=Tryz.sizeOf20
 v20:=Tryz.zeroValue20
 t31:=Tryz.underlying28
 a31:=Tryz.isAgg28
 z31:=Tryz.sizeOf28
 v31:=Tryz.zeroValue28
 t37:=Tryz.underlying119
 a37:=Tryz.isAgg119
 z37:=Tryz.sizeOf119
 v37:=Tryz.zeroValue119
 t70:=Tryz.underlying269
 a70:=Tryz.isAgg269
 z70:=Tryz.sizeOf269
 v70:=Tryz.zeroValue269
 t72:=Tryz.underlying271
 a72:=Tryz.isAgg271
 z72:=Tryz.sizeOf271
 v72:=Tryz.zeroValue271
 t75:=Tryz.underlying274
 a75:=Tryz.isAgg274
 z75:=Tryz.sizeOf274
 v75:=Tryz.zeroValue274
 t76:=Tryz.underlying275
 a76:=Tryz.isAgg275
 z76:=Tryz.sizeOf275
 v76:=Tryz.zeroValue275
 t127:=Tryz.underlying308
 a127:=Tryz.isAgg308
 z127:=Tryz.sizeOf308
 v127:=Tryz.zeroValue308
 t164:=Tryz.underlying332
 a164:=Tryz.isAgg332
 z164:=Tryz.sizeOf332
 v164:=Tryz.zeroValue332 }
def Tryz.jz:Builder.Extra Tryz.prog Tryz.pH:={
 sizeBuilder:=by kernel_rfl
 liesBuilder:=by kernel_rfl
 t5:=Tryz.underlying5
 a5:=Tryz.isAgg5
 z5:=Tryz.sizeOf5
 v5:=Tryz.zeroValue5
 infoByte:=by kernel_rfl
 cellsByte:=by kernel_rfl
 sizeByte:=by kernel_rfl
 neB5:=by decide }
open Go.RowKit in
theorem Tryz.strings_Join_none(a:Option Addr)(c:Nat)(sep:ByteArray)(w:World):
  Calls Tryz.prog 114 #[.slice a 0 c,.string sep] w fun e w'=>e= .returned (.string ⟨#[]⟩)∧w' =w:=Any.strings_Join_none Tryz.yk Tryz.jz a c sep w
open Go.RowKit in
theorem Tryz.strings_Join(bk o c:Nat)(xs:List ByteArray)(sep:ByteArray)(w:World)(hcells:∀ (j:Nat) x,xs[j]? =some x→w.cell? ⟨bk,o+j,none⟩=some (.string x))(hbk:bk < w.heap.size)(hN:xs.length≤140737488355328)(hcap:xs.length≤c)(hlen: (Lib.join (xs.map (·.data.toList)) sep.data.toList).length≤140737488355328):
  Calls Tryz.prog 114 #[.slice (some ⟨bk,o,none⟩) xs.length c,.string sep] w fun e w'=>e= .returned (.string ⟨(Lib.join (xs.map (·.data.toList)) sep.data.toList).toArray⟩)∧Below w.heap.size w w':=Any.strings_Join Tryz.yk Tryz.jz bk o c xs sep w hcells hbk hN hcap hlen
end Go.Proofs
namespace Go.Proofs
open Go.Shelf
def Tryz.pI:Go.Shelf.Ren:=⟨fun| 105=>252| 212=>267| 99=>270| 165=>210| 166=>211| 170=>271| 169=>212| 263=>285| 264=>286| 206=>287| 240=>257| 241=>258| 276=>282| 277=>283| n=>n,fun| 9=>9| 3=>3| 4=>4| 20=>20| 0=>0| 46=>319| 109=>320| 5=>5| 72=>271| 76=>275| 51=>335| 146=>336| 53=>327| 148=>338| 70=>269| 37=>119| 75=>274| 127=>308| 164=>332| 80=>97| n=>n,fun n=>n⟩
def Tryz.DB:Go.Proofs.Lays.n105 Tryz.prog Tryz.pI:={
 mixed:=by kernel_rfl
 f99:=Tryz.func270.trans (congrArg some (by kernel_rfl))
 f105:=Tryz.func252.trans (congrArg some (by kernel_rfl))
 f165:=Tryz.func210.trans (congrArg some (by kernel_rfl))
 f166:=Tryz.func211.trans (congrArg some (by kernel_rfl))
 f169:=Tryz.func212.trans (congrArg some (by kernel_rfl))
 f170:=Tryz.func271.trans (congrArg some (by kernel_rfl))
 f206:=Tryz.func287.trans (congrArg some (by kernel_rfl))
 f212:=Tryz.func267.trans (congrArg some (by kernel_rfl))
 f240:=Tryz.func257.trans (congrArg some (by kernel_rfl))
 f241:=Tryz.func258.trans (congrArg some (by kernel_rfl))
 f263:=Tryz.func285.trans (congrArg some (by kernel_rfl))
 f264:=Tryz.func286.trans (congrArg some (by kernel_rfl))
 f276:=Tryz.func282.trans (congrArg some (by kernel_rfl))
 f277:=Tryz.func283.trans (congrArg some (by kernel_rfl))
 t0:=Tryz.underlying0
 a0:=Tryz.isAgg0
 z0:=Tryz.sizeOf0
 v0:=Tryz.zeroValue0
 t3:=Tryz.underlying3
 a3:=Tryz.isAgg3
 z3:=Tryz.sizeOf3
 v3:=Tryz.zeroValue3
 t4:=Tryz.underlying4
 a4:=Tryz.isAgg4
 z4:=Tryz.sizeOf4
 v4:=Tryz.zeroValue4
 t5:=Tryz.underlying5
 a5:=Tryz.isAgg5
 z5:=Tryz.sizeOf5
 v5:=Tryz.zeroValue5
 t9:=Tryz.underlying9
 a9:=Tryz.isAgg9
 z9:=Tryz.sizeOf9
 v9:=Tryz.zeroValue9
 t20:=Tryz.underlying20
 a20:=Tryz.isAgg20
 z20:=Tryz.sizeOf20
 v20:=Tryz.zeroValue20
 t37:=Tryz.underlying119
 a37:=Tryz.isAgg119
 z37:=Tryz.sizeOf119
 v37:=Tryz.zeroValue119
 t46:=Tryz.underlying319
 a46:=Tryz.isAgg319
 z46:=Tryz.sizeOf319
 v46:=Tryz.zeroValue319
 t51:=Tryz.underlying335
 a51:=Tryz.isAgg335
 z51:=Tryz.sizeOf335
 v51:=Tryz.zeroValue335
 t53:=Tryz.underlying327
 a53:=Tryz.isAgg327
 z53:=Tryz.sizeOf327
 v53:=Tryz.zeroValue327
 t70:=Tryz.underlying269
 a70:=Tryz.isAgg269
 z70:=Tryz.sizeOf269
 v70:=Tryz.zeroValue269
 t72:=Tryz.underlying271
 a72:=Tryz.isAgg271
 z72:=Tryz.sizeOf271
 v72:=Tryz.zeroValue271
 t75:=Tryz.underlying274
 a75:=Tryz.isAgg274
 z75:=Tryz.sizeOf274
 v75:=Tryz.zeroValue274
 t76:=Tryz.underlying275
 a76:=Tryz.isAgg275
 z76:=Tryz.sizeOf275
 v76:=Tryz.zeroValue275
 t109:=Tryz.underlying320
 a109:=Tryz.isAgg320
 z109:=Tryz.sizeOf320
 v109:=Tryz.zeroValue320
 t127:=Tryz.underlying308
 a127:=Tryz.isAgg308
 z127:=Tryz.sizeOf308
 v127:=Tryz.zeroValue308
 t146:=Tryz.underlying336
 a146:=Tryz.isAgg336
 z146:=Tryz.sizeOf336
 v146:=Tryz.zeroValue336
 t148:=Tryz.underlying338
 a148:=Tryz.isAgg338
 z148:=Tryz.sizeOf338
 v148:=Tryz.zeroValue338
 t164:=Tryz.underlying332
 a164:=Tryz.isAgg332
 z164:=Tryz.sizeOf332
 v164:=Tryz.zeroValue332 }
def Tryz.oD:Builder.Extra Tryz.prog Tryz.pI:={
 sizeBuilder:=by kernel_rfl
 liesBuilder:=by kernel_rfl
 t5:=Tryz.underlying5
 a5:=Tryz.isAgg5
 z5:=Tryz.sizeOf5
 v5:=Tryz.zeroValue5
 infoByte:=by kernel_rfl
 cellsByte:=by kernel_rfl
 sizeByte:=by kernel_rfl
 neB5:=by decide }
end Go.Proofs
namespace Go.Abs
inductive AV where
 | bool (b:Bool)
 | int (k:IntKind) (n:Int)
 | vT (k:FloatKind) (b:Nat)
 | vF (k:FloatKind) (re im:Nat)
 | str (s:By)
 | ptr (b o:Nat)
 | nilPtr
 | slice (b o n e:Nat)
 | af
 | map (r:Nat)
 | cR
 | func (f:Fn) (a c:List AV)
 | nilFunc
 | agg (l:List AV)
 | dJ (l:List AV)
 | pW (u:TypeId) (v:AV)
 | jY
 deriving Inhabited
def aB:AV:=.dJ []
def AV.cells:AV→List AV
 | .agg l=>l
 | v=>[v]
def AV.one:AV→Bool
 | .agg _=>false
 | .dJ _=>false
 | .jY=>false
 | _=>true
inductive cW where
 | t (i:Nat)
 | c (v:AV)
 | g (i:Nat)
 | f (i:Nat)
 deriving Inhabited
inductive CK where
 | b
 | i
 | s
 deriving DecidableEq,Inhabited
inductive O3 where
 | one (k:CK)
 | agg (ks:List CK)
 | wR
 | wS
 | oQ
 | Kk
 deriving Inhabited
inductive yL where
 | tE (k:IntKind)
 | ML
 | Iv
 | same
 | NM (k:FloatKind)
 | N2 (k:IntKind)
 | N3 (k:FloatKind)
 | pW (u:TypeId)
 deriving Inhabited
inductive LK where
 | sl
 | st
 | mp
 deriving DecidableEq,Inhabited
inductive oA where
 | aI (x:cW)
 | pick (c a b:cW)
 | box (x:cW)
 | mQ (n:Nat) (x:cW)
 | build (z:List AV) (ps:List (Nat×Nat×cW))
 | aG (es:Nat) (n:Nat) (z:List AV) (ps:List (Nat×cW))
 | load (n:Option Nat) (a:cW)
 | store (n:Nat) (a x:cW)
 | bt (x:cW)
 | bin (op:BinOp) (x y:cW)
 | eqv (neg:Bool) (t:O3) (x y:cW)
 | un (op:UnOp) (x:cW)
 | conv (k:yL) (x:cW)
 | kH (f:Fn) (a c:List cW)
 | kZ
 | rH (es w:Nat) (z:List AV) (l c:cW)
 | sl (es:Nat) (x:cW) (lo hi:Option cW)
 | pr (x:cW) (lo hi:Option cW)
 | LV (n es:Nat) (x:cW) (lo hi:Option cW)
 | aR (off:Nat) (x:cW)
 | ba (es:Nat) (x i:cW)
 | rJ (len es:Nat) (x i:cW)
 | part (n:Option Nat) (off:Nat) (x:cW)
 | It (len es:Nat) (n:Option Nat) (x i:cW)
 | pV (x i:cW)
 | look (kk:CK) (z:AV) (ok:Bool) (m k:cW)
 | e9 (kk:CK) (m k x:cW)
 | wq (x:cW)
 | nF (x:cW)
 | ext (x:cW) (i:Nat)
 | call (f:cW) (args:List cW)
 | len (lk:LK) (x:cW)
 | zi (n:Nat)
 | app (es w:Nat) (x y:cW)
 | vU (es:Nat) (x y:cW)
 | mx (x:cW) (l:List cW)
 | mn (x:cW) (l:List cW)
 | bad
 deriving Inhabited
structure bJ where
 dst:Option Nat
 k:oA
 gd:Option (Nat×Bool)
 q:Bool
 deriving Inhabited
def vS(d:Option Nat)(k:oA)(n:Nat):Prop:=
 match k,d with
 | .mQ _ _,some d=>d < n
 | _,_=>True
inductive aj where
 | skip
 | ops (l:List bJ)
 | rF (l:List bJ)
 | kX (l:List bJ)
 | seq (a b:aj)
 | cond (c:cW) (a b:aj)
 | block (id:Nat) (a:aj)
 | loop (a:aj)
 | exit (id:Nat)
 | ret
 | eA (g:cW) (ps:List Nat) (asg body:aj)
 | bad
 deriving Inhabited
inductive Ex where
 | normal
 | exit (id:Nat)
 | ret
 deriving DecidableEq,Inhabited
def Ex.BX:Ex→Exit
 | .normal=>.normal
 | .exit id=>.exit id
 | .ret=>.ret
def Ex.jump:Ex→Option Code
 | .normal=>none
 | .exit id=>some (.exit id)
 | .ret=>some .ret
inductive aq where
 | cells (c:List AV) (mu tl:Bool)
 | dead
 | bn (es:List (AV×AV))
 | iter (s:By) (pos:Nat)
 | loop (st:LoopState) (ex:Ex) (ts:List AV) (ps:List Nat) (asg body:aj)
 deriving Inhabited
abbrev ah:=List aq
abbrev TS:=List AV
structure rQ where
 cb:Nat
 d:Nat
 sz:Nat
 own:Bool
abbrev bY:=Nat→Option rQ
def bY.le(m m':bY):Prop:=∀b e,m b=some e→m' b=some e
def bY.le_trans{a b c:bY}(h:a.le b)(k:b.le c):a.le c:=fun x e hx=>k x e (h x e hx)
def Dw(k:FloatKind)(b:Nat):Bool:=(k.format.order b b).isNone
def FR(k:FloatKind)(b b':Nat):Prop:=b' =b∨(Dw k b=true∧Dw k b' =true)
def zT(m:bY):Fn→Fn→Prop
 | .yield l,g=>∃e,m l=some e∧g= .yield e.cb
 | f,g=>g=f
mutual
def VR(m:bY):AV→Value→Prop
 | .bool b,v=>v= .bool b
 | .int k n,v=>v= .int k n
 | .vT k b,v=>∃b',v= .float k b'∧FR k b b'
 | .vF k x y,v=>∃x' y',v= .complex k x' y'∧FR k x x'∧FR k y y'
 | .str s,v=>v= .string ⟨⟨s⟩⟩
 | .ptr b o,v=>∃e,m b=some e∧v= .pointer (some ⟨e.cb,o+e.d,none⟩)
 | .nilPtr,v=>v= .pointer none
 | .slice b o n es,v=>∃e ca cap,m b=some e∧v= .slice (some ca) n cap∧n≤cap∧(0 < cap→ca= ⟨e.cb,o+e.d,none⟩)∧o+e.d+cap * es≤e.sz
 | .af,v=>v= .slice none 0 0
 | .map r,v=>∃e,m r=some e∧v= .map (some e.cb)
 | .cR,v=>v= .map none
 | .func f a c,v=>∃f' a' c',v= .func f' ⟨a'⟩ ⟨c'⟩∧zT m f f'∧cH m a a'∧cH m c c'
 | .nilFunc,v=>v= .nilFunc
 | .agg l,v=>∃l',v= .agg ⟨l'⟩∧cH m l l'
 | .dJ l,v=>∃l',v= .tuple ⟨l'⟩∧cH m l l'
 | .pW u a,v=>∃v',v= .iface u v'∧VR m a v'
 | .jY,v=>v= .nilIface
def cH(m:bY):List AV→List Value→Prop
 | [],vs=>vs= []
 | x::xs,vs=>∃y ys,vs=y::ys∧VR m x y∧cH m xs ys
end
def zT.mono{m m'}(h:m.le m'):∀{f g},zT m f g→zT m' f g:=by
 intro f g hf;cases f<;>simp only[zT]at hf ⊢<;>try exact hf
 obtain⟨e,he,hg⟩:=hf;exact⟨e,h _ _ he,hg⟩
mutual
theorem VR.mono{m m'}(h:m.le m'):∀ (a:AV) (v:Value),VR m a v→VR m' a v
 | .bool _,v,hv=>hv
 | .int _ _,v,hv=>hv
 | .vT _ _,v,hv=>hv
 | .vF _ _ _,v,hv=>hv
 | .str _,v,hv=>hv
 | .ptr b o,v,hv=>by
  obtain⟨e,he,hv⟩:=(show ∃e,m b=some e∧v= .pointer (some ⟨e.cb,o+e.d,none⟩)from hv);exact⟨e,h _ _ he,hv⟩
 | .nilPtr,v,hv=>hv
 | .slice b o n es,v,hv=>by
  obtain⟨e,ca,cap,he,hr⟩:=(show ∃e ca cap,m b=some e∧v= .slice (some ca) n cap∧n≤cap∧(0 < cap→ca= ⟨e.cb,o+e.d,none⟩)∧o+e.d+cap * es≤e.sz from hv);exact⟨e,ca,cap,h _ _ he,hr⟩
 | .af,v,hv=>hv
 | .map r,v,hv=>by
  obtain⟨e,he,hv⟩:=(show ∃e,m r=some e∧v= .map (some e.cb)from hv);exact⟨e,h _ _ he,hv⟩
 | .cR,v,hv=>hv
 | .func f a c,v,hv=>by
  obtain⟨f',a',c',hv,hf,ha,hc⟩:=(show ∃f' a' c',v= .func f' ⟨a'⟩ ⟨c'⟩∧zT m f f'∧cH m a a'∧cH m c c' from hv);exact⟨f',a',c',hv,hf.mono h,cH.mono h a a' ha,cH.mono h c c' hc⟩
 | .nilFunc,v,hv=>hv
 | .agg l,v,hv=>by
  obtain⟨l',hv,hl⟩:=(show ∃l',v= .agg ⟨l'⟩∧cH m l l' from hv);exact⟨l',hv,cH.mono h l l' hl⟩
 | .dJ l,v,hv=>by
  obtain⟨l',hv,hl⟩:=(show ∃l',v= .tuple ⟨l'⟩∧cH m l l' from hv);exact⟨l',hv,cH.mono h l l' hl⟩
 | .pW u a,v,hv=>by
  obtain⟨v',hv,ha⟩:=(show ∃v',v= .iface u v'∧VR m a v' from hv);exact⟨v',hv,VR.mono h a v' ha⟩
 | .jY,v,hv=>hv
theorem cH.mono{m m'}(h:m.le m'):∀ (l:List AV) (vs:List Value),cH m l vs→cH m' l vs
 | [],_,hv=>hv
 | x::xs,vs,hv=>by
  obtain⟨y,ys,hv,hx,To⟩:=(show ∃y ys,vs=y::ys∧VR m x y∧cH m xs ys from hv);exact⟨y,ys,hv,VR.mono h x y hx,cH.mono h xs ys To⟩
end
def bC{m vs}:cH m [] vs↔vs= []:=Iff.rfl
def aS{m x xs vs}:cH m (x::xs) vs↔∃y ys,vs=y::ys∧VR m x y∧cH m xs ys:=Iff.rfl
theorem cH.length{m}:∀{l} {vs},cH m l vs→vs.length=l.length
 | [],_,h=>by rw[bC]at h;simp[h]
 | x::xs,vs,h=>by
  obtain⟨y,ys,rfl,_,To⟩:=aS.1 h;simp[cH.length To]
theorem cH.get{m:bY}:∀{l:List AV} {vs:List Value},cH m l vs→∀{i:Nat} {x:AV},l[i]? =some x→∃y,vs[i]? =some y∧VR m x y
 | [],_,_,i,x,h=>by simp at h
 | z::zs,vs,h,i,x,hx=>by
  obtain⟨y,ys,rfl,hy,hys⟩:=aS.1 h;cases i with
  | zero=>simp at hx;subst hx;exact⟨y,Si,hy⟩
  | succ i=>simp at hx;simpa using cH.get hys hx
theorem cH.gL{m}:∀{l} {vs},vs.length=l.length→(∀ (i:Nat) (x:AV),l[i]? =some x→∃y,vs[i]? =some y∧VR m x y)→cH m l vs
 | [],vs,hl,_=>by rw[bC];exact Yw.1 (by simpa using hl)
 | x::xs,[],hl,_=>by simp at hl
 | x::xs,v::vs,hl,h=>by
  refine aS.2 ⟨v,vs,rfl,?_,cH.gL (by simpa using hl) fun i z hz=>?_⟩
  ·obtain⟨y,hy,hr⟩:=h 0 x Si;simp at hy;subst hy;exact hr
  ·obtain⟨y,hy,hr⟩:=h (i+1) z (by simpa using hz);exact⟨y,by simpa using hy,hr⟩
theorem cH.append{m}:∀{a b} {va vb},cH m a va→cH m b vb→cH m (a++b) (va++vb)
 | [],b,va,vb,ha,hb=>by rw[bC]at ha;subst ha;simpa using hb
 | x::xs,b,va,vb,ha,hb=>by
  obtain⟨y,ys,rfl,hy,hys⟩:=aS.1 ha;exact aS.2 ⟨y,ys++vb,Si,hy,cH.append hys hb⟩
theorem cH.set{m:bY}{l:List AV}{vs:List Value}(h:cH m l vs)(i:Nat){x:AV}{v:Value}(hx:VR m x v):cH m (l.set i x) (vs.set i v):=by
 refine cH.gL (by simp[h.length]) fun j z hz=>?_
 rw[List.getElem?_set]at hz ⊢;by_cases hij:i=j
 ·simp only[hij,XR]at hz ⊢;split at hz
  ·simp only[X1]at hz;subst hz;rename_i hlt;exact⟨v,by simp[h.length,hlt],hx⟩
  ·simp at hz
 ·simp only[hij,XO]at hz ⊢;exact h.get hz
theorem cH.take{m}:∀{l} {vs} (n:Nat),cH m l vs→cH m (l.take n) (vs.take n)
 | [],vs,n,h=>by rw[bC]at h;subst h;simp[bC]
 | x::xs,vs,0,h=>by simp[bC]
 | x::xs,vs,n+1,h=>by
  obtain⟨y,ys,rfl,hy,hys⟩:=aS.1 h;exact aS.2 ⟨y,ys.take n,Si,hy,cH.take n hys⟩
theorem cH.drop{m}:∀{l} {vs} (n:Nat),cH m l vs→cH m (l.drop n) (vs.drop n)
 | [],vs,n,h=>by rw[bC]at h;subst h;simp[bC]
 | x::xs,vs,0,h=>by simpa using h
 | x::xs,vs,n+1,h=>by
  obtain⟨y,ys,rfl,hy,hys⟩:=aS.1 h
  simpa using cH.drop n hys
theorem VR.one{m x v}(h:VR m x v)(hx:x.one=true):v.cells=#[v]:=by
 exact PC
def VR.tv{m x v}(h:VR m x v)(hx:x.one=true):v.oneCell' =true:=by
 exact PC
theorem VR.cells{m x v}(h:VR m x v):cH m x.cells v.cells.toList:=by
 by_cases hx:x.one=true
 ·have hc:x.cells= [x]:=by cases x<;>first| rfl| cases hx
  rw[h.one hx,hc];exact aS.2 ⟨v,[],rfl,h,bC.2 rfl⟩
 ·cases x with
  | agg l=>rw[VR]at h;obtain⟨l',rfl,hl⟩:=h;exact hl
  | dJ l=>exact aS.2 ⟨v,[],by rw[VR]at h;obtain⟨l',rfl,hl⟩:=h;rfl,h,bC.2 rfl⟩
  | jY=>exact aS.2 ⟨v,[],by rw[VR]at h;subst h;rfl,h,bC.2 rfl⟩
  | _=>exact absurd rfl hx
def val(ts:TS):cW→AV
 | .t i=>ts.getD i aB
 | .c v=>v
 | .g i=>.ptr i 0
 | .f i=>.func (.func i) [] []
def put(ts:TS)(d:Option Nat)(v:AV):TS:=
 match d with
 | some d=>ts.set d v
 | none=>ts
def wanted(g:Option (Nat×Bool))(ts:TS):Prop:=
 match g with
 | none=>True
 | some (t,b)=>ts[t]? =some (.bool b)
def dY(h:ah)(b:Nat):Bool:=
 match h[b]? with
 | some (.cells _ _ tl)=>tl
 | _=>false
def lT:Nat→Value→Option AV
 | 0,_=>none
 | n+1,v=>
  match v with
  | .bool b=>some (.bool b)
  | .int k i=>some (.int k i)
  | .float k b=>some (.vT k b)
  | .complex k x y=>some (.vF k x y)
  | .string s=>some (.str s.data.toList)
  | .pointer none=>some .nilPtr
  | .slice none 0 0=>some .af
  | .map none=>some .cR
  | .nilFunc=>some .nilFunc
  | .agg cs=>(cs.toList.mapM (lT n)).map .agg
  | .tuple cs=>(cs.toList.mapM (lT n)).map .dJ
  | _=>none
def cQ:Operand→Option cW
 | .tmp t=>some (.t t)
 | .const v=>(lT 4 v).map .c
 | .global g=>some (.g g)
 | .func f=>some (.f f)
def Ds:Operand→Option cW
 | .global _=>none
 | x=>cQ x
def ye(l:Array Operand):Option (List cW):=l.toList.mapM cQ
def uH:Option Operand→Option (Option cW)
 | none=>some none
 | some x=>(cQ x).map some
def jC:TypeDesc→Bool
 | .struct _=>true
 | .array _ _=>true
 | _=>false
def zY(P:Program)(t:TypeId):Option (Option Nat):=
 match P.underlying t with
 | some d=>if jC d then(P.info? t).map fun i=>some i.size else some none
 | none=>none
def dP(P:Program)(t:TypeId):Option Nat:=(P.info? t).map (·.size)
def jk(P:Program)(t:TypeId):Option AV:=(P.info? t).bind fun i=>i.zero.bind (lT 4)
def vz(P:Program)(F:TypeId→Option (List CK)):List Field→Nat→Option (List CK)
 | [],_=>some []
 | f::fs,off=>
  match F f.type,P.info? f.type with
  | some ks,some i=>
   if f.name≠ "_"∧f.offset=off∧i.size=ks.length∧0 < ks.length then
    match vz P F fs (off+ks.length)with
    | some r=>some (ks++r)
    | none=>none
   else none
  | _,_=>none
def flat(P:Program):Nat→TypeId→Option (List CK)
 | 0,_=>none
 | d+1,t=>
  match P.underlying t with
  | some .bool=>some [.b]
  | some (.int _)=>some [.i]
  | some .string=>some [.s]
  | some (.struct fs)=>if P.stoodInHeld t=false then vz P (flat P d) fs.toList 0 else none
  | some (.array len e)=>
   match flat P d e,P.info? e with
   | some ks,some i=>if i.size=ks.length∧0 < ks.length then some (List.replicate len ks).flatten else none
   | _,_=>none
  | _=>none
def Ho(P:Program)(neg:Bool)(t:TypeId)(x y:cW):Option oA:=
 match P.underlying t with
 | some (.int _)=>some (.bin (if neg then .neq else .eql) x y)
 | some .string=>some (.bin (if neg then .neq else .eql) x y)
 | some (.float _)=>some (.bin (if neg then .neq else .eql) x y)
 | some .bool=>some (.eqv neg (.one .b) x y)
 | some (.struct _)=>if P.eqGuardType P.depth t=false then(flat P 20 t).map fun ks=>.eqv neg (.agg ks) x y else none
 | some (.array _ _)=>if P.eqGuardType P.depth t=false then(flat P 20 t).map fun ks=>.eqv neg (.agg ks) x y else none
 | some (.slice _)=>some (.eqv neg .wR x y)
 | some (.pointer _)=>some (.eqv neg .wS x y)
 | some (.func _ _ _)=>some (.eqv neg .oQ x y)
 | some (.map _ _)=>some (.eqv neg .Kk x y)
 | _=>none
def DL(P:Program)(e:TypeId):Bool:=
 match P.underlying e with
 | some (.int .u8)=>true
 | _=>false
def BW(P:Program)(s d:TypeId):Option yL:=
 match P.underlying s,P.underlying d with
 | some (.int _),some (.int k)=>some (.tE k)
 | some (.int _),some (.float k)=>some (.NM k)
 | some (.float _),some (.int k)=>some (.N2 k)
 | some (.float _),some (.float k)=>some (.N3 k)
 | some .string,some .string=>some .same
 | some .string,some (.slice e)=>if DL P e=true then some .ML else none
 | some (.slice e),some .string=>if DL P e=true then some .Iv else none
 | _,_=>none
def fieldAt(P:Program)(t:TypeId)(i:Nat):Option Field:=
 match P.underlying t with
 | some (.struct fs)=>fs[i]?
 | _=>none
def jo(P:Program)(t:TypeId)(i:Nat):Option (Nat×Nat):=
 match P.underlying t with
 | some (.struct fs)=>
  match fs.toList.mapM (fun f=>(P.info? f.type).map fun i=>(f.offset,i.size))with
  | some places=>places[i]?
  | none=>none
 | some (.array _ e)=>(P.info? e).map fun ie=>(i * ie.size,ie.size)
 | _=>none
def nD(P:Program)(t:TypeId):Bool:=
 match P.underlying t with
 | some (.struct fs)=>(fs.toList.mapM (fun f=>(P.info? f.type).map fun i=>(f.offset,i.size))).isSome
 | some (.array _ e)=>(P.info? e).isSome
 | _=>false
def lO(P:Program)(t:TypeId):List (Nat×Operand)→Option (List (Nat×Nat×cW))
 | []=>some []
 | (i,x)::r=>
  match jo P t i,cQ x,lO P t r with
  | some (off,n),some y,some r=>some ((off,n,y)::r)
  | _,_,_=>none
def dQ(P:Program)(t:TypeId):Option (TypeId×TypeInfo):=
 match P.underlying t with
 | some (.slice e)=>(P.info? e).map fun i=>(e,i)
 | _=>none
def nS(P:Program)(b:Builtin)(ts:Array TypeId)(args:List cW):Option oA:=
 match b,args with
 | .len,[x]=>
  match (ts[0]?).bind P.underlying with
  | some (.slice _)=>some (.len .sl x)
  | some .string=>some (.len .st x)
  | some (.map _ _)=>some (.len .mp x)
  | some (.array n _)=>some (.zi n)
  | _=>none
 | .append,[x,y]=>
  match (ts[0]?).bind (dQ P),(ts[1]?).bind P.underlying with
  | some (_,i),some (.slice _)=>if 0 < i.size∧0 < i.bytes∧i.bytes≤2^20 then(i.zero.bind (lT 4)).bind fun z=>if z.cells.length=i.size then some (.app i.size i.bytes x y)else none else none
  | some (_,i),some .string=>if 0 < i.size∧0 < i.bytes∧i.bytes≤2^20 then(i.zero.bind (lT 4)).bind fun z=>if z.cells.length=i.size then some (.app i.size i.bytes x y)else none else none
  | _,_=>none
 | .copy,[x,y]=>
  match (ts[0]?).bind (dQ P)with
  | some (_,i)=>if 0 < i.size then some (.vU i.size x y)else none
  | _=>none
 | .max,x::l=>some (.mx x l)
 | .min,x::l=>some (.mn x l)
 | _,_=>none
def wT(P:Program)(t:TypeId):Option CK:=
 match P.underlying t with
 | some (.int _)=>some .i
 | some .string=>some .s
 | some .bool=>some .b
 | _=>none
def Bn:Fn→Bool
 | .yield _=>false
 | _=>true
def dV(P:Program)(o:Oper):Option oA:=
 match o.op with
 | .move x=>(cQ x).map .aI
 | .assign x=>(cQ x).map .aI
 | .pick c a b=>
  match cQ c,cQ a,cQ b with
  | some c,some a,some b=>some (.pick c a b)
  | _,_,_=>none
 | .alloc e=>
  match jk P e with
  | some z=>if z.cells.all AV.one then some (.box (.c z))else none
  | none=>none
 | .box _ x=>(cQ x).map .box
 | .build t ps=>
  match jk P t,lO P t ps.toList with
  | some z,some l=>if nD P t=true then some (.build z.cells l)else none
  | _,_=>none
 | .buildSlice t n ps=>
  match dQ P t with
  | some (e,i)=>
   match jk P e,ps.toList.mapM fun p=>(cQ p.2).map fun y=>(p.1 * i.size,y)with
   | some z,some l=>if 0 < i.size∧z.cells.length=i.size∧z.cells.all AV.one∧n * i.size≤2^24 then some (.aG i.size n z.cells l)else none
   | _,_=>none
  | none=>none
 | .load t a=>
  match zY P t,cQ a with
  | some n,some a=>some (.load n a)
  | _,_=>none
 | .store t a x=>
  match dP P t,cQ a,cQ x with
  | some n,some a,some x=>some (.store n a x)
  | _,_,_=>none
 | .nilCheck x=>(cQ x).map .bt
 | .binOp op t x y _=>
  match cQ x,cQ y with
  | some x,some y=>
   match op with
   | .eql=>Ho P false t x y
   | .neq=>Ho P true t x y
   | _=>some (.bin op x y)
  | _,_=>none
 | .unOp op _ x=>(cQ x).map (.un op)
 | .convert s d x=>
  match BW P s d,cQ x with
  | some k,some x=>some (.conv k x)
  | _,_=>none
 | .makeInterface t x=>
  match P.underlying t,cQ x with
  | some (.interface _),_=>none
  | some _,some x=>some (.conv (.pW t) x)
  | _,_=>none
 | .makeFunc fn a c=>
  if Bn fn=true then
   match ye a,ye c with
   | some a,some c=>some (.kH fn a c)
   | _,_=>none
  else none
 | .makeMap _ none=>some .kZ
 | .makeSlice t l c=>
  match dQ P t,cQ l,cQ c with
  | some (e,i),some l,some c=>
   match jk P e with
   | some z=>if 0 < i.size∧z.cells.length=i.size∧z.cells.all AV.one then some (.rH i.size i.bytes z.cells l c)else none
   | none=>none
  | _,_,_=>none
 | .slice t x lo hi none=>
  match cQ x,uH lo,uH hi with
  | some x,some lo,some hi=>
   match P.underlying t with
   | some .string=>some (.pr x lo hi)
   | some (.slice e)=>(dP P e).map fun n=>.sl n x lo hi
   | some (.array k e)=>(dP P e).map fun n=>.LV k n x lo hi
   | _=>none
  | _,_,_=>none
 | .fieldAddr t x i=>
  match fieldAt P t i,cQ x with
  | some f,some x=>
   match dP P f.type with
   | some n=>if 0 < n then some (.aR f.offset x)else none
   | none=>none
  | _,_=>none
 | .indexAddr t x i=>
  match cQ x,cQ i with
  | some x,some i=>
   match P.underlying t with
   | some (.slice e)=>(dP P e).map fun n=>.ba n x i
   | some (.array k e)=>(dP P e).map fun n=>.rJ k n x i
   | _=>none
  | _,_=>none
 | .field t x i=>
  match fieldAt P t i,cQ x with
  | some f,some x=>(zY P f.type).map fun n=>.part n f.offset x
  | _,_=>none
 | .index t x i=>
  match cQ x,cQ i with
  | some x,some i=>
   match P.underlying t with
   | some .string=>some (.pV x i)
   | some (.array k e)=>
    match dP P e,zY P e with
    | some n,some q=>some (.It k n q x i)
    | _,_=>none
   | _=>none
  | _,_=>none
 | .lookup t m k ok=>
  match P.underlying t,cQ m,cQ k with
  | some (.map kt e),some m,some k=>
   match wT P kt,jk P e with
   | some kk,some z=>some (.look kk z ok m k)
   | _,_=>none
  | _,_,_=>none
 | .mapUpdate t m k x=>
  match P.underlying t,cQ m,cQ k,cQ x with
  | some (.map kt _),some m,some k,some x=>(wT P kt).map fun kk=>.e9 kk m k x
  | _,_,_,_=>none
 | .insert t m k x=>
  match P.underlying t,cQ m,cQ k,cQ x with
  | some (.map kt _),some m,some k,some x=>(wT P kt).map fun kk=>.e9 kk m k x
  | _,_,_,_=>none
 | .range t x=>
  match P.underlying t with
  | some .string=>(cQ x).map .wq
  | _=>none
 | .next x true=>(cQ x).map .nF
 | .extract x i=>(cQ x).map fun x=>.ext x i
 | .call c=>
  match ye c.args with
  | some l=>
   match c.callee with
   | .value f=>(cQ f).map fun f=>.call f l
   | .invoke r name=>(cQ r).map fun r=>.call (.c (.func (.method name) [] [])) (r::l)
   | .builtin b=>nS P b c.argTypes l
  | none=>none
 | _=>none
def tF(ops:Array Oper)(g:Option (Nat×Bool)):Option (Option (Nat×Bool)):=
 match g with
 | none=>some none
 | some (j,b)=>((ops[j]?).bind (·.dst)).map fun d=>some (d,b)
def LX(P:Program):Operand→Bool
 | .global g=>decide (g < P.globals.size)
 | _=>true
def bQ(P:Program)(ops:Array Oper)(q:Bool)(o:Oper):Option bJ:=
 match tF ops o.guard with
 | some g=>some { dst:=o.dst,k:=if o.op.operands.all (LX P)then(dV P o).getD .bad else .bad,gd:=g,q:=q }
 | none=>none
def ahead(M:Array Nat)(i j:Nat):Bool:=(M.getD j 0).testBit i
def j7(M:Array Nat)(ops:Array Oper):Bool:=
 (List.range ops.size).all fun j=>
  match ops[j]? with
  | none=>true
  | some o=>
   (o.after.toList.all fun e=>!Region.binds .any e|| decide (e.on < j)) &&
   ((List.range ops.size).all fun i=>!ahead M i j|| o.after.toList.any fun e=>Region.binds .any e && (e.on==i|| ahead M i e.on))
def lE(M:Array Nat)(ops:Array Oper):Bool:=
 (List.range ops.size).all fun j=>
  (List.range j).all fun i=>
   match ops[i]?,ops[j]? with
   | some x,some y=>
    (match x.dst with
     | some d=>y.dst !=some d && (!(y.looksAt ops).contains d|| ahead M i j)
     | none=>true) &&
    (match y.dst with
     | some d=>!(x.looksAt ops).contains d|| ahead M i j
     | none=>true)
   | _,_=>true
def gx(M:Array Nat)(n j:Nat):Bool:=
 (List.range n).all fun i=>i==j|| (if i < j then ahead M i j else ahead M j i)
def ep{α β:Type}(f:Nat→α→Option β):List α→Nat→Option (List β)
 | [],_=>some []
 | x::xs,i=>
  match f i x,ep f xs (i+1)with
  | some y,some ys=>some (y::ys)
  | _,_=>none
def w7:AV→Bool
 | .bool _=>true
 | .int _ _=>true
 | .vT _ _=>true
 | .vF _ _ _=>true
 | .str _=>true
 | .nilPtr=>true
 | .af=>true
 | .cR=>true
 | .nilFunc=>true
 | _=>false
def lC(o:bJ):Option (Nat×Nat×cW):=
 match o.dst,o.k,o.gd,o.q with
 | none,.store n (.t t) x,none,true=>some (n,t,x)
 | _,_,_,_=>none
def sV(o:bJ):Option (Nat×AV):=
 match o.dst,o.k,o.gd,o.q with
 | some t,.box (.c z),none,true=>some (t,z)
 | _,_,_,_=>none
def fj(ops:Array Oper)(j t:Nat):Bool:=
 match ops[j]? with
 | some o=>(o.looksAt ops).contains t
 | none=>false
def oP(ops:Array Oper)(l:List bJ)(k s:Nat):Bool:=
 match (l[k]?).bind sV,(l[s]?).bind lC with
 | some (t,z),some (n,t',x)=>
  t==t' && z.cells.length==n && z.cells.all w7 && (match x with| .t u=>u !=t && fj ops s u| _=>true) && fj ops s t && (List.range ops.size).all fun j=>j==s|| !fj ops j t
 | _,_=>false
def NK(ops:Array Oper)(l:List bJ)(s:Nat):Option Nat:=(List.range s).find? fun k=>oP ops l k s
def MJ(ops:Array Oper)(l:List bJ)(k:Nat):Option Nat:=(List.range l.length).find? fun s=>decide (k < s) && oP ops l k s
def sO(ops:Array Oper)(l:List bJ)(j:Nat)(o:bJ):bJ:=
 match lC o with
 | some (n,t,x)=>
  match NK ops l j with
  | some _=>{ dst:=some t,k:=.mQ n x,gd:=none,q:=true }
  | none=>o
 | none=>
  match sV o with
  | some _=>
   match MJ ops l j with
   | some _=>{ dst:=none,k:=.aI (.c (.bool false)),gd:=none,q:=true }
   | none=>o
  | none=>o
def pL(ops:Array Oper)(l:List bJ):Nat→List bJ→List bJ
 | _,[]=>[]
 | j,o::r=>sO ops l j o::pL ops l (j+1) r
def cK(P:Program)(ops:Array Oper)(draw:Bool):Option (List bJ):=
 if draw then
  let M:=Region.before ops
  if j7 M ops && lE M ops then
   (ep (fun i o=>bQ P ops (!gx M ops.size i) o) ops.toList 0).map fun l=>pL ops l 0 l
  else none
 else ep (fun _ o=>bQ P ops false o) ops.toList 0
def ff:oA→Bool
 | .aI _=>true
 | .pick _ _ _=>true
 | .bin _ _ _=>true
 | .eqv _ _ _ _=>true
 | .un _ _=>true
 | .conv (.tE _) _=>true
 | .aR _ _=>true
 | .rJ _ _ _ _=>true
 | .ba _ _ _=>true
 | .part _ _ _=>true
 | .It _ _ _ _ _=>true
 | .pV _ _=>true
 | .ext _ _=>true
 | .bt _=>true
 | .mx _ _=>true
 | .mn _ _=>true
 | .build _ _=>true
 | .pr _ _ _=>true
 | .sl _ _ _ _=>true
 | .zi _=>true
 | .kH _ _ _=>true
 | .len .sl _=>true
 | .len .st _=>true
 | _=>false
def cD:oA→Bool
 | .load _ _=>true
 | k=>ff k
def Cd:oA→Bool
 | .box _=>true
 | .aG _ _ _ _=>true
 | .kZ=>true
 | _=>false
def DO:oA→Bool
 | .call _ _=>true
 | _=>false
def kf(o:bJ):Bool:=Cd o.k|| (o.q && DO o.k)
def DN(o:Oper):Bool:=
 match o.op with
 | .call c=>
  match c.callee with
  | .builtin _=>false
  | _=>true
 | _=>false
def DM(o:Oper):Bool:=
 o.guard.isNone && match o.op with
 | .load _ _=>true
 | _=>false
def rI(c:Nat)(o:Oper):Bool:=(decide (1≤c) && DN o)|| (decide (2≤c) && DM o)
def l9(o:bJ):Bool:=
 o.q && match o.k with
 | .load _ _=>true
 | _=>false
def nH(M:Array Nat)(l:List bJ):Bool:=
 (List.range l.length).all fun j=>
  (List.range j).all fun i=>
   match l[i]?,l[j]? with
   | some x,some y=>ff x.k|| ff y.k|| l9 x|| l9 y|| (cD x.k && (cD y.k|| kf y))|| (kf x && cD y.k)|| ahead M i j
   | _,_=>true
def yb(o:bJ):Bool:=
 o.q && match o.k with
  | .store _ _ _=>true
  | _=>false
def KT(o:bJ):Bool:=
 o.q && match o.k with
  | .store _ _ _=>true
  | .app _ _ _ _=>true
  | .vU _ _ _=>true
  | .e9 _ _ _ _=>true
  | _=>false
def Bz(o:bJ):Bool:=ff o.k|| match o.k with
 | .store _ _ _=>true
 | _=>false
def KL(o:bJ):Bool:=match o.k with
 | .store _ _ _=>true
 | _=>false
def jZ(l:List bJ):Bool:=l.all Bz && decide ((l.filter KL).length≤2)
def dC:List bJ→Nat
 | []=>0
 | o::r=>if jZ (o::r)=true then 0 else dC r+1
def mK(M:Array Nat)(l:List bJ):Bool:=
 (List.range l.length).all fun i=>
  match l[i]? with
  | some x=>!l9 x|| (List.range l.length).all fun j=>
    match l[j]? with
    | some y=>cD y.k|| decide (j < dC l)|| ahead M i j
    | none=>true
  | none=>true
def qO(M:Array Nat)(l:List bJ)(f:Nat):Bool:=
 (List.range l.length).all fun j=>
  (List.range j).all fun i=>
   match l[i]?,l[j]? with
   | some x,some y=>ff x.k|| ff y.k|| l9 x|| l9 y|| decide (j=f)|| ahead M i j
   | _,_=>true
def vw(ops:Array Oper)(l:List bJ)(f:Nat):Bool:=
 match l[f]? with
 | some { dst:=some d,k:=.aG _ _ z ps,gd:=none,q:=_ }=>z.all w7 && ps.all (fun p=>match p.2 with| .t u=>fj ops f u| _=>false) && (List.range l.length).all fun j=>
   match l[j]? with
   | some o=>!cD o.k|| ((ff o.k|| l9 o) && !fj ops j d)
   | none=>true
 | _=>false
def FD(M:Array Nat)(ops:Array Oper)(l:List bJ):Option Nat:=(List.range l.length).find? fun f=>vw ops l f && qO M l f
def Lo(l:List bJ):Bool:=l.any fun o=>o.q && match o.k with
 | .app _ _ (.t d) _=>l.any fun p=>p.dst==some d && match p.k with
  | .app _ _ _ _=>true
  | _=>false
 | _=>false
def mP(P:Program)(ops:Array Oper)(draw:Bool):Option aj:=
 match cK P ops draw with
 | none=>none
 | some l=>
  if l.any KT=true∧draw=true then
   match ep (fun _ o=>bQ P ops (rI 0 o) o) ops.toList 0,ep (fun _ o=>bQ P ops (rI 1 o) o) ops.toList 0,ep (fun _ o=>bQ P ops (rI 2 o) o) ops.toList 0 with
   | some l',some l2,some l3=>if(nH (Region.before ops) l' && !l'.any l9)=true then some (.ops l')else if(nH (Region.before ops) l2 && !l2.any l9)=true then some (.ops l2)else if(l.any yb && (FD (Region.before ops) ops l3).isSome && mK (Region.before ops) l3)=true then some (.kX l3)else if l.any yb=true then(if(decide (2 < (l.filter KL).length) && nH (Region.before ops) l3 && mK (Region.before ops) l3)=true then some (.kX l3)else some (.rF l'))else if(nH (Region.before ops) l3 && mK (Region.before ops) l3)=true then some (.kX l3)else if(Lo l && (FD (Region.before ops) ops l3).isSome && mK (Region.before ops) l3)=true then some (.kX l3)else some (.ops l)
   | _,_,_=>none
  else some (.ops l)
def compile(P:Program):Code→Option aj
 | .skip=>some .skip
 | .region _ ops draw=>mP P ops draw
 | .seq a b=>
  match compile P a,compile P b with
  | some x,some y=>some (.seq x y)
  | _,_=>none
 | .cond c a b=>
  match Ds c,compile P a,compile P b with
  | some c,some x,some y=>some (.cond c x y)
  | _,_,_=>none
 | .block id a=>(compile P a).map (.block id)
 | .loop a=>(compile P a).map .loop
 | .exit id=>some (.exit id)
 | .ret=>some .ret
 | .label _=>some .skip
 | .scope a=>compile P a
 | .rangeFunc g ps asg body=>
  match Ds g,compile P asg,compile P body with
  | some g,some x,some y=>some (.eA g ps.toList x y)
  | _,_,_=>none
 | .goto _=>some .bad
 | .refuse _=>some .bad
structure ay where
 nt:Nat
 np:Nat
 rs:List (Nat×Option (Option Nat))
 body:aj
def tr(P:Program):ResultVar→Option (Nat×Option (Option Nat))
 | .tmp t=>some (t,none)
 | .cell a t=>(zY P t).map fun n=>(a,some n)
def ai(P:Program)(f:FuncId):Option ay:=
 match P.funcs[f]? with
 | none=>none
 | some fn=>
  match fn.body with
  | none=>none
  | some c=>
   match compile P c,fn.results.toList.mapM (tr P)with
   | some b,some rs=>if fn.name== "runtime.NumGoroutine" then none else some { nt:=fn.ntmps,np:=fn.params.size,rs:=rs,body:=b }
   | _,_=>none
def DR(P:Program)(g:Nat):Nat:=
 match P.globals[g]? with
 | some G=>
  match P.info? G.type with
  | some i=>i.size
  | none=>0
 | none=>0
def BR(P:Program)(m:bY)(w:World)(e:rQ):aq→Prop
 | .cells c mu tl=>∃cc el fz,w.heap[e.cb]? =some (.cells cc el fz)∧(e.d+c.length≤cc.size∧e.d+c.length≤e.sz∧cc.size=e.sz)∧
   (∀ (i:Nat) (x:AV),c[i]? =some x→x.one=true∧∃v,cc[e.d+i]? =some v∧VR m x v)∧
   (e.own=true→cc.size=e.sz∧∀i,i < cc.size→¬ (fz.1≤i∧i < fz.2))∧((mu=true∨tl=true)→e.own=true∧(tl=false→e.sz=e.d+c.length))
 | .dead=>True
 | .bn es=>e.own=true∧∃Ss clock,w.heap[e.cb]? =some (.map Ss clock)∧Ss.size=es.length∧
   ∀ (i:Nat) (p:AV×AV),es[i]? =some p→∃q,Ss[i]? =some q∧VR m p.1 q.key∧VR m p.2 q.val
 | .iter s pos=>e.own=true∧e.d=0∧w.heap[e.cb]? =some (.stringIter ⟨⟨s⟩⟩ pos)
 | .loop st ex ts ps asg body=>e.own=true∧∃fn tmps Rh QN df,w.heap[e.cb]? =some (.loop { state:=st,pending:=ex.jump,fn:=fn,tmps:=tmps,params:=⟨ps⟩,assign:=Rh,body:=QN,defers:=df })∧
   cH m ts tmps.toList∧compile P Rh=some asg∧compile P QN=some body
def aq.live:aq→Bool
 | .dead=>false
 | _=>true
def pv(e1 e2:rQ):aq→aq→Prop
 | .cells c1 mu1 tl1,.cells c2 mu2 tl2=>mu1=false∧mu2=false∧(tl1=true→tl2=false∧e2.d+c2.length≤e1.d+c1.length)
 | .dead,_=>True
 | _,.dead=>True
 | _,_=>False
structure HR(P:Program)(m:bY)(h:ah)(w:World):Prop where
 cI:∀b e,m b=some e→b < h.length
 dN:∀b e k,m b=some e→h[b]? =some k→BR P m w e k
 sep:∀b1 b2 e1 e2 k1 k2,b1≠b2→m b1=some e1→m b2=some e2→h[b1]? =some k1→h[b2]? =some k2→e1.cb=e2.cb→pv e1 e2 k1 k2
 fN:∀g,g < P.globals.size→∃e,m g=some e∧e.cb=g∧e.d=0∧e.own=false∧e.sz=DR P g
 lt:∀b e,m b=some e→e.cb < w.heap.size
structure Grow(m:bY)(h:ah)(w:World)(m':bY)(h':ah)(w':World):Prop where
 ext:∀b,b < h.length→m' b=m b
 len:h.length≤h'.length
 new:∀b e,h.length≤b→m' b=some e→e.own=true∧(w.heap.size≤e.cb∨∃b0 e0,m b0=some e0∧e0.cb=e.cb∧e0.own=true∧dY h b0=true∧dY h' b0=false)
 tl:∀b,b < h.length→dY h' b=true→dY h b=true
 size:w.heap.size≤w'.heap.size
 os:w'.os=w.os
 out:w'.output=w.output
 tape:w'.tape=w.tape
 frame:∀i,i < w.heap.size→(∀b e,m b=some e→e.own=true→e.cb≠i)→w'.heap[i]? =w.heap[i]?
def Grow.refl(m:bY)(h:ah)(w:World)(hd:∀b e,m b=some e→b < h.length):Grow m h w m h w where
 ext:=fun _ _=>rfl
 len:=XH _
 new:=fun b e hb he=>absurd (hd b e he) Om
 tl:=fun _ _ h=>h
 size:=XH _
 os:=rfl
 out:=rfl
 tape:=rfl
 frame:=fun _ _ _=>rfl
theorem Grow.le{m m' h h' w w'}(g:Grow m h w m' h' w')(hd:∀b e,m b=some e→b < h.length):m.le m':=
 fun b e he=>by rw[g.ext b (hd b e he)];exact he
theorem Grow.trans{m m1 m2 h h1 h2 w w1 w2}(a:Grow m h w m1 h1 w1)(b:Grow m1 h1 w1 m2 h2 w2)
  (hd:∀b e,m b=some e→b < h.length):Grow m h w m2 h2 w2 where
 ext:=fun i hi=>(b.ext i (Ym hi a.len)).trans (a.ext i hi)
 len:=Yi a.len b.len
 new:=by
  intro i e hi he;by_cases h1i:h1.length≤i
  ·obtain⟨ho,hc⟩:=b.new i e h1i he;refine⟨ho,?_⟩;rcases hc with hc| ⟨b0,e0,Rx,hcb,ho0,Sy,UZ⟩
   ·exact .inl (Yi a.size hc)
   ·by_cases hb:h.length≤b0
    ·obtain⟨_,hc0⟩:=a.new b0 e0 hb Rx;rcases hc0 with hc0| ⟨b00,e00,hb00,Xj,ho00,ht00,VC⟩
     ·exact .inl (hcb▸hc0)
     ·refine .inr ⟨b00,e00,hb00,Xj.trans hcb,ho00,ht00,?_⟩;cases hx:dY h2 b00 with
      | false=>rfl
      | true=>
       have hlt:=hd _ _ hb00;rw[b.tl b00 (Ym hlt a.len) hx]at VC;cases VC
    ·have hlt:b0 < h.length:=Om
     rw[a.ext b0 hlt]at Rx;exact .inr ⟨b0,e0,Rx,hcb,ho0,a.tl b0 hlt Sy,UZ⟩
  ·have hi1:i < h1.length:=Om
   rw[b.ext i hi1]at he;obtain⟨ho,hc⟩:=a.new i e hi he;refine⟨ho,?_⟩;rcases hc with hc| ⟨b0,e0,Rx,hcb,ho0,Sy,UZ⟩
   ·exact .inl hc
   ·refine .inr ⟨b0,e0,Rx,hcb,ho0,Sy,?_⟩;cases hx:dY h2 b0 with
    | false=>rfl
    | true=>
     have hlt:=hd _ _ Rx;rw[b.tl b0 (Ym hlt a.len) hx]at UZ;cases UZ
 tl:=fun i hi ht=>a.tl i hi (b.tl i (Ym hi a.len) ht)
 size:=Yi a.size b.size
 os:=b.os.trans a.os
 out:=b.out.trans a.out
 tape:=b.tape.trans a.tape
 frame:=by
  intro i hi hno;refine(b.frame i (Ym hi a.size) ?_).trans (a.frame i hi hno);intro j e he ho hcb;by_cases hj:h.length≤j
  ·obtain⟨_,hc⟩:=a.new j e hj he;rcases hc with hc| ⟨b0,e0,Rx,Xj,ho0,_,_⟩
   ·omega
   ·exact hno b0 e0 Rx ho0 (Xj.trans hcb)
  ·rw[a.ext j Om]at he;exact hno j e he ho hcb
theorem BR.heap{P m w w' e k}(h:BR P m w e k)(hw:w'.heap[e.cb]? =w.heap[e.cb]?):BR P m w' e k:=by
 cases k<;>simp only[BR,hw]at h ⊢<;>exact h
theorem BR.mono{P m m' w e k}(hm:m.le m')(h:BR P m w e k):BR P m' w e k:=by
 cases k with
 | cells c mu tl=>
  obtain⟨cc,el,fz,h1,h2,h3,h4⟩:=h;exact⟨cc,el,fz,h1,h2,fun i x hx=>by obtain⟨ho,v,hv,hr⟩:=h3 i x hx;exact⟨ho,v,hv,VR.mono hm _ _ hr⟩,h4⟩
 | dead=>trivial
 | bn es=>
  obtain⟨ho,Ss,clock,h1,h2,h3⟩:=h;exact⟨ho,Ss,clock,h1,h2,fun i p hp=>by obtain⟨q,hq,ha,hb⟩:=h3 i p hp;exact⟨q,hq,VR.mono hm _ _ ha,VR.mono hm _ _ hb⟩⟩
 | iter s pos=>exact h
 | loop st ex ts ps asg body=>
  obtain⟨ho,fn,tmps,Rh,QN,df,h1,h2,h3,h4⟩:=h;exact⟨ho,fn,tmps,Rh,QN,df,h1,cH.mono hm _ _ h2,h3,h4⟩
theorem HR.drew{P m h w}(hr:HR P m h w):HR P m h w.drew where
 cI:=hr.cI
 dN:=fun b e k hb hk=>(hr.dN b e k hb hk).heap rfl
 sep:=hr.sep
 fN:=hr.fN
 lt:=hr.lt
theorem Grow.drew{m h w m' h' w'}(g:Grow m h w m' h' w'):Grow m h w m' h' w'.drew:=
 ⟨g.ext,g.len,g.new,g.tl,g.size,g.os,g.out,g.tape,g.frame⟩
def Grow.BS{m h w m' h' w'}(g:Grow m h w.drew m' h' w'):Grow m h w m' h' w':=
 ⟨g.ext,g.len,g.new,g.tl,g.size,g.os,g.out,g.tape,g.frame⟩
def BR.lt{P m w e k}(h:BR P m w e k)(hl:k.live=true):e.cb < w.heap.size:=by
 cases k with
 | cells c mu tl=>obtain⟨cc,el,fz,h1,_⟩:=h;exact(XM.1 h1).1
 | dead=>cases hl
 | bn es=>obtain⟨_,Ss,clock,h1,_⟩:=h;exact(XM.1 h1).1
 | iter s pos=>exact(XM.1 h.2.2).1
 | loop st ex ts ps asg body=>obtain⟨_,fn,tmps,Rh,QN,df,h1,_⟩:=h;exact(XM.1 h1).1
def bY.add(m:bY)(b:Nat)(e:rQ):bY:=fun x=>if x=b then some e else m x
def bY.rp{m:bY}{b:Nat}(e:rQ)(h:m b=none):m.le (m.add b e):=by
 intro x y hx;unfold bY.add;by_cases hb:x=b
 ·subst hb;rw[h]at hx;cases hx
 ·rw[XG hb];exact hx
def fq{h k b}(hb:b < h.length):dY (h++ [k]) b=dY h b:=by
 unfold dY;rw[Xv hb]
def jS{P:Program}{m:bY}{h:ah}{w:World}(hr:HR P m h w)(o:Obj)(k:aq)(e:rQ)(he:e.cb=w.heap.size)(ho:e.own=true)
  (hk:∀m':bY,m.le m'→BR P m' (w.alloc o) e k):
  HR P (m.add h.length e) (h++ [k]) (w.alloc o)∧Grow m h w (m.add h.length e) (h++ [k]) (w.alloc o):=by
 have Rl:m h.length=none:=by
  exact z53
 have hle:=bY.rp e Rl;have hold:∀b x,m b=some x→(m.add h.length e) b=some x:=hle;have hheap:∀i,i < w.heap.size→(w.alloc o).heap[i]? =w.heap[i]? :=fun i hi=>Go.RowKit.Below.heap_alloc w o i hi
 have Ue:∀b x k',m b=some x→h[b]? =some k'→k'.live=true→x.cb < w.heap.size:=fun b x k' hb hk' hl=>(hr.dN b x k' hb hk').lt hl
 refine⟨⟨?_,?_,?_,?_,?_⟩,⟨?_,Si,?_,?_,Si,rfl,rfl,rfl,fun i hi _=>hheap i hi⟩⟩
 ·intro b x hb;unfold bY.add at hb;by_cases hbl:b=h.length
  ·subst hbl;simp
  ·rw[XG hbl]at hb;have:=hr.cI _ _ hb;simp;omega
 ·intro b x k' hb hk';unfold bY.add at hb;by_cases hbl:b=h.length
  ·subst hbl;rw[XI rfl]at hb;cases hb;simp at hk';subst hk';exact hk _ hle
  ·rw[XG hbl]at hb;have hlt:=hr.cI _ _ hb;rw[Xv hlt]at hk';have h0:=hr.dN b x k' hb hk';by_cases hl:k'.live=true
   ·exact(h0.mono hle).heap (hheap _ (h0.lt hl))
   ·cases k'<;>first| trivial| exact absurd rfl hl
 ·intro b1 b2 e1 e2 k1 k2 hne h1 h2 hk1 Qq hcb;unfold bY.add at h1 h2;by_cases QS:b1=h.length
  ·subst QS;rw[XI rfl]at h1;cases h1;have Q4:b2≠h.length:=fun x=>hne x.symm
   rw[XG Q4]at h2;have hlt:=hr.cI _ _ h2;rw[Xv hlt]at Qq;by_cases hl:k2.live=true
   ·have:=Ue _ _ _ h2 Qq hl;omega
   ·cases k2<;>first| (cases k1<;>trivial)| exact absurd rfl hl
  ·rw[XG QS]at h1;have hlt1:=hr.cI _ _ h1;rw[Xv hlt1]at hk1;by_cases Q4:b2=h.length
   ·subst Q4;rw[XI rfl]at h2;cases h2;by_cases hl:k1.live=true
    ·have:=Ue _ _ _ h1 hk1 hl;omega
    ·cases k1<;>first| trivial| exact absurd rfl hl
   ·rw[XG Q4]at h2;have Rn:=hr.cI _ _ h2;rw[Xv Rn]at Qq;exact hr.sep b1 b2 e1 e2 k1 k2 hne h1 h2 hk1 Qq hcb
 ·intro g hg;obtain⟨x,hx,h1⟩:=hr.fN g hg;exact⟨x,hold _ _ hx,h1⟩
 ·intro b x hb;unfold bY.add at hb;simp only[World.size_alloc];by_cases hbl:b=h.length
  ·rw[XI hbl]at hb;cases hb;omega
  ·rw[XG hbl]at hb;have:=hr.lt _ _ hb;omega
 ·intro b hb;unfold bY.add;rw[XG Om]
 ·intro b x hb hx;unfold bY.add at hx;by_cases hbl:b=h.length
  ·rw[XI hbl]at hx;cases hx;exact⟨ho,.inl Om⟩
  ·rw[XG hbl]at hx;exact absurd (hr.cI _ _ hx) Om
 ·intro b hb ht
  rwa [fq hb]at ht
def ud{P:Program}{m:bY}{w:World}{c:List AV}{vs:List Value}(hc:cH m c vs)(h1:c.all AV.one=true)(el:TypeId)(mu tl:Bool)(m':bY)(hm:m.le m'):
  BR P m' (w.alloc (.cells ⟨vs⟩ el)) ⟨w.heap.size,0,vs.length,true⟩ (.cells c mu tl):=by
 refine⟨⟨vs⟩,el,(0,0),World.alloc_heap_new w _,⟨by simp[hc.length],by simp[hc.length]⟩,?_,?_,fun _=>⟨rfl,fun _=>by simp[hc.length]⟩⟩
 ·intro i x hx;obtain⟨v,hv,hr⟩:=hc.get hx;exact⟨X5.1 h1 x (Yo hx),v,by simpa using hv,VR.mono hm _ _ hr⟩
 ·intro _;exact⟨Si,fun i _=>by simp⟩
def lu{P m h w}(hr:HR P m h w){c vs}(hc:cH m c vs)(h1:c.all AV.one=true)(el:TypeId)(mu tl:Bool):
  ∃m',m' h.length=some ⟨w.heap.size,0,vs.length,true⟩∧HR P m' (h++ [.cells c mu tl]) (w.alloc (.cells ⟨vs⟩ el))∧Grow m h w m' (h++ [.cells c mu tl]) (w.alloc (.cells ⟨vs⟩ el)):=
 ⟨_,by simp[bY.add],jS hr (.cells ⟨vs⟩ el) (.cells c mu tl) ⟨w.heap.size,0,vs.length,true⟩ rfl rfl (fun m' hm=>ud hc h1 el mu tl m' hm)⟩
def gA(b o n:Nat): (⟨b,o,none⟩:Addr).add n= ⟨b,o+n,none⟩:=by
 unfold Addr.add;by_cases h:n=0
 ·simp[h]
 ·simp[h]
def cell_of{P m h w}(hr:HR P m h w){b e c mu tl}(he:m b=some e)(hb:h[b]? =some (.cells c mu tl))
  {i} {x} (hx:c[i]? =some x):x.one=true∧∃v,w.cell? ⟨e.cb,i+e.d,none⟩=some v∧VR m x v:=by
 obtain⟨cc,el,fz,h1,_,h3,_⟩:=hr.dN b e _ he hb;obtain⟨ho,v,hv,Qr⟩:=h3 i x hx;exact⟨ho,v,by simp only[World.cell?,h1];rw[Nat.add_comm];simpa using hv,Qr⟩
def mI{P m h w}(hr:HR P m h w){b e c mu tl}(he:m b=some e)(hb:h[b]? =some (.cells c mu tl))
  (o n:Nat) (hn:o+n≤c.length):∃vs,(loadCells ⟨e.cb,o+e.d,none⟩ n).run P w= .ok ⟨vs⟩ w∧cH m ((c.drop o).take n) vs∧((c.drop o).take n).all AV.one=true:=by
 have Qw:∀j,j < n→∃x,c[o+j]? =some x:=fun j hj=>⟨c[o+j],Xw Om⟩
 have Rb:∀j,j < n→∃v,w.cell? ⟨e.cb,o+e.d+j,none⟩=some v∧∃x,c[o+j]? =some x∧VR m x v:=by
  intro j hj;obtain⟨x,hx⟩:=Qw j hj;obtain⟨_,v,hv,Qr⟩:=cell_of hr he hb hx;exact⟨v,by rw[show o+e.d+j=o+j+e.d from by omega];exact hv,x,hx,Qr⟩
 obtain⟨f,hf⟩:∃f:Nat→Value,∀j,j < n→w.cell? ⟨e.cb,o+e.d+j,none⟩=some (f j):=
  ⟨fun j=>(w.cell? ⟨e.cb,o+e.d+j,none⟩).getD default,fun j hj=>by obtain⟨v,hv,_⟩:=Rb j hj;simp[hv]⟩
 have Re:cH m ((c.drop o).take n) ((List.range n).map f):=by
  refine cH.gL (by simp;omega) fun i x hx=>?_
  have hi:i < n:=by
   have:=(Xr.1 hx).1;simp at this;omega
  rw[ZB hi,ZN]at hx;obtain⟨v,hv,y,hy,Qr⟩:=Rb i hi;rw[hx]at hy;cases hy;refine⟨f i,by simp[hi],?_⟩;have:=hf i hi;rw[hv]at this;cases this;exact Qr
 refine⟨(List.range n).map f,?_,Re,?_⟩
 ·have:=run_loadCells_list (P:=P) (w:=w) ⟨e.cb,o+e.d,none⟩ ((List.range n).map f) (fun j v hj=>by
   have hi:j < n:=by
    have:=(Xr.1 hj).1
    simpa using this
   rw[gA];simp[hi]at hj;rw[←hj];exact hf j hi)
  simpa using this
 ·rw[X5];intro x hx;have Qt:x∈c:=List.mem_of_mem_drop (YA hx);obtain⟨i,hi,rfl⟩:=ZE Qt;exact(cell_of hr he hb (Xw hi)).1
def fB(c:List AV)(o:Nat):List AV→List AV
 | []=>c
 | x::xs=>fB (c.set o x) (o+1) xs
def bH(h:ah)(b b':Nat)(k:aq)(hb:b < h.length): (h.set b k)[b']? =if b' =b then some k else h[b']? :=by
 rw[List.getElem?_set];by_cases e:b=b'
 ·subst e;simp[hb]
 ·have e':¬b' =b:=fun x=>e x.symm
  rw[XG e,XG e']
def nQ{w:World}{cb i:Nat}{cc:Array Value}{el:TypeId}{fz:Nat×Nat}(h1:w.heap[cb]? =some (.cells cc el fz))(h:¬ (fz.1≤i∧i < fz.2)):w.frozen? ⟨cb,i,none⟩=false:=by
 obtain⟨lo,hi⟩:=fz;simp only[World.frozen?,h1];simp only[Bool.and_eq_false_iff,Zj];simp only at h;omega
def heap_setCell_same{w:World}{cb i:Nat}{cc:Array Value}{el:TypeId}{fz:Nat×Nat}(h1:w.heap[cb]? =some (.cells cc el fz))(v:Value):
  (w.setCell ⟨cb,i,none⟩ v).heap[cb]? =some (.cells (cc.setIfInBounds i v) el fz):=by
 obtain⟨hlt,hk⟩:=XM.1 h1;simp only[World.setCell];rw[Yl (by rw[Array.size_modify];exact hlt),Array.getElem_modify_self,hk];simp
def yU{P:Program}{m:bY}{h:ah}{w:World}(hr:HR P m h w){b:Nat}{e:rQ}{c:List AV}{tl:Bool}(he:m b=some e)(hb:h[b]? =some (.cells c true tl))
  {i:Nat} (hi:i < c.length) {x:AV} {v:Value} (hx:x.one=true) (hv:VR m x v):
  (store ⟨e.cb,i+e.d,none⟩ v).run P w= .ok () (w.setCell ⟨e.cb,i+e.d,none⟩ v)∧
  HR P m (h.set b (.cells (c.set i x) true tl)) (w.setCell ⟨e.cb,i+e.d,none⟩ v)∧Grow m h w m (h.set b (.cells (c.set i x) true tl)) (w.setCell ⟨e.cb,i+e.d,none⟩ v):=by
 obtain⟨cc,el,fz,h1,⟨h2,h2'⟩,h3,h4,h5⟩:=hr.dN b e _ he hb;have hown:e.own=true:=(h5 (.inl rfl)).1;obtain⟨dX,hfz⟩:=h4 hown;have hbl:b < h.length:=hr.cI _ _ he;have Rb:∃u,w.cell? ⟨e.cb,i+e.d,none⟩=some u:=⟨cc[i+e.d]'Om,by simp only[World.cell?,h1];exact Yl Om⟩;obtain⟨u,hu⟩:=Rb;have hfr:w.frozen? ⟨e.cb,i+e.d,none⟩=false:=nQ h1 (hfz _ Om);have hother:∀k,k≠e.cb→(w.setCell ⟨e.cb,i+e.d,none⟩ v).heap[k]? =w.heap[k]? :=fun k hk=>Go.RowKit.Below.heap_setCell w _ v k hk
 have T5:=heap_setCell_same (i:=i+e.d) h1 v;refine⟨?_,⟨?_,?_,?_,hr.fN,fun b' e' hb'=>by simpa using hr.lt b' e' hb'⟩,⟨fun _ _=>rfl,Si,?_,?_,Si,rfl,rfl,rfl,?_⟩⟩
 ·rw[run_store P w _ v .plain (hv.tv hx),hu];simp[hfr]
 ·intro b' e' hb';simpa using hr.cI b' e' hb'
 ·intro b' e' k Rj hk;rw[bH h b b' _ hbl]at hk;by_cases hbb:b' =b
  ·subst hbb;rw[XI rfl]at hk;cases hk;rw[he]at Rj;cases Rj;refine⟨_,el,fz,T5,⟨by simpa using h2,by simpa using h2'⟩,?_,fun ho=>⟨by simpa using dX,fun j hj=>hfz j (by simpa using hj)⟩,fun z=>⟨hown,fun y=>by rw[Yd];exact(h5 (.inl rfl)).2 y⟩⟩;intro j y hy;rw[List.getElem?_set]at hy;by_cases hij:i=j
   ·subst hij;rw[XI rfl,XI hi]at hy;cases hy;refine⟨hx,v,?_,hv⟩;rw[show e.d+i=i+e.d from by omega];rw[YJ Om]
   ·rw[XG hij]at hy;obtain⟨ho,u',T3,hr'⟩:=h3 j y hy;refine⟨ho,u',?_,hr'⟩;rw[Zb Om];exact T3
  ·rw[XG hbb]at hk;have h0:=hr.dN b' e' k Rj hk;by_cases hl:k.live=true
   ·refine h0.heap (hother _ ?_);intro hcb;have:=hr.sep b b' e e' _ k (fun x=>hbb x.symm) he Rj hb hk hcb.symm;cases k<;>first| (cases hl;done)| exact absurd this.1 Si| exact this
   ·cases k<;>first| trivial| exact absurd rfl hl
 ·intro b1 b2 e1 e2 k1 k2 hne RH Qy hk1 Qq hcb;rw[bH h b _ _ hbl]at hk1 Qq;by_cases QS:b1=b
  ·subst QS;rw[XI rfl]at hk1;cases hk1;rw[XG (fun x=>hne x.symm)]at Qq;have:=hr.sep b1 b2 e1 e2 _ k2 hne RH Qy hb Qq hcb;cases k2<;>first| trivial| exact absurd this.1 Si| exact this.elim
  ·rw[XG QS]at hk1;by_cases Q4:b2=b
   ·subst Q4;rw[XI rfl]at Qq;cases Qq;have:=hr.sep b1 b2 e1 e2 k1 _ hne RH Qy hk1 hb hcb;cases k1<;>first| trivial| exact absurd this.2.1 Si| exact this.elim
   ·exact LM
 ·intro b' e' hb' Rj;exact absurd (hr.cI _ _ Rj) Om
 ·intro b' hb' ht;unfold dY at ht ⊢;rw[bH h b b' _ hbl]at ht;by_cases hbb:b' =b
  ·subst hbb;rw[XI rfl]at ht;rw[hb];exact ht
  ·exact Cy
 ·intro k hk hno;exact hother k (fun hcb=>hno b e he hown hcb.symm)
theorem oK{P m}:∀ (xs:List AV) (vs:List Value) {h} {w} (_:HR P m h w) {b} {e} {c} {tl} (_:m b=some e) (_:h[b]? =some (.cells c true tl))
  (a j:Nat) (_:a+j+xs.length≤c.length) (_:xs.all AV.one=true) (_:cH m xs vs),
  ∃w',(storeCells ⟨e.cb,a+e.d,none⟩ vs j).run P w= .ok () w'∧HR P m (h.set b (.cells (fB c (a+j) xs) true tl)) w'∧Grow m h w m (h.set b (.cells (fB c (a+j) xs) true tl)) w'
 | [],vs,h,w,hr,b,e,c,tl,he,hb,a,j,hlen,h1,hv=>by
  rw[bC]at hv;subst hv;have hbl:b < h.length:=hr.cI _ _ he;have bd:h.set b (.cells (fB c (a+j) []) true tl)=h:=by
   simp only[fB]
   apply ZR
   intro i;rw[bH h b i _ hbl];by_cases hi:i=b
   ·subst hi;simp[hb]
   ·simp[hi]
  exact⟨w,rfl,by rw[bd];exact hr,by rw[bd];exact Grow.refl m h w hr.cI⟩
 | x::xs,vs,h,w,hr,b,e,c,tl,he,hb,a,j,hlen,h1,hv=>by
  obtain⟨v,vs',rfl,hxv,Re⟩:=aS.1 hv;simp only[YY,X4]at h1;simp only[Xy]at hlen;obtain⟨Qs,hr1,hg1⟩:=yU hr he hb (i:=a+j) Om h1.1 hxv;have hbl:b < h.length:=hr.cI _ _ he;have QS: (h.set b (.cells (c.set (a+j) x) true tl))[b]? =some (.cells (c.set (a+j) x) true tl):=by rw[bH h b b _ hbl,XI rfl]
  obtain⟨w',hrun',hr',QL⟩:=oK xs vs' hr1 he QS a (j+1) (by simp;omega) h1.2 Re;have bd: (h.set b (.cells (c.set (a+j) x) true tl)).set b (.cells (fB (c.set (a+j) x) (a+ (j+1)) xs) true tl)=h.set b (.cells (fB c (a+j) (x::xs)) true tl):=by
   rw[List.set_set];rfl
  rw[bd]at hr' QL;refine⟨w',?_,hr',Grow.trans hg1 QL hr.cI⟩;simp only[storeCells,XP];rw[gA,show a+e.d+j=a+j+e.d from by omega,Qs];exact hrun'
def fC(op:BinOp)(k:IntKind)(a b:Int):Option AV:=
 match op with
 | .add=>some (.int k (k.wrap (a+b)))
 | .sub=>some (.int k (k.wrap (a - b)))
 | .mul=>some (.int k (k.wrap (a * b)))
 | .quo=>if b=0 then none else some (.int k (k.wrap (a.tdiv b)))
 | .rem=>if b=0 then none else some (.int k (a.tmod b))
 | .and=>some (.int k (k.wrap (BitVec.ofInt k.bits a &&& BitVec.ofInt k.bits b).toNat))
 | .or=>some (.int k (k.wrap (BitVec.ofInt k.bits a||| BitVec.ofInt k.bits b).toNat))
 | .xor=>some (.int k (k.wrap (BitVec.ofInt k.bits a^^^BitVec.ofInt k.bits b).toNat))
 | .andNot=>some (.int k (k.wrap (BitVec.ofInt k.bits a &&& ~~~ (BitVec.ofInt k.bits b)).toNat))
 | .eql=>some (.bool (a==b))
 | .neq=>some (.bool (a !=b))
 | .lss=>some (.bool (decide (a < b)))
 | .leq=>some (.bool (decide (a≤b)))
 | .gtr=>some (.bool (decide (a > b)))
 | .geq=>some (.bool (decide (a≥b)))
 | _=>none
def qv(op:BinOp)(x y:By):Option AV:=
 match op with
 | .add=>if x.length+y.length < 2^62 then some (.str (x++y))else none
 | .eql=>some (.bool (x==y))
 | .neq=>some (.bool !(x==y))
 | .lss=>some (.bool (Op.bytesLess x y))
 | .leq=>some (.bool (Op.bytesLess x y|| x==y))
 | .gtr=>some (.bool !(Op.bytesLess x y|| x==y))
 | .geq=>some (.bool !(Op.bytesLess x y))
 | _=>none
def wb(op:BinOp)(k:IntKind)(a b:Int):Option AV:=
 if b < 0 then none
 else match op with
  | .shl=>some (.int k (k.wrap (a * 2^ (min b.toNat k.bits))))
  | .shr=>some (.int k (a.fdiv (2^ (min b.toNat k.bits))))
  | _=>none
def eC:BinOp→Bool
 | .shl=>true
 | .shr=>true
 | _=>false
def dW(op:BinOp):AV→AV→Option AV
 | .int k a,.int k' b=>if eC op then wb op k a b else if k=k' then fC op k a b else none
 | .str a,.str b=>qv op a b
 | _,_=>none
def vX(op:UnOp):AV→Option AV
 | .int k n=>
  match op with
  | .neg=>some (.int k (k.wrap (0 - n)))
  | .xor=>fC .xor k (if k.signed then -1 else k.max) n
  | _=>none
 | .bool b=>
  match op with
  | .not=>some (.bool !b)
  | _=>none
 | _=>none
def dh:CK→AV→AV→Option Bool
 | .b,.bool a,.bool b=>some (a==b)
 | .i,.int k a,.int k' b=>if k=k' then some (a==b)else none
 | .s,.str a,.str b=>some (a==b)
 | _,_,_=>none
def dA:List CK→List AV→List AV→Option Bool
 | [],[],[]=>some true
 | k::ks,x::xs,y::ys=>
  match dh k x y with
  | some true=>dA ks xs ys
  | some false=>some false
  | none=>none
 | _,_,_=>none
def yu(ks:List CK):AV→AV→Option Bool
 | .agg xs,.agg ys=>if xs.length=ks.length∧ys.length=ks.length then dA ks xs ys else none
 | _,_=>none
def N4:AV→AV→Option Bool
 | .af,.af=>some true
 | .af,.slice _ _ _ _=>some false
 | .slice _ _ _ _,.af=>some false
 | _,_=>none
def N5:AV→AV→Option Bool
 | .nilPtr,.nilPtr=>some true
 | .nilPtr,.ptr _ _=>some false
 | .ptr _ _,.nilPtr=>some false
 | _,_=>none
def N7:AV→AV→Option Bool
 | .nilFunc,.nilFunc=>some true
 | .nilFunc,.func _ _ _=>some false
 | .func _ _ _,.nilFunc=>some false
 | _,_=>none
def N6:AV→AV→Option Bool
 | .cR,.cR=>some true
 | .cR,.map _=>some false
 | .map _,.cR=>some false
 | _,_=>none
def o6(t:O3)(x y:AV):Option Bool:=
 match t with
 | .one k=>dh k x y
 | .agg ks=>yu ks x y
 | .wR=>N4 x y
 | .wS=>N5 x y
 | .oQ=>N7 x y
 | .Kk=>N6 x y
def byteOf:AV→Option UInt8
 | .int .u8 n=>some (UInt8.ofNat n.toNat)
 | _=>none
def cellsIn(es:Nat)(h:ah):AV→Option (List AV×Nat)
 | .af=>some ([],0)
 | .slice b o n es'=>
  if es' =es then
   match h[b]? with
   | some (.cells c _ _)=>if o+n * es≤c.length then some ((c.drop o).take (n * es),n)else none
   | _=>none
  else none
 | .str s=>if es=1 then some (s.map fun b=>.int .u8 b.toNat,s.length)else none
 | _=>none
def jQ(k:yL)(x:AV)(h:ah):Option (AV×ah):=
 match k with
 | .tE k=>
  match x with
  | .int _ n=>some (.int k (k.wrap n),h)
  | _=>none
 | .same=>
  match x with
  | .str s=>some (.str s,h)
  | _=>none
 | .NM k=>
  match x with
  | .int _ n=>some (.vT k (k.nearest n),h)
  | _=>none
 | .N2 k=>
  match x with
  | .vT s b=>
   match (s.decode b).toInt .zero with
   | some n=>if Dw s b=false∧k.min≤n∧n≤k.max then some (.int k n,h)else none
   | none=>none
  | _=>none
 | .N3 k=>
  match x with
  | .vT s b=>if s=k then some (.vT k b,h)else none
  | _=>none
 | .pW u=>some (.pW u x,h)
 | .Iv=>
  match x with
  | .af=>some (.str [],h)
  | .slice b o n es=>
   match cellsIn 1 h (.slice b o n es)with
   | some (l,_)=>
    match l.mapM byteOf with
    | some r=>some (.str r,h)
    | none=>none
   | none=>none
  | _=>none
 | .ML=>
  match x with
  | .str s=>some (.slice h.length 0 s.length 1,h++ [.cells (s.map fun b=>.int .u8 b.toNat) true true])
  | _=>none
def dI(n:Nat)(z:List AV):List AV:=(List.replicate n z).flatten
def eo(c:List AV):List (Nat×Nat×AV)→Option (List AV)
 | []=>some c
 | (off,n,v)::r=>if v.cells.length=n∧off+n≤c.length then eo (fB c off v.cells) r else none
def GY:Option AV→Option Int
 | none=>some 0
 | some (.int _ i)=>some i
 | _=>none
def FA(n:Nat):Option AV→Option Int
 | none=>some n
 | some (.int _ i)=>some i
 | _=>none
def iO(lo hi:Option AV)(n:Nat):Option (Nat×Nat):=
 match GY lo,FA n hi with
 | some l,some h=>if 0≤l∧l≤h∧h≤n then some (l.toNat,h.toNat)else none
 | _,_=>none
def jd(kk:CK)(k:AV):List (AV×AV)→Option (Option AV)
 | []=>some none
 | (a,v)::r=>
  match dh kk k a with
  | some true=>some (some v)
  | some false=>jd kk k r
  | none=>none
def oG(kk:CK)(k v:AV):List (AV×AV)→Option (List (AV×AV))
 | []=>some [(k,v)]
 | (a,u)::r=>
  match dh kk k a with
  | some true=>some ((k,v)::r)
  | some false=>(oG kk k v r).map ((a,u)::·)
  | none=>none
def pF:AV→AV→Option AV
 | .int k a,.int k' b=>if k=k' then some (.int k (if b > a then b else a))else none
 | _,_=>none
def pE:AV→AV→Option AV
 | .int k a,.int k' b=>if k=k' then some (.int k (if b < a then b else a))else none
 | _,_=>none
def gY(f:AV→AV→Option AV):AV→List AV→Option AV
 | x,[]=>some x
 | x,y::r=>
  match f x y with
  | some z=>gY f z r
  | none=>none
def zj(lk:LK)(h:ah):AV→Option Nat
 | .str s=>if lk= .st then some s.length else none
 | .slice _ _ n _=>if lk= .sl then some n else none
 | .af=>if lk= .sl then some 0 else none
 | .map r=>
  match h[r]? with
  | some (.bn es)=>if lk= .mp then some es.length else none
  | _=>none
 | .cR=>if lk= .mp then some 0 else none
 | _=>none
def dt(k:oA)(ρ:cW→AV)(h:ah):Option (AV×ah):=
 match k with
 | .aI x=>some (ρ x,h)
 | .pick c a b=>
  match ρ c with
  | .bool t=>some (if t then ρ a else ρ b,h)
  | _=>none
 | .box x=>if(ρ x).cells.all AV.one then some (.ptr h.length 0,h++ [.cells (ρ x).cells true false])else none
 | .mQ n x=>if(ρ x).cells.all AV.one=true∧(ρ x).cells.length=n then some (.ptr h.length 0,h++ [.cells (ρ x).cells true false])else none
 | .build z ps=>
  match eo z (ps.map fun p=>(p.1,p.2.1,ρ p.2.2))with
  | some c=>some (.agg c,h)
  | none=>none
 | .load n a=>
  match ρ a with
  | .ptr b o=>
   match h[b]? with
   | some (.cells c _ _)=>
    match n with
    | none=>
     match c[o]? with
     | some x=>some (x,h)
     | none=>none
    | some n=>if o+n≤c.length then some (.agg ((c.drop o).take n),h)else none
   | _=>none
  | _=>none
 | .store n a x=>
  match ρ a with
  | .ptr b o=>
   match h[b]? with
   | some (.cells c true tl)=>
    if(ρ x).cells.length=n∧(ρ x).cells.all AV.one=true∧o+n≤c.length then some (aB,h.set b (.cells (fB c o (ρ x).cells) true tl))else none
   | _=>none
  | _=>none
 | .bt x=>
  match ρ x with
  | .ptr b o=>some (.ptr b o,h)
  | .func (.func f) a c=>some (.func (.func f) a c,h)
  | .func (.yield f) a c=>some (.func (.yield f) a c,h)
  | .func (.methodOf t n) a c=>some (.func (.methodOf t n) a c,h)
  | .func (.via t p f q) a c=>some (.func (.via t p f q) a c,h)
  | _=>none
 | .bin op x y=>
  match dW op (ρ x) (ρ y)with
  | some v=>some (v,h)
  | none=>none
 | .eqv neg t x y=>
  match o6 t (ρ x) (ρ y)with
  | some b=>some (.bool (if neg then !b else b),h)
  | none=>none
 | .un op x=>
  match vX op (ρ x)with
  | some v=>some (v,h)
  | none=>none
 | .conv k x=>jQ k (ρ x) h
 | .kH f a c=>some (.func f (a.map ρ) (c.map ρ),h)
 | .kZ=>some (.map h.length,h++ [.bn []])
 | .rH es w z l c=>
  match ρ l,ρ c with
  | .int _ l,.int _ c=>
   if 0≤l∧l≤c∧(w:Int) * c≤2^48∧c < 2^63 then some (.slice h.length 0 l.toNat es,h++ [.cells (dI l.toNat z) true true])else none
  | _,_=>none
 | .sl es x lo hi=>
  match ρ x with
  | .slice b o n es'=>
   if es' =es then
    match iO (lo.map ρ) (hi.map ρ) n with
    | some (l,h')=>some (.slice b (o+l * es) (h' - l) es,h)
    | none=>none
   else none
  | .af=>
   match iO (lo.map ρ) (hi.map ρ) 0 with
   | some _=>some (.af,h)
   | none=>none
  | _=>none
 | .pr x lo hi=>
  match ρ x with
  | .str s=>
   match iO (lo.map ρ) (hi.map ρ) s.length with
   | some (l,h')=>some (.str ((s.drop l).take (h' - l)),h)
   | none=>none
  | _=>none
 | .LV k es x lo hi=>
  match ρ x with
  | .ptr b o=>
   match h[b]? with
   | some (.cells c _ _)=>
    if o+k * es≤c.length then
     match iO (lo.map ρ) (hi.map ρ) k with
     | some (l,h')=>some (.slice b (o+l * es) (h' - l) es,h)
     | none=>none
    else none
   | _=>none
  | _=>none
 | .aR off x=>
  match ρ x with
  | .ptr b o=>some (.ptr b (o+off),h)
  | _=>none
 | .ba es x i=>
  match ρ x,ρ i with
  | .slice b o n es',.int _ i=>if es' =es∧0≤i∧i < n then some (.ptr b (o+i.toNat * es),h)else none
  | _,_=>none
 | .rJ len es x i=>
  match ρ x,ρ i with
  | .ptr b o,.int _ i=>if 0≤i∧i < len then some (.ptr b (o+i.toNat * es),h)else none
  | _,_=>none
 | .part n off x=>
  match ρ x with
  | .agg cs=>
   match n with
   | none=>
    match cs[off]? with
    | some v=>some (v,h)
    | none=>none
   | some n=>some (.agg ((cs.drop off).take n),h)
  | _=>none
 | .It len es n x i=>
  match ρ x,ρ i with
  | .agg cs,.int _ i=>
   if 0≤i∧i < len then
    match n with
    | none=>
     match cs[i.toNat * es]? with
     | some v=>some (v,h)
     | none=>none
    | some n=>some (.agg ((cs.drop (i.toNat * es)).take n),h)
   else none
  | _,_=>none
 | .pV x i=>
  match ρ x,ρ i with
  | .str s,.int _ i=>
   if 0≤i then
    match s[i.toNat]? with
    | some b=>some (.int .u8 b.toNat,h)
    | none=>none
   else none
  | _,_=>none
 | .look kk z ok m k=>
  match ρ m with
  | .cR=>some (if ok then .dJ [z,.bool false]else z,h)
  | .map r=>
   match h[r]? with
   | some (.bn es)=>
    match jd kk (ρ k) es with
    | some (some v)=>some (if ok then .dJ [v,.bool true]else v,h)
    | some none=>some (if ok then .dJ [z,.bool false]else z,h)
    | none=>none
   | _=>none
  | _=>none
 | .e9 kk m k x=>
  match ρ m with
  | .map r=>
   match h[r]? with
   | some (.bn es)=>
    match oG kk (ρ k) (ρ x) es with
    | some es'=>some (aB,h.set r (.bn es'))
    | none=>none
   | _=>none
  | _=>none
 | .wq x=>
  match ρ x with
  | .str s=>some (.ptr h.length 0,h++ [.iter s 0])
  | _=>none
 | .nF x=>
  match ρ x with
  | .ptr b 0=>
   match h[b]? with
   | some (.iter s pos)=>
    if pos < s.length then
     let d:=Utf8.decode ⟨⟨s⟩⟩ pos
     some (.dJ [.bool true,.int .i64 pos,.int .i32 d.1],h.set b (.iter s (pos+d.2)))
    else some (.dJ [.bool false],h)
   | _=>none
  | _=>none
 | .ext x i=>
  match ρ x with
  | .dJ l=>
   match l[i]? with
   | some v=>some (v,h)
   | none=>none
  | _=>none
 | .len lk x=>
  match zj lk h (ρ x)with
  | some n=>some (.int .i64 n,h)
  | none=>none
 | .zi n=>some (.int .i64 n,h)
 | .vU es x y=>
  match ρ x,cellsIn es h (ρ y)with
  | .slice b o n es',some (ys,k)=>
   if es' =es then
    if min k n=0 then some (.int .i64 0,h)
    else
     match h[b]? with
     | some (.cells c true tl)=>if o+min k n * es≤c.length then some (.int .i64 (min k n:Nat),h.set b (.cells (fB c o (ys.take (min k n * es))) true tl))else none
     | _=>none
   else none
  | .af,some _=>some (.int .i64 0,h)
  | _,_=>none
 | .mx x l=>
  match gY pF (ρ x) (l.map ρ)with
  | some v=>some (v,h)
  | none=>none
 | .mn x l=>
  match gY pE (ρ x) (l.map ρ)with
  | some v=>some (v,h)
  | none=>none
 | _=>none
inductive vQ (es w:Nat) (s y:AV) (h:ah):AV→ah→Prop
 | none (hy:cellsIn es h y=some ([],0)) (hs:s= .af∨∃b o n,s= .slice b o n es):vQ es w s y h s h
 | new (ys:List AV) (k:Nat) (mu:Bool) (hy:cellsIn es h y=some (ys,k)) (hk:0 < k) (hb:k * w≤2^46) (hs:s= .af):
   vQ es w s y h (.slice h.length 0 k es) (h++ [.cells ys mu true])
 | on (ys:List AV) (k b o n:Nat) (c:List AV) (mu:Bool) (hy:cellsIn es h y=some (ys,k)) (hk:0 < k) (hb: (n+k) * w≤2^46) (hs:s= .slice b o n es)
   (hc:h[b]? =some (.cells c mu true)) (hl:o+n * es=c.length):
   vQ es w s y h (.slice h.length 0 (n+k) es) (h.set b (.cells c false false)++ [.cells (c.drop o++ys) false true])
 | over (ys:List AV) (k b o n:Nat) (c:List AV) (mu:Bool) (hy:cellsIn es h y=some (ys,k)) (hk:0 < k) (hb: (n+k) * w≤2^46) (hs:s= .slice b o n es)
   (hc:h[b]? =some (.cells c true true)) (hl:o+n * es≤c.length):
   vQ es w s y h (.slice h.length 0 (n+k) es) (h.set b .dead++ [.cells ((c.drop o).take (n * es)++ys) mu true])
 | full (ys:List AV) (k b o n:Nat) (c:List AV) (hy:cellsIn es h y=some (ys,k)) (hk:0 < k) (hb: (n+k) * w≤2^46) (hs:s= .slice b o n es)
   (hc:h[b]? =some (.cells c true false)) (hl:o+n * es=c.length):
   vQ es w s y h (.slice h.length 0 (n+k) es) (h++ [.cells (c.drop o++ys) true true])
def wrap64{n}(h0:-9223372036854775808≤n)(h1:n < 9223372036854775808):IntKind.i64.wrap n=n:=by
 show(if(true && decide (n % (18446744073709551616:Int)≥(9223372036854775808:Int)))=true then n % (18446744073709551616:Int) - 18446744073709551616 else n % (18446744073709551616:Int))=n;simp only[YZ,Yg];split<;>omega
def Gb{n}(h0:0≤n)(h1:n < 256):IntKind.u8.wrap n=n:=by
 show(if(false && decide (n % (256:Int)≥(128:Int)))=true then n % (256:Int) - 256 else n % (256:Int))=n;exact z194
def xJ{n}(h0:0≤n)(h1:n < 18446744073709551616):IntKind.u64.wrap n=n:=by
 show(if(false && decide (n % (18446744073709551616:Int)≥(9223372036854775808:Int)))=true then n % (18446744073709551616:Int) - 18446744073709551616 else n % (18446744073709551616:Int))=n;exact z194
def eE(P:Program)(m:bY)(h:ah)(w:World)(v:AV)(h':ah)(r:Result Next):Prop:=
 ∃cv w' m',(r= .ok (.value cv) w'∨(r= .ok .skip w'∧cv=undef))∧VR m' v cv∧HR P m' h' w'∧Grow m h w m' h' w'
def eE.same{P m h w v cv r}(hr:HR P m h w)(hv:VR m v cv)(e:r= .ok (.value cv) w):eE P m h w v h r:=
 ⟨cv,w,m,.inl e,hv,hr,Grow.refl m h w hr.cI⟩
def jG(m:bY):VR m aB undef:=⟨[],rfl,rfl⟩
theorem uR(m:bY)(n:Nat)(ih:∀v a,lT n v=some a→VR m a v):∀ (l:List Value) (r:List AV),l.mapM (lT n)=some r→cH m r l
 | [],r,h=>by simp at h;subst h;exact bC.2 rfl
 | v::l,r,h=>by
  simp only[ZU,ZF,Z1]at h;cases hv:lT n v with
  | none=>simp[hv]at h
  | some a=>
   cases hl:l.mapM (lT n)with
   | none=>simp[hv,hl]at h
   | some r'=>
    simp[hv,hl]at h;subst h;exact aS.2 ⟨v,l,rfl,ih v a hv,uR m n ih l r' hl⟩
def qj(m:bY):∀ (n:Nat) (v:Value) (a:AV),lT n v=some a→VR m a v
 | 0,v,a,h=>by simp[lT]at h
 | n+1,v,a,h=>by
  unfold lT at h;split at h
  ·cases h;rfl
  ·cases h;rfl
  ·cases h;exact⟨_,rfl,.inl rfl⟩
  ·cases h;exact⟨_,_,rfl,.inl rfl,.inl rfl⟩
  ·cases h;rfl
  ·cases h;rfl
  ·cases h;rfl
  ·cases h;rfl
  ·cases h;rfl
  ·exact z80
  ·exact z80
  ·cases h
def bZ{P}{t:TypeId}{n}(h:dP P t=some n)(w:World): (sizeOf t).run P w= .ok n w:=by
 unfold dP at h;cases hi:P.info? t with
 | none=>simp[hi]at h
 | some i=>simp[hi]at h;subst h;simp[sizeOf,typeInfo,hi]
def lF{P}{t:TypeId}{d:TypeDesc}(h:P.underlying t=some d)(w:World): (isAgg t).run P w= .ok (jC d) w:=by
 cases d<;>simp[isAgg,XN h,jC]
def uO{P}{t:TypeId}{n}(h:zY P t=some (some n))(w:World): (isAgg t).run P w= .ok true w∧dP P t=some n:=by
 unfold zY at h;split at h
 case h_2=>cases h
 rename_i d hu;split at h
 case isFalse=>simp at h
 rename_i hd;refine⟨by rw[lF hu,hd],?_⟩;cases hi:P.info? t with
 | none=>simp[hi]at h
 | some i=>simp[hi]at h;simp[dP,hi,h]
def uP{P}{t:TypeId}(h:zY P t=some none)(w:World): (isAgg t).run P w= .ok false w:=by
 unfold zY at h;split at h
 case h_2=>cases h
 rename_i d hu;split at h
 case isTrue=>cases hi:P.info? t<;>simp[hi]at h
 rename_i hd;rw[lF hu];simp at hd;rw[hd]
def jF{P}{t:TypeId}{z}(h:jk P t=some z)(w:World)(m:bY):∃cz,(zeroValue t).run P w= .ok cz w∧VR m z cz:=by
 unfold jk at h;cases hi:P.info? t with
 | none=>simp[hi]at h
 | some i=>
  cases hz:i.zero with
  | none=>simp[hi,hz]at h
  | some cz=>
   simp[hi,hz]at h;exact⟨cz,by simp[zeroValue,typeInfo,hi,hz],qj m 4 cz z h⟩
section
variable {P:Program} {m:bY} {h h':ah} {w:World} {v:AV} {ρ:cW→AV} {hr:HR P m h w}
def sE(hr:HR P m h w){x cx}(hx:VR m x cx)(h1:x.cells.all AV.one=true)(t:TypeId)(mu tl:Bool):
  ∃m',(newVar t cx).run P w= .ok ⟨w.heap.size,0,none⟩ (w.alloc (.cells cx.cells t))∧VR m' (.ptr h.length 0) (.pointer (some ⟨w.heap.size,0,none⟩))∧
   HR P m' (h++ [.cells x.cells mu tl]) (w.alloc (.cells cx.cells t))∧Grow m h w m' (h++ [.cells x.cells mu tl]) (w.alloc (.cells cx.cells t)):=by
 obtain⟨m',h0,h2,h3⟩:=lu hr hx.cells h1 t mu tl;refine⟨m',by simp[newVar,newRow],⟨_,h0,rfl⟩,h2,h3⟩
def AR{t:TypeId}{n a ca}(hn:zY P t=some n)(hr:HR P m h w)(ha:VR m (ρ a) ca)(hf:dt (.load n a) ρ h=some (v,h')):
  ∃cv,(Instr.loadAt t ca).run P w= .ok cv w∧VR m v cv∧h' =h:=by
 simp only[dt]at hf;split at hf
 case h_2=>cases hf
 rename_i b o hρ;rw[hρ]at ha;obtain⟨e,he,rfl⟩:=ha;split at hf
 case h_2=>cases hf
 rename_i c mu tl hb;cases n with
 | none=>
  simp only at hf;split at hf
  case h_2=>cases hf
  rename_i x hx;cases hf;obtain⟨_,cv,Sk,Qr⟩:=cell_of hr he hb hx;exact⟨cv,by simp[Instr.loadAt,Instr.sureAddr,loadVar,uP hn,Sk],Qr,rfl⟩
 | some n=>
  simp only at hf;split at hf
  case isFalse=>cases hf
  rename_i hle;cases hf;obtain⟨hagg,dX⟩:=uO hn w;obtain⟨vs,Qs,Re,_⟩:=mI hr he hb o n hle;exact⟨.agg ⟨vs⟩,by simp[Instr.loadAt,Instr.sureAddr,loadVar,hagg,bZ dX,Qs],⟨vs,rfl,Re⟩,rfl⟩
def C5{t:TypeId}{n a x ca cx}(hn:dP P t=some n)(hr:HR P m h w)(ha:VR m (ρ a) ca)(hx:VR m (ρ x) cx)(hf:dt (.store n a x) ρ h=some (v,h')):
  ∃w',(Instr.storeAt t ca cx).run P w= .ok () w'∧v=aB∧HR P m h' w'∧Grow m h w m h' w':=by
 simp only[dt]at hf;split at hf
 case h_2=>cases hf
 rename_i b o hρ;rw[hρ]at ha;obtain⟨e,he,rfl⟩:=ha;split at hf
 case h_2=>cases hf
 rename_i c tl hb;split at hf
 case isFalse=>cases hf
 rename_i hc;cases hf;obtain⟨h1,h2,h3⟩:=hc;have hcl:=hx.cells;obtain⟨w',Qs,hr',QL⟩:=oK (ρ x).cells cx.cells.toList hr he hb o 0 Om h2 hcl;have hlen:cx.cells.size=n:=by have:=hcl.length;simp at this;omega
 refine⟨w',?_,rfl,hr',QL⟩;simp only[Instr.storeAt,Instr.sureAddr,storeVar,XP,X7,XF,bZ hn];simp[hlen,Qs]
def uw(c:List Value)(o:Nat):List Value→List Value
 | []=>c
 | x::xs=>uw (c.set o x) (o+1) xs
theorem rZ{m}:∀{xs} {vs},cH m xs vs→∀{c} {cv} (o:Nat),cH m c cv→cH m (fB c o xs) (uw cv o vs)
 | [],vs,hx,c,cv,o,hc=>by rw[bC]at hx;subst hx;exact hc
 | x::xs,vs,hx,c,cv,o,hc=>by
  obtain⟨v,vs',rfl,hv,Re⟩:=aS.1 hx;exact rZ Re (o+1) (hc.set o hv)
theorem sP(off:Nat):∀ (xs:List Value) (k:Nat) (cs:Array Value),(List.foldl (fun cs (p:Value×Nat)=>cs.setIfInBounds (off+p.2) p.1) cs (xs.zipIdx k)).toList=uw cs.toList (off+k) xs
 | [],k,cs=>rfl
 | x::xs,k,cs=>by
  simp only[List.zipIdx_cons,Z2,uw];rw[sP off xs (k+1)];simp[Nat.add_assoc]
theorem qd{m}(place:Nat→Option (Nat×Nat)):∀ (ps:List (Nat×Value)) (qs:List (Nat×Nat×AV)) (c:List AV) (cc:Array Value) (c':List AV),
  ps.length=qs.length→(∀ (i:Nat) p q,ps[i]? =some p→qs[i]? =some q→place p.1=some (q.1,q.2.1)∧VR m q.2.2 p.2)→cH m c cc.toList→eo c qs=some c'→
  ∃Q2,Instr.fill place cc ps=some Q2∧cH m c' Q2.toList
 | [],[],c,cc,c',_,_,hc,hf=>by simp[eo]at hf;subst hf;exact⟨cc,rfl,hc⟩
 | [],q::qs,c,cc,c',hl,_,_,_=>by simp at hl
 | p::ps,[],c,cc,c',hl,_,_,_=>by simp at hl
 | (i,x)::ps,(off,n,y)::qs,c,cc,c',hl,hp,hc,hf=>by
  obtain⟨Tt,hxy⟩:=hp 0 (i,x) (off,n,y) Si Si;simp only at Tt hxy;simp only[eo]at hf;split at hf
  case isFalse=>cases hf
  rename_i QH;obtain⟨hlen,hle⟩:=QH;have hcells:=hxy.cells;have dX:x.cells.size=n:=by have:=hcells.length;simp at this;omega
  have SK:cc.size=c.length:=by have:=hc.length;simpa using this
  have hfold: (x.cells.zipIdx.foldl (fun cs (p:Value×Nat)=>cs.setIfInBounds (off+p.2) p.1) cc).toList=uw cc.toList off x.cells.toList:=by
   rw[←Array.foldl_toList];have:=sP off x.cells.toList 0 cc
   simpa using this
  obtain⟨Q2,h1,h2⟩:=qd place ps qs (fB c off y.cells) (x.cells.zipIdx.foldl (fun cs (p:Value×Nat)=>cs.setIfInBounds (off+p.2) p.1) cc) c' (by simpa using hl)
   (fun j p q hj hq=>hp (j+1) p q (by simpa using hj) (by simpa using hq)) (by rw[hfold];exact rZ hcells off hc) hf
  refine⟨Q2,?_,h2⟩;simp only[Instr.fill,Tt];rw[XG (by simp;omega)];exact h1
theorem pS{P}{t:TypeId}:∀{ps} {l},lO P t ps=some l→ps.length=l.length∧
  ∀ (i:Nat) p q,ps[i]? =some p→l[i]? =some q→jo P t p.1=some (q.1,q.2.1)∧cQ p.2=some q.2.2
 | [],l,h=>by simp[lO]at h;subst h;exact⟨rfl,fun i p q hp=>by simp at hp⟩
 | (i,x)::ps,l,h=>by
  simp only[lO]at h;split at h
  case h_2=>cases h
  rename_i off n y r h1 h2 h3;cases h;obtain⟨hl,hp⟩:=pS h3;refine⟨by simp[hl],fun j p q hj hq=>?_⟩;cases j with
  | zero=>simp at hj hq;subst hj;subst hq;exact⟨h1,h2⟩
  | succ j=>exact hp j p q (by simpa using hj) (by simpa using hq)
def BZ{t:TypeId}{z:AV}{ps:List (Nat×Value)}{cz:Value}{Q2:Array Value}(hz: (P.info? t).bind (·.zero)=some cz)(hp:nD P t=true)(hf:Instr.fill (jo P t) cz.cells ps=some Q2):
  P.built t ps=some Q2:=by
 unfold Program.built;cases hi:P.info? t with
 | none=>simp[hi]at hz
 | some it=>
  simp[hi]at hz;unfold nD at hp;split at hp
  ·rename_i fs hu;obtain⟨places,hpls⟩:=Option.isSome_iff_exists.1 hp;have Tt:jo P t=fun i=>places[i]? :=by
    funext i;simp only[jo,hu,hpls]
   rw[Tt]at hf;simp only[hu,hz,hpls]
   simpa using hf
  ·rename_i n e hu;obtain⟨ie,hie⟩:=Option.isSome_iff_exists.1 hp;have Tt:jo P t=fun i=>some (i * ie.size,ie.size):=by
    funext i;simp only[jo,hu,hie];rfl
   rw[Tt]at hf;simp only[hu,hz,hie];exact hf
  ·cases hp
def C8{t:TypeId}{z:AV}{ps:Array (Nat×Operand)}{l:List (Nat×Nat×cW)}{σ:Operand→Value}(hz:jk P t=some z)(hl:lO P t ps.toList=some l)(hp:nD P t=true)
  (hρ:∀p∈ps.toList,∀y,cQ p.2=some y→VR m (ρ y) (σ p.2)) (hf:dt (.build z.cells l) ρ h=some (v,h')):
  ∃cv,(Instr.build t (ps.map fun(i,x)=>(i,σ x))).run P w= .ok cv w∧VR m v cv∧h' =h:=by
 simp only[dt]at hf;split at hf
 case h_2=>cases hf
 rename_i c hc;cases hf;obtain⟨hlen,hpq⟩:=pS hl;have Wu:∃cz,(P.info? t).bind (·.zero)=some cz∧VR m z cz:=by
  unfold jk at hz;cases hi:P.info? t with
  | none=>simp[hi]at hz
  | some i=>
   cases hzz:i.zero with
   | none=>simp[hi,hzz]at hz
   | some cz=>simp[hi,hzz]at hz;exact⟨cz,by simp[hzz],qj m 4 cz z hz⟩
 obtain⟨cz,S3,TG⟩:=Wu;obtain⟨Q2,Rz,Re⟩:=qd (m:=m) (jo P t) (ps.toList.map fun p=>(p.1,σ p.2)) (l.map fun p=>(p.1,p.2.1,ρ p.2.2)) z.cells cz.cells c (by simp[hlen])
  (fun i p q VH hq=>by
   simp only[YU,XQ]at VH hq;obtain⟨p0,hp0,rfl⟩:=VH;obtain⟨q0,hq0,rfl⟩:=hq;obtain⟨h1,h2⟩:=hpq i p0 q0 hp0 hq0;exact⟨h1,hρ p0 (Yo hp0) _ h2⟩) TG.cells hc
 refine⟨.agg Q2,run_build w t _ Q2 ?_,⟨Q2.toList,rfl,Re⟩,rfl⟩;have:=BZ (z:=z) S3 hp Rz
 simpa using this
def AQ{t:TypeId}{n off l l'}(hn:zY P t=some n)(hl:cH m l l')
  (hf: (match n with| none=>(match l[off]? with| some v=>some (v,h)| none=>none)| some n=>some (.agg ((l.drop off).take n),h))=some (v,h')):
  ∃cv,(part t ⟨l'⟩ off).run P w= .ok cv w∧VR m v cv∧h' =h:=by
 cases n with
 | none=>
  simp only at hf;split at hf
  case h_2=>cases hf
  rename_i x hx;cases hf;obtain⟨cv,Sk,Qr⟩:=hl.get hx;exact⟨cv,by simp[part,uP hn,Sk],Qr,rfl⟩
 | some n=>
  cases hf;obtain⟨h1,h2⟩:=uO hn w;refine⟨.agg ⟨(l'.drop off).take n⟩,?_,⟨_,rfl,(hl.drop off).take n⟩,rfl⟩;simp only[part,XP,h1,XF,XR,bZ h2,X7];simp[List.extract_eq_take_drop]
end
section
variable {P:Program} {m:bY} {h h':ah} {w:World}
def wo{op k a b v}(hs:eC op=false)(hf:fC op k a b=some v)(t:TypeId):
  ∃cv,(binOp op t (.int k a) (.int k b)).run P w= .ok cv w∧VR m v cv:=by
 cases op<;>simp only[fC,eC]at hf hs<;>first
  | (cases hs;done)
  | (cases hf;done)
  | skip
 all_goals first
  | (cases hf;exact⟨_,by simp[binOp,Op.intArith,Op.intBits,Op.intCmp],rfl⟩)
  | (split at hf
     ·cases hf
     ·rename_i hb;cases hf;exact⟨_,by simp[binOp,Op.intDiv,hb],rfl⟩)
def wk{op k k' a b v}(hs:eC op=true)(hf:wb op k a b=some v)(t:TypeId):
  ∃cv,(binOp op t (.int k a) (.int k' b)).run P w= .ok cv w∧VR m v cv:=by
 unfold wb at hf;split at hf
 ·cases hf
 ·rename_i hb;cases op<;>first
   | (cases hs;done)
   | (cases hf;exact⟨_,by simp[binOp,Op.shift,hb],rfl⟩)
def toList_mk(l:By): (⟨⟨l⟩⟩:ByteArray).toList=l:=by rw[ByteArray.toList_eq]
def zI(a b:By): (⟨⟨a⟩⟩:ByteArray)++ ⟨⟨b⟩⟩= ⟨⟨a++b⟩⟩:=by
 apply ByteArray.ext
 rw[ByteArray.data_append];simp
def wj{op a b v}(hf:qv op a b=some v)(t:TypeId):
  ∃cv,(binOp op t (.string ⟨⟨a⟩⟩) (.string ⟨⟨b⟩⟩)).run P w= .ok cv w∧VR m v cv:=by
 cases op<;>simp only[qv]at hf<;>first
  | (cases hf;done)
  | skip
 all_goals first
  | (cases hf;exact⟨_,by simp[binOp,Op.stringOp,toList_mk],rfl⟩)
  | (split at hf
     ·rename_i hlen;cases hf;refine⟨.string ⟨⟨a++b⟩⟩,?_,rfl⟩;have hn:¬ (IntKind.i64.max < (((⟨⟨a⟩⟩:ByteArray).size+ (⟨⟨b⟩⟩:ByteArray).size:Nat):Int)):=by
       show ¬ ((9223372036854775807:Int)< ((a.length+b.length:Nat):Int));omega
      simp only[binOp,Op.stringOp,GT.gt,XG hn,zI,X7]
     ·cases hf)
def C9{op x v cx}(hx:VR m x cx)(hf:vX op x=some v):∃cv,(Op.unary op cx).run P w= .ok cv w∧VR m v cv:=by
 cases x with
 | int k n=>
  rw[VR]at hx;subst hx;cases op with
  | neg=>simp only[vX,X1]at hf;subst hf;exact⟨_,rfl,rfl⟩
  | xor=>simp only[vX,fC,X1]at hf;subst hf;exact⟨_,rfl,rfl⟩
  | not=>simp[vX]at hf
  | plus=>simp[vX]at hf
 | bool b=>
  rw[VR]at hx;subst hx;cases op<;>simp only[vX]at hf<;>first
   | (cases hf;done)
   | (cases hf;exact⟨_,by simp[Op.unary],rfl⟩)
 | _=>cases op<;>simp[vX]at hf
def qC{t:TypeId}{k}(ht:match k with| .b=>P.underlying t=some .bool| .i=>∃k,P.underlying t=some (.int k)| .s=>P.underlying t=some .string)
  {x y} {cx cy} {b} (hx:VR m x cx) (hy:VR m y cy) (hf:dh k x y=some b) (d:Nat): (Op.equalIn (d+1) t cx cy).run P w= .ok b w:=by
 unfold dh at hf;split at hf
 ·rw[VR]at hx hy;subst hx;subst hy;cases hf;exact run_equalIn_bool' w d t _ _ ht
 ·split at hf
  ·rename_i hk;rw[VR]at hx hy;subst hx;subst hy;subst hk;cases hf;obtain⟨k',hu⟩:=ht;exact run_equalIn_int w d t _ k' _ _ hu
  ·cases hf
 ·rw[VR]at hx hy;subst hx;subst hy;cases hf;rw[run_equalIn_string w d t _ _ ht,toList_mk,toList_mk]
 ·cases hf
theorem jf:∀ (ks ks':List CK) (xs ys xs' ys':List AV) (b:Bool),xs.length=ks.length→ys.length=ks.length→dA (ks++ks') (xs++xs') (ys++ys')=some b→
  (∃c,dA ks xs ys=some c∧((c=true∧dA ks' xs' ys' =some b)∨(c=false∧b=false)))
 | [],ks',[],[],xs',ys',b,_,_,h=>⟨true,rfl,.inl ⟨rfl,h⟩⟩
 | k::ks,ks',x::xs,y::ys,xs',ys',b,hx,hy,h=>by
  simp only[YL,dA]at h ⊢;cases hc:dh k x y with
  | none=>simp[hc]at h
  | some c=>
   cases c with
   | false=>simp[hc]at h;subst h;exact⟨false,Si,.inr ⟨rfl,rfl⟩⟩
   | true=>
    simp only[hc]at h;obtain⟨c,h1,h2⟩:=jf ks ks' xs ys xs' ys' b (by simpa using hx) (by simpa using hy) h;exact⟨c,by simpa using h1,h2⟩
 | [],_,_::_,_,_,_,_,h,_,_=>by simp at h
 | [],_,_,_::_,_,_,_,_,h,_=>by simp at h
 | _::_,_,[],_,_,_,_,h,_,_=>by simp at h
 | _::_,_,_,[],_,_,_,_,h,_=>by simp at h
def iJ(d:TypeDesc)(l:List Value):Value:=if jC d then .agg ⟨l⟩else l.headD default
def nA{t:TypeId}{d:TypeDesc}{n}(hd:P.underlying t=some d)(hn:dP P t=some n)(h1:jC d=false→n=1){l off}(hl:off+n≤l.length):
  (part t ⟨l⟩ off).run P w= .ok (iJ d ((l.drop off).take n)) w:=by
 unfold iJ;cases ha:jC d with
 | true=>
  simp only[part,XP,lF hd,ha,XF,XR,bZ hn,X7];simp[List.extract_eq_take_drop]
 | false=>
  have:=h1 ha;subst this;have hlt:off < l.length:=Om
  simp only[part,XP,lF hd,ha,XF];have e: (l.drop off).take 1= [l[off]]:=by
   rw[Zw hlt,Zo,List.take_zero]
  simp[e,hlt]
def sQ{d}{t:TypeId}{ks}(hf:flat P d t=some ks):∃ds,P.underlying t=some ds∧(jC ds=false→ks.length=1):=by
 cases d with
 | zero=>simp[flat]at hf
 | succ d=>
  unfold flat at hf;split at hf
  ·exact F7
  ·exact F7
  ·exact F7
  ·rename_i hu;exact⟨_,hu,fun h=>by cases h⟩
  ·rename_i hu;exact⟨_,hu,fun h=>by cases h⟩
  ·cases hf
def pO{t:TypeId}{fs}(hu:P.underlying t=some (.struct fs)):P.fieldsOf t=fs:=by simp[Program.fieldsOf,hu]
def AU:∀ (d:Nat) (t:TypeId) (ks:List CK),flat P d t=some ks→∀ (D:Nat),d≤D→∀ (ds:TypeDesc),P.underlying t=some ds→
  ∀ (xs ys:List AV) (vx vy:List Value) (b:Bool),xs.length=ks.length→ys.length=ks.length→cH m xs vx→cH m ys vy→dA ks xs ys=some b→
  ∀w:World,(Op.equalIn D t (iJ ds vx) (iJ ds vy)).run P w= .ok b w:=by
 intro d
 induction d with
 | zero=>intro t ks hf;simp[flat]at hf
 | succ d ih=>
  intro t ks hf D hD ds TL xs ys vx vy b Tj Ti hx hy he w;obtain⟨D,rfl⟩:∃D',D=D'+1:=⟨D - 1,Om⟩;have hone:∀{k:CK},ks= [k]→jC ds=false→(match k with| .b=>P.underlying t=some .bool| .i=>∃k,P.underlying t=some (.int k)| .s=>P.underlying t=some .string)→(Op.equalIn (D+1) t (iJ ds vx) (iJ ds vy)).run P w= .ok b w:=by
   intro k hk hd ht;subst hk
   match xs,ys,Tj,Ti with
   | [x],[y],_,_=>
    obtain⟨cx,_,rfl,Vj,h2⟩:=aS.1 hx;obtain⟨cy,_,rfl,hcy,h3⟩:=aS.1 hy;rw[bC]at h2 h3;subst h2;subst h3;simp only[dA]at he;have Rj:dh k x y=some b:=by
     cases hc:dh k x y with
     | none=>simp[hc]at he
     | some c=>cases c<;>simp[hc]at he<;>simp[he]
    simp only[iJ,hd,List.headD_cons,Yj,XO];exact qC ht Vj hcy Rj D
  unfold flat at hf;split at hf
  ·exact IX
  ·rename_i hu;rw[hu]at TL;cases TL;cases hf;exact hone rfl rfl ⟨_,hu⟩
  ·exact IX
  ·rename_i fs hu;rw[hu]at TL;cases TL;split at hf
   case isFalse=>cases hf
   rename_i bS;simp only[iJ,jC,XR];rw[run_equalIn_struct w D t ⟨vx⟩ ⟨vy⟩ (by rw[pO hu];exact hu) bS,pO hu];have key:∀ (fl:List Field) (off:Nat) (ks:List CK) (xs ys:List AV) (b:Bool),vz P (flat P d) fl off=some ks→xs.length=ks.length→ys.length=ks.length→
     cH m xs (vx.drop off)→cH m ys (vy.drop off)→dA ks xs ys=some b→(Op.eqFields D ⟨vx⟩ ⟨vy⟩ fl).run P w= .ok b w:=by
    intro fl
    induction fl with
    | nil=>
     intro off ks xs ys b QT Tj Ti hx hy he;simp only[vz,X1]at QT;subst QT
     match xs,ys,Tj,Ti with
     | [],[],_,_=>cases he;rfl
    | cons f fl ihf=>
     intro off ks xs ys b QT Tj Ti hx hy he;simp only[vz]at QT;split at QT
     case h_2=>cases QT
     rename_i k1 i hk1 hi;split at QT
     case isFalse=>cases QT
     rename_i QH;obtain⟨hname,hoff,dX,hpos⟩:=QH;split at QT
     case h_2=>cases QT
     rename_i k2 Qq;cases QT;subst hoff;obtain⟨ds',S0,h1'⟩:=sQ hk1;have Q6:dP P f.type=some k1.length:=by simp[dP,hi,dX]
     have WX:xs=xs.take k1.length++xs.drop k1.length:=(YR _ _).symm;have WW:ys=ys.take k1.length++ys.drop k1.length:=(YR _ _).symm;simp only[Xs]at Tj Ti;rw[WX,WW]at he;obtain⟨c,hc1,Xl⟩:=jf k1 k2 _ _ _ _ b (by simp;omega) (by simp;omega) he;have Tq:f.offset+k1.length≤vx.length:=by have:=hx.length;simp at this;omega
     have hvy:f.offset+k1.length≤vy.length:=by have:=hy.length;simp at this;omega
     simp only[Op.eqFields,XI hname,XP,nA S0 Q6 (fun h=>h1' h) Tq,nA S0 Q6 (fun h=>h1' h) hvy,XF];rw[ih f.type k1 hk1 D Om ds' S0 _ _ _ _ c (by simp;omega) (by simp;omega) (hx.take k1.length) (hy.take k1.length) hc1 w];rcases Xl with⟨rfl,hr⟩| ⟨rfl,rfl⟩
     ·simp only[XF,XW,Yj,XO];exact ihf (f.offset+k1.length) k2 _ _ b Qq (by simp;omega) (by simp;omega) (by have:=hx.drop k1.length;rwa [YX]at this) (by have:=hy.drop k1.length;rwa [YX]at this) hr
     ·simp
   exact key fs.toList 0 ks xs ys b hf Tj Ti (by simpa using hx) (by simpa using hy) he
  ·rename_i len e hu;rw[hu]at TL;cases TL;split at hf
   case h_2=>cases hf
   rename_i k1 i hk1 hi;split at hf
   case isFalse=>cases hf
   rename_i QH;obtain⟨dX,hpos⟩:=QH;cases hf;obtain⟨ds',S0,h1'⟩:=sQ hk1;have Q6:dP P e=some k1.length:=by simp[dP,hi,dX]
   simp only[iJ,jC,XR];have key:∀ (n j:Nat) (xs ys:List AV) (b:Bool),j+n=len→xs.length= (List.replicate n k1).flatten.length→ys.length= (List.replicate n k1).flatten.length→
     cH m xs (vx.drop (j * k1.length))→cH m ys (vy.drop (j * k1.length))→dA (List.replicate n k1).flatten xs ys=some b→
     (forIn (m:=Sem) (List.range' j n) ((none,()):Option Bool×Unit) fun(i:Nat) (_:Option Bool×Unit)=>do
      let a ←part e ⟨vx⟩ (i * k1.length)
      let c ←part e ⟨vy⟩ (i * k1.length)
      let r ←Op.equalIn D e a c
      if(!r)=true then pure (ForInStep.done (some false,()))else pure (ForInStep.yield (none,()))).run P w= .ok (if b then(none,())else(some false,())) w:=by
    intro n
    induction n with
    | zero=>
     intro j xs ys b _ Tj Ti _ _ he;simp only[ZW,List.flatten_nil,XA]at Tj Ti he
     match xs,ys,Tj,Ti with
     | [],[],_,_=>cases he;rfl
    | succ n ihn=>
     intro j xs ys b hj Tj Ti hx hy he;simp only[Y5,YF,Xs]at Tj Ti he;have WX:xs=xs.take k1.length++xs.drop k1.length:=(YR _ _).symm;have WW:ys=ys.take k1.length++ys.drop k1.length:=(YR _ _).symm;rw[WX,WW]at he;obtain⟨c,hc1,Xl⟩:=jf k1 _ _ _ _ _ b (by simp;omega) (by simp;omega) he;have Tq:j * k1.length+k1.length≤vx.length:=by have:=hx.length;simp at this;omega
     have hvy:j * k1.length+k1.length≤vy.length:=by have:=hy.length;simp at this;omega
     simp only[List.range'_succ,List.forIn_cons,XP,nA S0 Q6 (fun h=>h1' h) Tq,nA S0 Q6 (fun h=>h1' h) hvy,XF];rw[ih e k1 hk1 D Om ds' S0 _ _ _ _ c (by simp;omega) (by simp;omega) (hx.take k1.length) (hy.take k1.length) hc1 w];rcases Xl with⟨rfl,hr⟩| ⟨rfl,rfl⟩
     ·simp only[XF,XW,Yj,XO,X7];exact ihn (j+1) _ _ b Om (by rw[ZK];omega) (by rw[ZK];omega) (by have:=hx.drop k1.length;rw[YX]at this;rwa [YK]) (by have:=hy.drop k1.length;rw[YX]at this;rwa [YK]) hr
     ·simp
   have hk:=key len 0 xs ys b Om Tj Ti (by simpa using hx) (by simpa using hy) he;simp only[Op.equalIn,XP,XN hu,XF,bZ Q6,Std.Legacy.Range.forIn_eq_forIn_range',Std.Legacy.Range.size];simp only[Nat.sub_zero,Nat.add_one_sub_one,Nat.div_one];rw[hk];cases b<;>rfl
  ·cases hf
end
def oz(m:bY)(ρ:cW→AV):Option cW→Option Value→Prop
 | none,none=>True
 | some x,some cx=>VR m (ρ x) cx
 | _,_=>False
section
variable {P:Program} {m:bY} {h h':ah} {w:World} {ρ:cW→AV} {v:AV}
def fe{t e:TypeId}{i:TypeInfo}(hs:dQ P t=some (e,i)):P.underlying t=some (.slice e)∧P.info? e=some i:=by
 unfold dQ at hs;split at hs
 ·rename_i e' hu;cases hi:P.info? e' with
  | none=>simp[hi]at hs
  | some i'=>simp[hi]at hs;obtain⟨rfl,rfl⟩:=hs;exact⟨hu,hi⟩
 ·cases hs
def jj(n:Nat)(z:List AV): (dI n z).length=n * z.length:=by simp[dI]
def rR{z:List AV}{cz:Array Value}(hz:cH m z cz.toList)(hpos:0 < z.length)(n k:Nat)(hk:k≤n):
  cH m (dI k z) (((Array.range (n * cz.size)).map (cz[·% cz.size]!)).toList.take (k * z.length)):=by
 have dX:cz.size=z.length:=by have:=hz.length;simpa using this
 refine cH.gL ?_ ?_
 ·rw[jj];simp[dX,Zm hk]
 ·intro i x hx;have hi:i < k * z.length:=by have:=(Xr.1 hx).1;rw[jj]at this;exact this
  have hmod:i % z.length < z.length:=Nat.mod_lt _ hpos;have Qw: (dI k z)[i]? =z[i % z.length]? :=by
   clear hx hk;unfold dI
   induction k generalizing i with
   | zero=>omega
   | succ k ih=>
    rw[Y5,YF];by_cases hlt:i < z.length
    ·rw[Xv hlt,Nat.mod_eq_of_lt hlt]
    ·rw[XE Om,ih (i - z.length) (by rw[YK]at hi;omega) (Nat.mod_lt _ hpos)];congr 1;rw[←Nat.mod_eq_sub_mod Om]
  rw[Qw]at hx;obtain⟨y,hy,hr⟩:=hz.get hx;refine⟨y,?_,hr⟩;have hin:i < n * z.length:=Ym hi (Yz _ hk);rw[ZB hi,YS,Array.getElem?_map,Array.getElem?_range,dX,XI hin];simp only[Zp,X1];rw[getElem!_pos cz _ Om];have:=(Xr.1 hy).2
  simpa using this
def Ad{z}(hz:z.all AV.one=true)(n:Nat): (dI n z).all AV.one=true:=by
 rw[X5]at hz ⊢;intro x hx;simp only[dI,List.mem_flatten,List.mem_replicate]at hx;obtain⟨l,⟨_,rfl⟩,hx⟩:=hx;exact hz x hx
def Gs{t e:TypeId}{i:TypeInfo}{z:AV}{l c:cW}{cl cc:Value}(hs:dQ P t=some (e,i))(hz:jk P e=some z)(hpos:0 < i.size)(hzl:z.cells.length=i.size)(h1:z.cells.all AV.one=true)
  (hr:HR P m h w) (hl:VR m (ρ l) cl) (hc:VR m (ρ c) cc) (hf:dt (.rH i.size i.bytes z.cells l c) ρ h=some (v,h')):
  ∃cv w' m',(Instr.makeSlice t cl cc).run P w= .ok cv w'∧VR m' v cv∧HR P m' h' w'∧Grow m h w m' h' w':=by
 obtain⟨hu,hi⟩:=fe hs;simp only[dt]at hf;split at hf
 case h_2=>cases hf
 rename_i kl l' kc c' hρl hρc;rw[hρl,VR]at hl;rw[hρc,VR]at hc;subst hl;subst hc;split at hf
 case isFalse=>cases hf
 rename_i QH;obtain⟨h0,hlc,hb,hc63⟩:=QH;cases hf;obtain⟨cz,S3,TG⟩:=jF hz w m;have hzc:=TG.cells;obtain⟨n,rfl⟩:=Int.eq_ofNat_of_zero_le (Int.le_trans h0 hlc);obtain⟨k,rfl⟩:=Int.eq_ofNat_of_zero_le h0;have hkn:k≤n:=Om
 have hwl:IntKind.i64.wrap (k:Int)=k:=wrap64 Om Om;have hwc:IntKind.i64.wrap (n:Int)=n:=wrap64 Om Om;have dX:cz.cells.size=z.cells.length:=by have:=hzc.length;simpa using this
 let row:Array Value:=(Array.range (n * cz.cells.size)).map (cz.cells[·% cz.cells.size]!)
 have hrow:cH m (dI k z.cells) (row.toList.take (k * z.cells.length)):=rR hzc Om n k hkn;have hrs:row.size=n * i.size:=by simp[row,dX,hzl]
 let e':rQ:=⟨w.heap.size,0,row.size,true⟩
 have VT:=jS hr (.cells row e) (.cells (dI k z.cells) true true) e' rfl rfl (fun m' hm=>by
  refine⟨row,e,(0,0),World.alloc_heap_new w _,⟨?_,?_,rfl⟩,?_,fun _=>⟨rfl,fun i _=>by simp⟩,fun _=>⟨rfl,fun x=>by cases x⟩⟩
  ·exact z117
  ·exact z117
  ·intro j x hx;obtain⟨y,hy,Qr⟩:=hrow.get hx;have hj:j < k * z.cells.length:=by have:=(Xr.1 hx).1;rw[jj]at this;exact this
   rw[ZB hj]at hy;refine⟨X5.1 (Ad h1 k) x (Yo hx),y,?_,VR.mono hm _ _ Qr⟩;show row[0+j]? =some y;rw[Yk,←YS];exact hy)
 refine⟨.slice (some ⟨w.heap.size,0,none⟩) k n,w.alloc (.cells row e),m.add h.length e',?_,⟨e',⟨w.heap.size,0,none⟩,n,by simp[bY.add],rfl,hkn,fun _=>rfl,?_⟩,VT.1,VT.2⟩
 ·have QF: (sizeOf e).run P w= .ok i.size w:=bZ (by simp[dP,hi]) w;have SA:¬ ((i.bytes:Int) * n > 2^48):=Om
  have Uh: (typeInfo e).run P w= .ok i w:=by simp[typeInfo,hi]
  have UI:¬ ((n:Int)< 0):=Om
  have hk0:¬ ((k:Int)< 0):=Om
  have hkn':¬ ((k:Int)> (n:Int)):=Om
  simp only[Instr.makeSlice,XP,XN hu,XF,asInt,asIntOf,X7,Uh,hwl,hwc,UI,hk0,hkn',SA];simp only[XX,Bool.or_self,Yj,XO,run_askRoom,XF,QF,Int.toNat_natCast,XP,Sem.run_ite,X7,S3];by_cases Wu:n * i.size=0
  ·simp only[Wu,XR,XF,newRow,run_newObj,XP,X7];have:row=#[]:=by apply Array.eq_empty_of_size_eq_zero;omega
   have e0: (Array.range 0).map (fun x=>(#[] :Array Value)[x % (#[] :Array Value).size]!)=#[]:=Si
   rw[this,e0];rfl
  ·simp only[Wu,XO,XF,newRow,run_newObj,XP,X7];have:row= (Array.range (n * i.size)).map (cz.cells[·% cz.cells.size]!):=by show(Array.range (n * cz.cells.size)).map _=_;rw[dX,hzl]
   rw[this];rfl
 ·show 0+0+n * i.size≤row.size;omega
def lP{lo hi}{n l u:Nat}(hb:iO lo hi n=some (l,u)):l≤u∧u≤n∧GY lo=some (l:Int)∧FA n hi=some (u:Int):=by
 unfold iO at hb;split at hb
 case h_2=>cases hb
 rename_i a b ha hb';split at hb
 case isFalse=>cases hb
 rename_i hc;obtain⟨h0,h1,h2⟩:=hc;simp only[X1,ZQ]at hb;obtain⟨rfl,rfl⟩:=hb;exact⟨Om,Om,by rw[ha];congr 1;omega,by rw[hb'];congr 1;omega⟩
def fI{lo hi TC Tf}(hlo:oz m ρ lo TC)
  (hhi:oz m ρ hi Tf) {n l u} (hb:iO (lo.map ρ) (hi.map ρ) n=some (l,u)) (isSlice:Bool) (cap:Nat) (hcap:n≤cap):
  (Instr.sliceBounds isSlice n cap TC Tf none).run P w= .ok (l,u,cap) w:=by
 obtain⟨U9,hun,h1,h2⟩:=lP hb;have hh:∀ (x:cW) (cx:Value),VR m (ρ x) cx→FA n (some (ρ x))=some (u:Int)→∃k,cx= .int k u:=by
  intro x cx hx hu;cases hρ:ρ x<;>simp[FA,hρ]at hu;subst hu;rw[hρ,VR]at hx;exact⟨_,hx⟩
 have hl:∀ (x:cW) (cx:Value),VR m (ρ x) cx→GY (some (ρ x))=some (l:Int)→∃k,cx= .int k l:=by
  intro x cx hx hu;cases hρ:ρ x<;>simp[GY,hρ]at hu;subst hu;rw[hρ,VR]at hx;exact⟨_,hx⟩
 have hcu: (u:Int)≤cap:=Om
 have hlu': (l:Int)≤u:=Om
 have hbu:∀ (k:IntKind) (code:BoundsCode) (w:World),(Instr.sliceBound (.int k u) cap code).run P w= .ok u w:=by
  intro k code w;simp[Instr.sliceBound,asIntOf,hcu]<;>omega
 have hbl:∀ (k:IntKind) (code:BoundsCode) (w:World),(Instr.sliceBound (.int k l) u code).run P w= .ok l w:=by
  intro k code w;simp[Instr.sliceBound,asIntOf]<;>omega
 cases lo with
 | none=>
  cases TC with
  | some _=>exact hlo.elim
  | none=>
   simp only[ZP,GY,X1]at h1;cases hi with
   | none=>
    cases Tf with
    | some _=>exact hhi.elim
    | none=>
     simp only[ZP,FA,X1]at h2;have hn:u=n:=Om
     have Vd:l=0:=Om
     subst hn;subst Vd;simp[Instr.sliceBounds]
   | some y=>
    cases Tf with
    | none=>exact hhi.elim
    | some cy=>
     obtain⟨k,rfl⟩:=hh y cy hhi h2;have Vd:l=0:=Om
     subst Vd;simp[Instr.sliceBounds,hbu]
 | some x=>
  cases TC with
  | none=>exact hlo.elim
  | some cx=>
   obtain⟨kx,rfl⟩:=hl x cx hlo h1;cases hi with
   | none=>
    cases Tf with
    | some _=>exact hhi.elim
    | none=>
     simp only[ZP,FA,X1]at h2;have hn:u=n:=Om
     subst hn;simp[Instr.sliceBounds,hbl]
   | some y=>
    cases Tf with
    | none=>exact hhi.elim
    | some cy=>
     obtain⟨k,rfl⟩:=hh y cy hhi h2;simp[Instr.sliceBounds,hbu,hbl]
def extract_mk(s:By)(l u:Nat): (⟨⟨s⟩⟩:ByteArray).extract l u= ⟨⟨(s.drop l).take (u - l)⟩⟩:=by
 apply ByteArray.ext
 simp[ByteArray.data_extract,List.extract_eq_take_drop]
def MI{t:TypeId}{es x lo hi cx TC Tf}{e:TypeId}(hu:P.underlying t=some (.slice e))(hes:dP P e=some es)
  (hx:VR m (ρ x) cx) (hlo:oz m ρ lo TC)
  (hhi:oz m ρ hi Tf) (hf:dt (.sl es x lo hi) ρ h=some (v,h')):
  ∃cv,(Instr.sliceAt t cx TC Tf none).run P w= .ok cv w∧VR m v cv∧h' =h:=by
 simp only[dt]at hf;split at hf
 ·rename_i b o n es' hρ;rw[hρ]at hx;obtain⟨en,ca,cap,QZ,rfl,QM,Q1,hroom⟩:=hx;split at hf
  case isFalse=>cases hf
  rename_i hees;subst hees;split at hf
  case h_2=>cases hf
  rename_i l u hb;cases hf;obtain⟨U9,hun,_,_⟩:=lP hb;refine⟨.slice (some (if cap=l then ca else ca.add (l * es'))) (u - l) (cap - l),?_,⟨en,_,cap - l,QZ,rfl,Om,?_,?_⟩,rfl⟩
  ·simp only[Instr.sliceAt,XP,XN hu,XF,Instr.slice,fI hlo hhi hb true cap QM,bZ hes,X7];by_cases hcl:cap=l<;>simp[hcl]
  ·intro hpos;rw[XG Om,Q1 Om,gA];simp only[Addr.mk.injEq,Z5,and_true];omega
  ·have:cap=l+ (cap - l):=Om
   rw[this,ZO]at hroom;omega
 ·rename_i hρ;rw[hρ,VR]at hx;subst hx;split at hf
  case h_2=>cases hf
  rename_i p hb;obtain⟨l,u⟩:=p;cases hf;obtain⟨U9,hun,_,_⟩:=lP hb;have Vd:l=0:=Om
  have Th:u=0:=Om
  subst Vd;subst Th;refine⟨.slice none 0 0,?_,rfl,rfl⟩;simp only[Instr.sliceAt,XP,XN hu,XF,Instr.slice,fI hlo hhi hb true 0 (XH _),bZ hes,X7];simp
 ·cases hf
def JP{t:TypeId}{x lo hi cx TC Tf}(hu:P.underlying t=some .string)
  (hx:VR m (ρ x) cx) (hlo:oz m ρ lo TC)
  (hhi:oz m ρ hi Tf) (hf:dt (.pr x lo hi) ρ h=some (v,h')):
  ∃cv,(Instr.sliceAt t cx TC Tf none).run P w= .ok cv w∧VR m v cv∧h' =h:=by
 simp only[dt]at hf;split at hf
 case h_2=>cases hf
 rename_i s hρ;rw[hρ,VR]at hx;subst hx;split at hf
 case h_2=>cases hf
 rename_i l u hb;cases hf;refine⟨.string ((⟨⟨s⟩⟩:ByteArray).extract l u),?_,by rw[extract_mk];rfl,rfl⟩;have hs: (⟨⟨s⟩⟩:ByteArray).size=s.length:=rfl;simp only[Instr.sliceAt,XP,XN hu,XF,Instr.slice];simp[hs,fI hlo hhi hb false s.length (XH _)]
def JQ{t:TypeId}{k es x lo hi cx TC Tf}{e:TypeId}(hu:P.underlying t=some (.array k e))(hes:dP P e=some es)(hr:HR P m h w)
  (hx:VR m (ρ x) cx) (hlo:oz m ρ lo TC)
  (hhi:oz m ρ hi Tf) (hf:dt (.LV k es x lo hi) ρ h=some (v,h')):
  ∃cv,(Instr.sliceAt t cx TC Tf none).run P w= .ok cv w∧VR m v cv∧h' =h:=by
 simp only[dt]at hf;split at hf
 case h_2=>cases hf
 rename_i b o hρ;rw[hρ]at hx;obtain⟨en,QZ,rfl⟩:=hx;split at hf
 case h_2=>cases hf
 rename_i c mu tl hbk;split at hf
 case isFalse=>cases hf
 rename_i hle;split at hf
 case h_2=>cases hf
 rename_i l u hb;cases hf;obtain⟨U9,hun,_,_⟩:=lP hb;obtain⟨_,_,_,_,⟨_,dX⟩,_⟩:=hr.dN b en _ QZ hbk;refine⟨.slice (some (if k=l then⟨en.cb,o+en.d,none⟩else(⟨en.cb,o+en.d,none⟩:Addr).add (l * es))) (u - l) (k - l),?_,⟨en,_,k - l,QZ,rfl,Om,?_,?_⟩,rfl⟩
 ·simp only[Instr.sliceAt,XP,XN hu,XF,Instr.sureAddr,X7,fI hlo hhi hb false k (XH _),bZ hes]
 ·intro hpos;rw[XG Om,gA];simp only[Addr.mk.injEq,Z5,and_true];omega
 ·have:k=l+ (k - l):=Om
  rw[this,ZO]at hle;omega
def qB{a f n}(hn:dP P f.type=some n)(hpos:0 < n): (fieldPlace a f).run P w= .ok (a.add f.offset) w:=by
 have:n≠0:=Om
 simp[fieldPlace,bZ hn,this]
def Gw{t:TypeId}{i n f x cx}(hfa:fieldAt P t i=some f)(hn:dP P f.type=some n)(hpos:0 < n)(hx:VR m (ρ x) cx)(hf:dt (.aR f.offset x) ρ h=some (v,h')):
  ∃cv,(Instr.fieldAt t cx i).run P w= .ok cv w∧VR m v cv∧h' =h:=by
 unfold Abs.fieldAt at hfa;split at hfa
 case h_2=>cases hfa
 rename_i fs hu;simp only[dt]at hf;split at hf
 case h_2=>cases hf
 rename_i b o hρ;cases hf;rw[hρ]at hx;obtain⟨e,he,rfl⟩:=hx;refine⟨_,?_,⟨e,he,rfl⟩,rfl⟩;simp only[Instr.fieldAt,XP,XN hu,XF,hfa,Instr.sureAddr,X7,qB hn hpos,gA];rw[Nat.add_right_comm]
def Gu{t e:TypeId}{es x i cx ci}(hu:P.underlying t=some (.slice e))(hes:dP P e=some es)(hx:VR m (ρ x) cx)(hi:VR m (ρ i) ci)(hf:dt (.ba es x i) ρ h=some (v,h')):
  ∃cv,(Instr.indexAt t cx ci).run P w= .ok cv w∧VR m v cv∧h' =h:=by
 simp only[dt]at hf;split at hf
 case h_2=>cases hf
 rename_i b o n es' k j Rd SO;rw[Rd]at hx;rw[SO,VR]at hi;subst hi;obtain⟨en,ca,cap,QZ,rfl,QM,Q1,hroom⟩:=hx;split at hf
 case isFalse=>cases hf
 rename_i hc;obtain⟨rfl,h0,h1⟩:=hc;cases hf;refine⟨_,?_,⟨en,QZ,rfl⟩,rfl⟩;simp only[Instr.indexAt,asIntOf,XP,X7,XF,XN hu];rw[XI ⟨h0,h1⟩];simp only[XP,bZ hes,XF,X7,Q1 Om,gA];rw[Nat.add_right_comm]
def Gv{t e:TypeId}{len es x i cx ci}(hu:P.underlying t=some (.array len e))(hes:dP P e=some es)(hx:VR m (ρ x) cx)(hi:VR m (ρ i) ci)(hf:dt (.rJ len es x i) ρ h=some (v,h')):
  ∃cv,(Instr.indexAt t cx ci).run P w= .ok cv w∧VR m v cv∧h' =h:=by
 simp only[dt]at hf;split at hf
 case h_2=>cases hf
 rename_i b o k j Rd SO;rw[Rd]at hx;rw[SO,VR]at hi;subst hi;obtain⟨en,QZ,rfl⟩:=hx;split at hf
 case isFalse=>cases hf
 rename_i hc;obtain⟨h0,h1⟩:=hc;cases hf;refine⟨_,?_,⟨en,QZ,rfl⟩,rfl⟩;simp only[Instr.indexAt,asIntOf,XP,X7,XF,XN hu,Instr.sureAddr];rw[XI ⟨h0,h1⟩];simp only[XP,bZ hes,XF,X7,gA];rw[Nat.add_right_comm]
def C6{t:TypeId}{i f n x cx}(hfa:fieldAt P t i=some f)(hn:zY P f.type=some n)(hx:VR m (ρ x) cx)(hf:dt (.part n f.offset x) ρ h=some (v,h')):
  ∃cv,(Instr.field t cx i).run P w= .ok cv w∧VR m v cv∧h' =h:=by
 unfold Abs.fieldAt at hfa;split at hfa
 case h_2=>cases hfa
 rename_i fs hu;simp only[dt]at hf;split at hf
 case h_2=>cases hf
 rename_i cs hρ;rw[hρ]at hx;obtain⟨l',rfl,hl⟩:=hx;obtain⟨cv,h1,h2,h3⟩:=AQ (w:=w) hn hl (by cases n<;>exact hf);exact⟨cv,by simp only[Instr.field,XP,XN hu,XF,hfa,asAgg,X7,h1],h2,h3⟩
def JS{t e:TypeId}{len es n x i cx ci}(hu:P.underlying t=some (.array len e))(hes:dP P e=some es)(hn:zY P e=some n)(hx:VR m (ρ x) cx)(hi:VR m (ρ i) ci)
  (hf:dt (.It len es n x i) ρ h=some (v,h')):∃cv,(Instr.index t cx ci).run P w= .ok cv w∧VR m v cv∧h' =h:=by
 simp only[dt]at hf;split at hf
 case h_2=>cases hf
 rename_i cs k j Rd SO;rw[Rd]at hx;rw[SO,VR]at hi;subst hi;obtain⟨l',rfl,hl⟩:=hx;split at hf
 case isFalse=>cases hf
 rename_i hc;obtain⟨cv,h1,h2,h3⟩:=AQ (w:=w) (off:=j.toNat * es) hn hl (by cases n<;>exact hf);refine⟨cv,?_,h2,h3⟩;simp only[Instr.index,asIntOf,XP,X7,XF,XN hu];rw[XI hc];simp only[XP,bZ hes,XF,h1]
def JR{t:TypeId}{x i cx ci}(hu:P.underlying t=some .string)(hx:VR m (ρ x) cx)(hi:VR m (ρ i) ci)
  (hf:dt (.pV x i) ρ h=some (v,h')):∃cv,(Instr.index t cx ci).run P w= .ok cv w∧VR m v cv∧h' =h:=by
 simp only[dt]at hf;split at hf
 case h_2=>cases hf
 rename_i s k j Rd SO;rw[Rd,VR]at hx;rw[SO,VR]at hi;subst hi;subst hx;split at hf
 case isFalse=>cases hf
 rename_i h0;split at hf
 case h_2=>cases hf
 rename_i b hb;cases hf;refine⟨.int .u8 b.toNat,?_,rfl,rfl⟩;have hb': (⟨⟨s⟩⟩:ByteArray)[j.toNat]? =some b:=by
  show(if h:j.toNat < s.length then some (s[j.toNat])else none)=some b;obtain⟨hlt,he⟩:=Xr.1 hb;rw[dif_pos hlt,he]
 simp only[Instr.index,asIntOf,XP,X7,XF,XN hu,XI h0,hb']
end
def aq.isObj:aq→Bool
 | .bn _=>true
 | .iter _ _=>true
 | .loop _ _ _ _ _ _=>true
 | _=>false
section
variable {P:Program} {m:bY} {h h':ah} {w:World} {ρ:cW→AV} {v:AV}
def jJ(hr:HR P m h w){b e k k' o}(he:m b=some e)(hb:h[b]? =some k)(hk:k.isObj=true)(hk':k'.isObj=true∨k' = .dead)
  (hnew:BR P m (w.putObj e.cb o) e k'):HR P m (h.set b k') (w.putObj e.cb o)∧Grow m h w m (h.set b k') (w.putObj e.cb o):=by
 have hbl:b < h.length:=hr.cI _ _ he;have Ue:k.live=true:=by cases k<;>first| rfl| cases hk
 have hown:e.own=true:=by
  have:=hr.dN b e k he hb;cases k<;>first| exact this.1| (cases hk;done)
 have hother:∀i,i≠e.cb→(w.putObj e.cb o).heap[i]? =w.heap[i]? :=fun i hi=>World.putObj_heap_other hi
 have hsep:∀b' e' k2,b'≠b→m b' =some e'→h[b']? =some k2→k2.live=true→e'.cb≠e.cb:=by
  intro b' e' k2 hne Rj Qq hl hcb;have:=hr.sep b' b e' e k2 k hne Rj he Qq hb hcb;cases k<;>cases k2<;>first| exact this| (cases hk;done)| (cases hl;done)
 refine⟨⟨?_,?_,?_,hr.fN,fun b' e' hb'=>by simpa using hr.lt b' e' hb'⟩,⟨fun _ _=>rfl,Si,?_,?_,Si,rfl,rfl,rfl,?_⟩⟩
 ·intro b' e' hb';simpa using hr.cI b' e' hb'
 ·intro b' e' k2 Rj Qq;rw[bH h b b' _ hbl]at Qq;by_cases hbb:b' =b
  ·subst hbb;rw[XI rfl]at Qq;cases Qq;rw[he]at Rj;cases Rj;exact hnew
  ·rw[XG hbb]at Qq;have h0:=hr.dN b' e' k2 Rj Qq;by_cases hl:k2.live=true
   ·exact h0.heap (hother _ (hsep b' e' k2 hbb Rj Qq hl))
   ·exact F6
 ·intro b1 b2 e1 e2 k1 k2 hne RH Qy hk1 Qq hcb;rw[bH h b _ _ hbl]at hk1 Qq;by_cases QS:b1=b
  ·subst QS;rw[XI rfl]at hk1;cases hk1;rw[XG (fun x=>hne x.symm)]at Qq;rw[he]at RH;cases RH;by_cases hl:k2.live=true
   ·exact absurd hcb.symm (hsep b2 e2 k2 (fun x=>hne x.symm) Qy Qq hl)
   ·cases k2<;>first| (cases k'<;>trivial)| exact absurd rfl hl
  ·rw[XG QS]at hk1;by_cases Q4:b2=b
   ·subst Q4;rw[XI rfl]at Qq;cases Qq;rw[he]at Qy;cases Qy;by_cases hl:k1.live=true
    ·exact absurd hcb (hsep b1 e1 k1 hne RH hk1 hl)
    ·cases k1<;>first| trivial| exact absurd rfl hl
   ·exact LM
 ·intro b' e' hb' Rj;exact absurd (hr.cI _ _ Rj) Om
 ·intro b' hb' ht;unfold dY at ht ⊢;rw[bH h b b' _ hbl]at ht;by_cases hbb:b' =b
  ·subst hbb;rw[XI rfl]at ht;rcases hk' with hk'| hk'
   ·cases k'<;>first| (cases hk';done)| (cases ht;done)
   ·subst hk';cases ht
  ·exact Cy
 ·intro i hi hno;exact hother i (fun hcb=>hno b e he hown hcb.symm)
def jW{r o}(ho:w.heap[r]? =some o)(hc:o.isCells=false): (getObj r).run P w= .ok o w:=by
 cases o<;>first| (cases hc;done)| simp[getObj,Sem.run,ho]
def mE{r o o'}(ho:w.heap[r]? =some o)(hc:o.isCells=false): (setObj r o').run P w= .ok () (w.putObj r o'):=by
 cases o<;>first| (cases hc;done)| simp[setObj,Sem.run,ho,World.putObj]
def Gq{t:TypeId}{x cx}(hu:P.underlying t=some .string)(hr:HR P m h w)(hx:VR m (ρ x) cx)(hf:dt (.wq x) ρ h=some (v,h')):
  ∃cv w' m',(Instr.range t cx).run P w= .ok cv w'∧VR m' v cv∧HR P m' h' w'∧Grow m h w m' h' w':=by
 simp only[dt]at hf;split at hf
 case h_2=>cases hf
 rename_i s hρ;rw[hρ,VR]at hx;subst hx;cases hf;have VT:=jS hr (.stringIter ⟨⟨s⟩⟩ 0) (.iter s 0) ⟨w.heap.size,0,0,true⟩ rfl rfl (fun m' _=>⟨rfl,rfl,World.alloc_heap_new w _⟩);exact⟨.pointer (some ⟨w.heap.size,0,none⟩),_,_,by simp[Instr.range,XN hu],⟨⟨w.heap.size,0,0,true⟩,by simp[bY.add],rfl⟩,VT.1,VT.2⟩
def C7{t:TypeId}{x cx}(hr:HR P m h w)(hx:VR m (ρ x) cx)(hf:dt (.nF x) ρ h=some (v,h')):
  ∃cv w' m',(Instr.next cx true t).run P w= .ok cv w'∧VR m' v cv∧HR P m' h' w'∧Grow m h w m' h' w':=by
 simp only[dt]at hf;split at hf
 case h_2=>cases hf
 rename_i b hρ;rw[hρ]at hx;obtain⟨e,he,rfl⟩:=hx;split at hf
 case h_2=>cases hf
 rename_i s pos hb;obtain⟨hown,hd0,hheap⟩:=hr.dN b e _ he hb;have hg:=jW (P:=P) hheap rfl;have dX: (⟨⟨s⟩⟩:ByteArray).size=s.length:=rfl;split at hf
 ·rename_i hlt;cases hf;have hbl:e.cb < w.heap.size:=(XM.1 hheap).1;obtain⟨h1,h2⟩:=jJ hr he hb rfl (k':=.iter s (pos+ (Utf8.decode ⟨⟨s⟩⟩ pos).2)) (o:=.stringIter ⟨⟨s⟩⟩ (pos+ (Utf8.decode ⟨⟨s⟩⟩ pos).2)) (.inl rfl) ⟨hown,hd0,World.putObj_heap_same hbl⟩;refine⟨.tuple #[.bool true,goInt pos,.int .i32 (Utf8.decode ⟨⟨s⟩⟩ pos).1],_,m,?_,⟨_,rfl,?_⟩,h1,h2⟩
  ·simp[Instr.next,hd0,hg,dX,hlt,mE hheap rfl]
  ·exact⟨_,_,rfl,rfl,_,_,rfl,rfl,_,_,rfl,rfl,rfl⟩
 ·rename_i hlt;cases hf;refine⟨.tuple #[.bool false],w,m,?_,⟨_,rfl,_,_,rfl,rfl,rfl⟩,hr,Grow.refl m h w hr.cI⟩;simp[Instr.next,hd0,hg,dX,hlt]
def zk(kk:CK)(d:TypeDesc):Prop:=
 match kk with
 | .b=>d= .bool
 | .i=>∃i,d= .int i
 | .s=>d= .string
def sL{t:TypeId}{kk}(hk:wT P t=some kk):∃d,P.underlying t=some d∧zk kk d:=by
 unfold wT at hk;split at hk
 ·rename_i k hu;cases hk;exact⟨_,hu,k,rfl⟩
 ·rename_i hu;cases hk;exact⟨_,hu,rfl⟩
 ·rename_i hu;cases hk;exact⟨_,hu,rfl⟩
 ·cases hk
def ym{kk}{d:TypeDesc}(hd:zk kk d){k k' ck ck' b}(hk:VR m k ck)(hk':VR m k' ck')(he:dh kk k k' =some b):
  Instr.sameNow d ck ck' =some b:=by
 unfold dh at he;split at he
 ·rw[VR]at hk hk';subst hk;subst hk';cases hd;cases he;rfl
 ·split at he
  ·rename_i hkk;rw[VR]at hk hk';subst hk;subst hk';subst hkk;obtain⟨i,rfl⟩:=hd;cases he;simp[Instr.sameNow]
  ·cases he
 ·rw[VR]at hk hk';subst hk;subst hk';cases hd;cases he;simp[Instr.sameNow,toList_mk,beq_toListBytes]
 ·cases he
def lV(m:bY):List (AV×AV)→List MapEntry→Prop
 | [],l=>l= []
 | p::r,l=>∃q s,l=q::s∧VR m p.1 q.key∧VR m p.2 q.val∧lV m r s
theorem lV.gL:∀{es} {l},l.length=es.length→(∀ (i:Nat) (p:AV×AV),es[i]? =some p→∃q,l[i]? =some q∧VR m p.1 q.key∧VR m p.2 q.val)→lV m es l
 | [],l,hl,_=>Yw.1 (by simpa using hl)
 | p::r,[],hl,_=>by simp at hl
 | p::r,q::s,hl,h=>by
  obtain⟨q',hq,h1,h2⟩:=h 0 p Si;simp at hq;subst hq;exact⟨q,s,rfl,h1,h2,lV.gL (by simpa using hl) fun i p hp=>by simpa using h (i+1) p (by simpa using hp)⟩
theorem lV.get:∀{es} {l},lV m es l→l.length=es.length∧∀ (i:Nat) (p:AV×AV),es[i]? =some p→∃q,l[i]? =some q∧VR m p.1 q.key∧VR m p.2 q.val
 | [],l,h=>by cases h;exact⟨rfl,fun i p hp=>by simp at hp⟩
 | p::r,l,h=>by
  obtain⟨q,s,rfl,h1,h2,h3⟩:=h;obtain⟨hl,hg⟩:=lV.get h3;refine⟨by simp[hl],fun i p' hp=>?_⟩;cases i with
  | zero=>simp at hp;subst hp;exact⟨q,Si,h1,h2⟩
  | succ i=>simpa using hg i p' (by simpa using hp)
theorem ra{kk}{d:TypeDesc}(hd:zk kk d){k ck}(hk:VR m k ck):∀{es} {l} {r} (i:Nat),lV m es l→jd kk k es=some r→
  ∃cr,Instr.findNow d ck l i=some cr∧(match r,cr with| none,none=>True| some v,some (_,cv)=>VR m v cv| _,_=>False)
 | [],l,r,i,h,hf=>by cases h;cases hf;exact⟨none,rfl,trivial⟩
 | (a,v)::es,l,r,i,h,hf=>by
  obtain⟨q,s,rfl,h1,h2,h3⟩:=h;simp only[jd]at hf;cases he:dh kk k a with
  | none=>simp[he]at hf
  | some b=>
   have hs:=ym hd hk h1 he;cases b with
   | true=>
    simp[he]at hf;subst hf;exact⟨some (i,q.val),by simp[Instr.findNow,hs],h2⟩
   | false=>
    simp only[he]at hf;obtain⟨cr,hcr,hm⟩:=ra hd hk (i+1) h3 hf;exact⟨cr,by simp[Instr.findNow,hs,hcr],hm⟩
def rC{t:TypeId}{d:TypeDesc}{kk}(hu:P.underlying t=some d)(hd:zk kk d)(b:Bool)(v:Value)(n:Nat): (Instr.checkKey b (n+1) t v).run P w= .ok () w:=by
 cases kk with
 | b=>cases hd;cases v<;>simp[Instr.checkKey,XN hu]
 | i=>obtain⟨i,rfl⟩:=hd;cases v<;>simp[Instr.checkKey,XN hu]
 | s=>cases hd;cases v<;>simp[Instr.checkKey,XN hu]
def run_checkKey{t:TypeId}{d:TypeDesc}{kk}(hu:P.underlying t=some d)(hd:zk kk d)(b:Bool)(v:Value): (Instr.checkKey b 10000 t v).run P w= .ok () w:=rC hu hd b v 9999
def Gt{t kt e:TypeId}{kk z ok x k cx ck}(hu:P.underlying t=some (.map kt e))(hkk:wT P kt=some kk)(hz:jk P e=some z)(hr:HR P m h w)(hx:VR m (ρ x) cx)(hk:VR m (ρ k) ck)
  (hf:dt (.look kk z ok x k) ρ h=some (v,h')):∃cv,(Instr.lookup t cx ck ok).run P w= .ok cv w∧VR m v cv∧h' =h:=by
 obtain⟨d,hud,hd⟩:=sL hkk;obtain⟨cz,S3,TG⟩:=jF hz w m;simp only[dt]at hf;split at hf
 ·rename_i hρ;rw[hρ,VR]at hx;subst hx;cases hf;refine⟨if ok then .tuple #[cz,.bool false]else cz,?_,?_,rfl⟩
  ·simp only[Instr.lookup,XP,XN hu,XF,X7,run_checkKey hud hd,Instr.findKey,XN hud];simp[Instr.findNow,S3]
  ·exact z159
 ·rename_i r hρ;rw[hρ]at hx;obtain⟨en,QZ,rfl⟩:=hx;split at hf
  case h_2=>cases hf
  rename_i es hb;obtain⟨_,Ss,clock,hheap,hlen,Qw⟩:=hr.dN r en _ QZ hb;have Rw:lV m es Ss.toList:=lV.gL (by simpa using hlen) (fun i p hp=>by obtain⟨q,hq,h1,h2⟩:=Qw i p hp;exact⟨q,by simpa using hq,h1,h2⟩);have hg:=jW (P:=P) hheap rfl;split at hf
  ·rename_i u SE;cases hf;obtain⟨cr,hcr,hm⟩:=ra hd hk 0 Rw SE;cases cr with
   | none=>exact hm.elim
   | some p=>
    obtain⟨i,cu⟩:=p;refine⟨if ok then .tuple #[cu,.bool true]else cu,?_,?_,rfl⟩
    ·simp only[Instr.lookup,XP,XN hu,XF,hg,X7,run_checkKey hud hd,Instr.findKey,XN hud,hcr]
    ·cases ok
     ·exact hm
     ·exact⟨_,rfl,_,_,rfl,hm,_,_,rfl,rfl,rfl⟩
  ·rename_i SE;cases hf;obtain⟨cr,hcr,hm⟩:=ra hd hk 0 Rw SE;cases cr with
   | some p=>exact hm.elim
   | none=>
    refine⟨if ok then .tuple #[cz,.bool false]else cz,?_,?_,rfl⟩
    ·simp only[Instr.lookup,XP,XN hu,XF,hg,X7,run_checkKey hud hd,Instr.findKey,XN hud,hcr,S3]
    ·exact z159
  ·cases hf
 ·cases hf
theorem VR.sameBits{kk k k' ck ck'}(hk:VR m k ck)(hk':VR m k' ck')(he:dh kk k k' =some true)(n:Nat):Instr.sameBits n ck' ck=true:=by
 unfold dh at he;split at he
 ·rw[VR]at hk hk';subst hk;subst hk';simp at he;simp[Instr.sameBits,he]
 ·split at he
  ·rename_i hkk;rw[VR]at hk hk';subst hk;subst hk';subst hkk;simp at he;simp[Instr.sameBits,he]
  ·cases he
 ·rw[VR]at hk hk';subst hk;subst hk';simp at he;subst he;simp[Instr.sameBits,beq_toListBytes]
 ·cases he
theorem xN{kk}{d:TypeDesc}(hd:zk kk d){k x ck cx}(hk:VR m k ck)(hx:VR m x cx)(clock:Nat):∀{es es'} {l} (i:Nat),lV m es l→oG kk k x es=some es'→
  (∃j q,Instr.findNow d ck l i=some (some (i+j,q.val))∧l[j]? =some q∧Instr.sameBits 10000 q.key ck=true∧lV m es' (l.set j { q with key:=ck,val:=cx }))∨
  (Instr.findNow d ck l i=some none∧lV m es' (l++ [{ key:=ck,val:=cx,born:=clock }]))
 | [],es',l,i,h,hf=>by cases h;cases hf;exact .inr ⟨rfl,_,_,rfl,hk,hx,rfl⟩
 | (a,u)::es,es',l,i,h,hf=>by
  obtain⟨q,s,rfl,h1,h2,h3⟩:=h;simp only[oG]at hf;cases he:dh kk k a with
  | none=>simp[he]at hf
  | some b=>
   have hs:=ym hd hk h1 he;cases b with
   | true=>
    simp[he]at hf;subst hf;exact .inl ⟨0,q,by simp[Instr.findNow,hs],Si,VR.sameBits hk h1 he 10000,_,_,rfl,hk,hx,h3⟩
   | false=>
    simp only[he,XQ]at hf;obtain⟨es2,hes2,rfl⟩:=hf;rcases xN hd hk hx clock (i+1) h3 hes2 with⟨j,q',hj,VG,hb,hr⟩| ⟨hj,hr⟩
    ·exact .inl ⟨j+1,q',by simp[Instr.findNow,hs,hj];omega,by simpa using VG,hb,_,_,rfl,h1,h2,hr⟩
    ·exact .inr ⟨by simp[Instr.findNow,hs,hj],_,_,rfl,h1,h2,hr⟩
def Gr{t kt e:TypeId}{kk x k u cx ck cu}(hu:P.underlying t=some (.map kt e))(hkk:wT P kt=some kk)(hr:HR P m h w)(hx:VR m (ρ x) cx)(hk:VR m (ρ k) ck)(hv:VR m (ρ u) cu)
  (hf:dt (.e9 kk x k u) ρ h=some (v,h')):∃w',(Instr.mapUpdate t cx ck cu).run P w= .ok () w'∧v=aB∧HR P m h' w'∧Grow m h w m h' w':=by
 obtain⟨d,hud,hd⟩:=sL hkk;simp only[dt]at hf;split at hf
 case h_2=>cases hf
 rename_i r hρ;rw[hρ]at hx;obtain⟨en,QZ,rfl⟩:=hx;split at hf
 case h_2=>cases hf
 rename_i es hb;split at hf
 case h_2=>cases hf
 rename_i es' hupd;cases hf;obtain⟨hown,Ss,clock,hheap,hlen,Qw⟩:=hr.dN r en _ QZ hb;have Rw:lV m es Ss.toList:=lV.gL (by simpa using hlen) (fun i p hp=>by obtain⟨q,hq,h1,h2⟩:=Qw i p hp;exact⟨q,by simpa using hq,h1,h2⟩);have hg:=jW (P:=P) hheap rfl;have hbl:en.cb < w.heap.size:=(XM.1 hheap).1;have done:∀ (ces':Array MapEntry) (c:Nat),lV m es' ces'.toList→HR P m (h.set r (.bn es')) (w.putObj en.cb (.map ces' c))∧Grow m h w m (h.set r (.bn es')) (w.putObj en.cb (.map ces' c)):=by
  intro ces' c SF;obtain⟨Qz,QL⟩:=SF.get;exact jJ hr QZ hb rfl (.inl rfl) ⟨hown,ces',c,World.putObj_heap_same hbl,by simpa using Qz,fun i p hp=>by obtain⟨q,hq,h1,h2⟩:=QL i p hp;exact⟨q,by simpa using hq,h1,h2⟩⟩
 rcases xN hd hk hv clock 0 Rw hupd with⟨j,q,hj,hq,hbits,SF⟩| ⟨hj,SF⟩
 ·have VG:Ss[j]? =some q:=by simpa using hq
  obtain⟨h1,h2⟩:=done (Ss.modify j fun e=>{ e with key:=ck,val:=cu }) clock (by
   have: (Ss.modify j fun e=>{ e with key:=ck,val:=cu }).toList=Ss.toList.set j { q with key:=ck,val:=cu }:=by
    apply ZR
    intro i;rw[YS,Array.getElem?_modify,List.getElem?_set];by_cases hij:j=i
    ·subst hij;obtain⟨hlt,heq⟩:=XM.1 VG;simp[VG,hlt,heq]
    ·simp[hij]
   rw[this];exact SF)
  refine⟨_,?_,rfl,h1,h2⟩;simp only[Instr.mapUpdate,XP,XN hu,XF,hg,run_checkKey hud hd,Instr.findKey,XN hud,hj,X7,Yk,VG,Zp,ZJ,Instr.keyThatStays,hbits,XR,mE hheap rfl]
 ·obtain⟨h1,h2⟩:=done (Ss.push { key:=ck,val:=cu,born:=clock }) (clock+1) (by simpa using SF);refine⟨_,?_,rfl,h1,h2⟩;simp only[Instr.mapUpdate,XP,XN hu,XF,hg,run_checkKey hud hd,Instr.findKey,XN hud,hj,X7,mE hheap rfl]
end
section
variable {P:Program} {m:bY} {h h':ah} {w:World} {ρ:cW→AV} {v:AV}
theorem mH(m:bY):∀ (s:By),cH m (s.map fun b=>AV.int .u8 b.toNat) (s.map fun b=>Value.int .u8 b.toNat)
 | []=>bC.2 rfl
 | b::s=>aS.2 ⟨_,_,rfl,rfl,mH m s⟩
def qP(s:By): (s.map fun b=>AV.int .u8 b.toNat).all AV.one=true:=by
 rw[X5];intro x hx;simp only[X2]at hx;obtain⟨b,_,rfl⟩:=hx;rfl
def cJ{es y cy ys k}(hr:HR P m h w)(hy:VR m y cy)(hc:cellsIn es h y=some (ys,k)):
  (Builtin.lenOf cy).run P w= .ok k w∧ys.length=k * es∧ys.all AV.one=true∧
   ∀n,n≤k→∃vs,(Builtin.firstCells es n cy).run P w= .ok ⟨vs⟩ w∧cH m (ys.take (n * es)) vs:=by
 unfold cellsIn at hc;split at hc
 ·rw[VR]at hy;subst hy;cases hc;exact⟨rfl,Si,rfl,fun n hn=>⟨[],by simp[Builtin.firstCells],by simp[bC]⟩⟩
 ·rename_i b o n es';obtain⟨e,ca,cap,he,rfl,QM,Q1,hroom⟩:=hy;split at hc
  case isFalse=>cases hc
  rename_i hes;subst hes;split at hc
  case h_2=>cases hc
  rename_i c mu tl hb;split at hc
  case isFalse=>cases hc
  rename_i hle;cases hc;obtain⟨_,_,_,hone⟩:=mI hr he hb o (k * es') hle;refine⟨rfl,by simp;omega,hone,fun n hn=>?_⟩;have hmul:n * es'≤k * es':=Yz _ hn;by_cases h0:cap=0
  ·have hk0:k=0:=Om
   have UI:n=0:=Om
   subst UI;exact⟨[],by simp[Builtin.firstCells,loadCells,loadCellsFrom],by simp[bC]⟩
  ·rw[Q1 Om];obtain⟨vs,Qs,Re,_⟩:=mI hr he hb o (n * es') Om;refine⟨vs,by simp[Builtin.firstCells,Qs],?_⟩;rw[List.take_take,Zm hmul];exact Re
 ·rename_i s;rw[VR]at hy;subst hy;split at hc
  case isFalse=>cases hc
  rename_i hes;subst hes;cases hc;refine⟨rfl,Si,qP s,fun n hn=>⟨(s.take n).map fun b=>Value.int .u8 b.toNat,?_,?_⟩⟩
  ·simp only[Builtin.firstCells,X7,extract_mk];simp
  ·rw[ZG,←List.map_take];exact mH m _
 ·cases hc
theorem rV{cb}{el:TypeId}{fz}:∀ (vs:List Value) (p j:Nat) (cc:Array Value) (w:World),w.heap[cb]? =some (.cells cc el fz)→p+j+vs.length≤cc.size→
  (∀i,i < cc.size→¬ (fz.1≤i∧i < fz.2))→(∀v∈vs,v.oneCell' =true)→
  ∃w' Q2,(storeCells ⟨cb,p,none⟩ vs j).run P w= .ok () w'∧w'.heap[cb]? =some (.cells Q2 el fz)∧Q2.size=cc.size∧
   (∀i,Q2[i]? =if p+j≤i∧i < p+j+vs.length then vs[i - (p+j)]? else cc[i]?)∧(∀k,k≠cb→w'.heap[k]? =w.heap[k]?)∧w'.heap.size=w.heap.size∧w'.os=w.os∧w'.output=w.output∧w'.tape=w.tape
 | [],p,j,cc,w,hw,_,_,_=>⟨w,cc,rfl,hw,rfl,fun i=>by simp;omega,fun _ _=>rfl,rfl,rfl,rfl,rfl⟩
 | v::vs,p,j,cc,w,hw,hlen,hfz,hone=>by
  simp only[Xy]at hlen;have Rb:w.cell? ⟨cb,p+j,none⟩=some (cc[p+j]'Om):=by simp only[World.cell?,hw];exact Yl Om
  have hfr:w.frozen? ⟨cb,p+j,none⟩=false:=nQ hw (hfz _ Om);have T5:=heap_setCell_same (i:=p+j) hw v;have R8: (cc.setIfInBounds (p+j) v).size=cc.size:=Si
  obtain⟨w',Q2,h1,h2,h3,h4,h5,h6,h7,h8,h9⟩:=rV vs p (j+1) (cc.setIfInBounds (p+j) v) (w.setCell ⟨cb,p+j,none⟩ v) T5 (by rw[R8];omega) (by rw[R8];exact hfz) (fun u hu=>hone u (Yb _ hu));refine⟨w',Q2,?_,h2,Om,?_,?_,by simpa using h6,h7,h8,h9⟩
  ·simp only[storeCells,XP];rw[gA,run_store P w _ v .plain (hone v (Yn ..)),Rb];simp only[hfr,Yj,XO,XF];exact h1
  ·intro i;rw[h4 i];by_cases hi:i=p+j
   ·subst hi;rw[XG Om,XI (by simp only[Xy];omega)];rw[YJ Om];simp
   ·rw[Zb (fun x=>hi x.symm)];by_cases hin:p+ (j+1)≤i∧i < p+ (j+1)+vs.length
    ·rw[XI hin,XI (by simp only[Xy];omega)];rw[show i - (p+j)= (i - (p+ (j+1)))+1 from by omega];simp
    ·rw[XG hin,XG (by simp only[Xy];omega)]
  ·intro k hk;rw[h5 k hk];exact Go.RowKit.Below.heap_setCell w _ v k hk
def Dv(need cap:Nat)(hc:cap < need):Builtin.nextslicecap need cap≤2 * need+192:=by
 unfold Builtin.nextslicecap;split
 ·omega
 ·split
  ·omega
  ·have grow:∀ (r c:Nat),c < need+ (need+768) / 4→Builtin.growBy need r c≤need+ (need+768) / 4:=by
    intro r
    induction r with
    | zero=>intro c TM;simp only[Builtin.growBy];omega
    | succ r ih=>
     intro c TM;simp only[Builtin.growBy];split
     ·omega
     ·rename_i hlt;have h1:c < need:=Om
      by_cases hh:c+ (c+768) / 4 < need+ (need+768) / 4
      ·exact ih _ hh
      ·have:c+ (c+768) / 4≤need+ (need+768) / 4:=Om
       have e:c+ (c+768) / 4=need+ (need+768) / 4:=Om
       rw[e];cases r with
       | zero=>simp[Builtin.growBy]
       | succ r=>simp only[Builtin.growBy];rw[XI Om];exact XH _
   have:=grow 4 cap Om;omega
theorem cH.uK:∀{l} {vs},cH m l vs→l.all AV.one=true→∀v∈vs,v.oneCell' =true
 | [],vs,h,_,v,hv=>by rw[bC]at h;subst h;cases hv
 | x::xs,vs,h,h1,v,hv=>by
  obtain⟨y,ys,rfl,hy,hys⟩:=aS.1 h;simp only[YY,X4]at h1;rcases X9.1 hv with rfl| hv
  ·exact hy.tv h1.1
  ·exact cH.uK hys h1.2 v hv
def qZ(hr:HR P m h w){b o q e c ys mu mu' k0}(he:m b=some e)(hb:h[b]? =some (.cells c mu true))(hoq:o+q≤c.length)
  (hk0: (k0= .cells c false false∧o+q=c.length∧mu' =false)∨(k0= .dead∧mu=true)) {vs} (hys:cH m ys vs) (h1:ys.all AV.one=true) (hroom:o+q+e.d+ys.length≤e.sz) (j:Nat):
  ∃w' m',(storeCells ⟨e.cb,o+e.d+q,none⟩ vs 0).run P w= .ok () w'∧m' h.length=some ⟨e.cb,e.d+o,e.sz,true⟩∧
   HR P m' (h.set b k0++ [.cells ((c.drop o).take q++ys) mu' true]) w'∧Grow m h w m' (h.set b k0++ [.cells ((c.drop o).take q++ys) mu' true]) w':=by
 have _:=j;obtain⟨cc,el,fz,hw,⟨hle,hle'⟩,Qw,hown,hmt⟩:=hr.dN b e _ he hb;have ho:e.own=true:=(hmt (.inr rfl)).1;obtain⟨dX,hfz⟩:=hown ho;have hlv:=hys.length;obtain⟨w',Q2,Qs,hw',QE,hcc',hoth,Vf,hos,hout,htape⟩:=rV (P:=P) vs (o+e.d+q) 0 cc w hw Om hfz (hys.uK h1);have hbl:b < h.length:=hr.cI _ _ he
 let e':rQ:=⟨e.cb,e.d+o,e.sz,true⟩
 have Rl:m h.length=none:=by
  exact z53
 have SW:m.le (m.add h.length e'):=bY.rp e' Rl;have hlen: (h.set b k0).length=h.length:=Si
 have T4:∀b2 e2 k2,b2≠b→m b2=some e2→h[b2]? =some k2→k2.live=true→e2.cb=e.cb→mu=false∧∃c2,k2= .cells c2 false false∧e2.d+c2.length≤e.d+c.length:=by
  intro b2 e2 k2 hne Qy Qq hl hcb;have:=hr.sep b b2 e e2 _ k2 (fun x=>hne x.symm) he Qy hb Qq hcb.symm;cases k2 with
  | cells c2 mu2 tl2=>
   obtain⟨R4,UK,ht⟩:=this;obtain⟨ht2,Sj⟩:=ht rfl;subst UK;subst ht2;exact⟨R4,c2,rfl,Sj⟩
  | dead=>cases hl
  | bn _=>exact this.elim
  | iter _ _=>exact this.elim
  | loop _ _ _ _ _ _=>exact this.elim
 have VK:∀i,i < e.d+o+q→Q2[i]? =cc[i]? :=by
  intro i hi;rw[hcc' i,XG Om]
 have hnew:BR P (m.add h.length e') w' e' (.cells ((c.drop o).take q++ys) mu' true):=by
  refine⟨Q2,el,fz,hw',⟨?_,?_,(by rw[QE,dX])⟩,?_,fun _=>⟨by rw[QE,dX],fun i hi=>hfz i Om⟩,fun _=>⟨rfl,fun x=>by cases x⟩⟩
  ·show e.d+o+ ((c.drop o).take q++ys).length≤Q2.size;simp;omega
  ·show e.d+o+ ((c.drop o).take q++ys).length≤e.sz;simp;omega
  ·intro i x hx;by_cases hi:i < q
   ·rw[Xv (by simp;omega),ZB hi,ZN]at hx;obtain⟨hone,v,hv,Qr⟩:=Qw (o+i) x hx;refine⟨hone,v,?_,VR.mono SW _ _ Qr⟩;show Q2[e.d+o+i]? =some v;rw[VK _ Om,show e.d+o+i=e.d+ (o+i)from by omega];exact hv
   ·have TI: ((c.drop o).take q).length=q:=by simp;omega
    rw[XE Om,TI]at hx;obtain⟨v,hv,Qr⟩:=hys.get hx;have hlt:i - q < ys.length:=(Xr.1 hx).1;refine⟨X5.1 h1 x (Yo hx),v,?_,VR.mono SW _ _ Qr⟩;show Q2[e.d+o+i]? =some v;rw[hcc',XI Om,show e.d+o+i - (o+e.d+q+0)=i - q from by omega];exact hv
 have hbr0:∀b2 e2 k2,m b2=some e2→(h.set b k0)[b2]? =some k2→BR P (m.add h.length e') w' e2 k2:=by
  intro b2 e2 k2 Qy Qq;rw[bH h b b2 _ hbl]at Qq;by_cases hbb:b2=b
  ·subst hbb;rw[XI rfl]at Qq;cases Qq;rw[he]at Qy;cases Qy;rcases hk0 with⟨rfl,hcl,_⟩| ⟨rfl,_⟩
   ·refine⟨Q2,el,fz,hw',⟨Om,Om⟩,?_,fun _=>⟨by rw[QE,dX],fun i hi=>hfz i Om⟩,fun x=>by rcases x with x| x<;>cases x⟩;intro i x hx;obtain⟨hone,v,hv,Qr⟩:=Qw i x hx;have hi:i < c.length:=(Xr.1 hx).1;exact z160
   ·trivial
  ·rw[XG hbb]at Qq;have h0:=hr.dN b2 e2 k2 Qy Qq;by_cases hl:k2.live=true
   ·by_cases hcb:e2.cb=e.cb
    ·obtain⟨hmf,c2,rfl,Sj⟩:=T4 b2 e2 k2 hbb Qy Qq hl hcb;rcases hk0 with⟨_,hcl,_⟩| ⟨_,Ua⟩
     ·obtain⟨cc2,el2,fz2,hw2,⟨hle2a,hle2b⟩,hget2,hown2,hmt2⟩:=h0;rw[hcb,hw]at hw2;cases hw2;refine⟨Q2,el,fz,by rw[hcb];exact hw',⟨Om,Om⟩,?_,fun ho2=>by have:=hown2 ho2;exact⟨Om,fun i hi=>this.2 i Om⟩,hmt2⟩;intro i x hx;obtain⟨hone,v,hv,Qr⟩:=hget2 i x hx;have hi:i < c2.length:=(Xr.1 hx).1;exact z160
     ·rw[hmf]at Ua;cases Ua
    ·exact(h0.mono SW).heap (hoth _ hcb)
   ·exact F6
 have hget0:∀b2 k2,b2 < h.length→(h.set b k0++ [.cells ((c.drop o).take q++ys) mu' true])[b2]? =some k2→(h.set b k0)[b2]? =some k2:=by
  intro b2 k2 hlt Qq
  rwa [Xv Om]at Qq
 have hsep1:∀b2 e2 k2,m b2=some e2→(h.set b k0)[b2]? =some k2→e2.cb=e.cb→pv e' e2 (.cells ((c.drop o).take q++ys) mu' true) k2∧pv e2 e' k2 (.cells ((c.drop o).take q++ys) mu' true):=by
  intro b2 e2 k2 Qy Qq hcb;rw[bH h b b2 _ hbl]at Qq;by_cases hbb:b2=b
  ·subst hbb;rw[XI rfl]at Qq;cases Qq;rw[he]at Qy;cases Qy;rcases hk0 with⟨rfl,hcl,rfl⟩| ⟨rfl,_⟩
   ·refine⟨⟨rfl,rfl,fun _=>⟨rfl,?_⟩⟩,⟨rfl,rfl,fun x=>by cases x⟩⟩;show e.d+c.length≤e.d+o+ ((c.drop o).take q++ys).length;simp;omega
   ·exact⟨trivial,trivial⟩
  ·rw[XG hbb]at Qq;by_cases hl:k2.live=true
   ·obtain⟨hmf,c2,rfl,Sj⟩:=T4 b2 e2 k2 hbb Qy Qq hl hcb;rcases hk0 with⟨_,hcl,rfl⟩| ⟨_,Ua⟩
    ·refine⟨⟨rfl,rfl,fun _=>⟨rfl,?_⟩⟩,⟨rfl,rfl,fun x=>by cases x⟩⟩;show e2.d+c2.length≤e.d+o+ ((c.drop o).take q++ys).length;simp;omega
    ·rw[hmf]at Ua;cases Ua
   ·cases k2<;>first| exact⟨trivial,trivial⟩| exact absurd rfl hl
 have hsep2:∀b1 b2 e1 e2 k1 k2,b1≠b2→m b1=some e1→m b2=some e2→(h.set b k0)[b1]? =some k1→(h.set b k0)[b2]? =some k2→e1.cb=e2.cb→pv e1 e2 k1 k2:=by
  intro b1 b2 e1 e2 k1 k2 hne RH Qy hk1 Qq hcb;rw[bH h b _ _ hbl]at hk1 Qq;by_cases QS:b1=b
  ·subst QS;rw[XI rfl]at hk1;cases hk1;rw[XG (fun x=>hne x.symm)]at Qq;have:=hr.sep b1 b2 e1 e2 _ k2 hne RH Qy hb Qq hcb;rcases hk0 with⟨rfl,_⟩| ⟨rfl,_⟩
   ·cases k2<;>first| exact⟨rfl,this.2.1,fun x=>by cases x⟩| trivial| exact this
   ·trivial
  ·rw[XG QS]at hk1;by_cases Q4:b2=b
   ·subst Q4;rw[XI rfl]at Qq;cases Qq;have:=hr.sep b1 b2 e1 e2 k1 _ hne RH Qy hk1 hb hcb;rcases hk0 with⟨rfl,_⟩| ⟨rfl,_⟩
    ·cases k1<;>first| exact⟨this.1,rfl,fun x=>absurd (this.2.2 x).1 Si⟩| trivial| exact this
    ·cases k1<;>trivial
   ·exact LM
 refine⟨w',m.add h.length e',by simpa using Qs,by simp[bY.add,e'],⟨?_,?_,?_,?_,?_⟩,⟨?_,Si,?_,?_,Om,hos,hout,htape,?_⟩⟩
 ·intro b2 e2 Q4;unfold bY.add at Q4;by_cases hx:b2=h.length
  ·subst hx;simp
  ·rw[XG hx]at Q4;have:=hr.cI _ _ Q4;simp;omega
 ·intro b2 e2 k2 Qy Qq;unfold bY.add at Qy;by_cases hx:b2=h.length
  ·subst hx;rw[XI rfl]at Qy;cases Qy;rw[XE Om]at Qq;simp at Qq;subst Qq;exact hnew
  ·rw[XG hx]at Qy;exact hbr0 b2 e2 k2 Qy (hget0 b2 k2 (hr.cI _ _ Qy) Qq)
 ·intro b1 b2 e1 e2 k1 k2 hne RH Qy hk1 Qq hcb;unfold bY.add at RH Qy;by_cases hx1:b1=h.length
  ·subst hx1;rw[XI rfl]at RH;cases RH;rw[XG (fun x=>hne x.symm)]at Qy;rw[XE Om]at hk1;simp at hk1;subst hk1;exact(hsep1 b2 e2 k2 Qy (hget0 b2 k2 (hr.cI _ _ Qy) Qq) hcb.symm).1
  ·rw[XG hx1]at RH;have hk1':=hget0 b1 k1 (hr.cI _ _ RH) hk1;by_cases Tp:b2=h.length
   ·subst Tp;rw[XI rfl]at Qy;cases Qy;rw[XE Om]at Qq;simp at Qq;subst Qq;exact(hsep1 b1 e1 k1 RH hk1' hcb).2
   ·rw[XG Tp]at Qy;exact hsep2 b1 b2 e1 e2 k1 k2 hne RH Qy hk1' (hget0 b2 k2 (hr.cI _ _ Qy) Qq) hcb
 ·intro g hg;obtain⟨x,hx,h2⟩:=hr.fN g hg;exact⟨x,SW _ _ hx,h2⟩
 ·intro b2 e2 Qy;unfold bY.add at Qy;by_cases hx:b2=h.length
  ·rw[XI hx]at Qy;cases Qy;have:=hr.lt _ _ he;show e.cb < _;omega
  ·rw[XG hx]at Qy;have:=hr.lt _ _ Qy;omega
 ·intro b2 Q4;unfold bY.add;rw[XG Om]
 ·intro b2 e2 Q4 Qy;unfold bY.add at Qy;by_cases hx:b2=h.length
  ·rw[XI hx]at Qy;cases Qy;refine⟨rfl,.inr ⟨b,e,he,rfl,ho,by simp[dY,hb],?_⟩⟩;unfold dY;rw[Xv Om,bH h b b _ hbl,XI rfl];rcases hk0 with⟨rfl,_⟩| ⟨rfl,_⟩<;>rfl
  ·rw[XG hx]at Qy;exact absurd (hr.cI _ _ Qy) Om
 ·intro b2 Q4 ht;unfold dY at ht ⊢;rw[Xv Om,bH h b b2 _ hbl]at ht;by_cases hbb:b2=b
  ·subst hbb;rw[XI rfl]at ht;rcases hk0 with⟨rfl,_⟩| ⟨rfl,_⟩<;>cases ht
  ·exact Cy
 ·intro i hi hno;exact hoth i (fun x=>hno b e he ho x.symm)
end
section
variable {P:Program} {m:bY} {h h':ah} {w:World} {ρ:cW→AV} {v:AV}
def xF:aq→aq→Prop
 | .cells c mu tl,k=>k= .dead∨∃mu' tl',k= .cells c mu' tl'∧(mu' =true→mu=true∧(tl' =false→tl=false))∧(tl' =true→tl=true)
 | k,k'=>k' = .dead∨k' =k
def xF.MH{e1 e2 k k' k2}(hw:xF k k')(hs:pv e1 e2 k k2):pv e1 e2 k' k2:=by
 cases k with
 | cells c mu tl=>
  rcases hw with rfl| ⟨mu',tl',rfl,hm,ht⟩
  ·trivial
  ·cases k2 with
   | cells c2 mu2 tl2=>
    refine⟨?_,hs.2.1,fun x=>hs.2.2 (ht x)⟩;cases mu' with
    | false=>rfl
    | true=>have:=hs.1;rw[(hm rfl).1]at this;cases this
   | _=>first| trivial| exact hs
 | dead=>rcases hw with rfl| rfl<;>trivial
 | bn es=>rcases hw with rfl| rfl<;>first| trivial| exact hs
 | iter s p=>rcases hw with rfl| rfl<;>first| trivial| exact hs
 | loop a b c d e f=>rcases hw with rfl| rfl<;>first| trivial| exact hs
def xF.MG{e1 e2 k k' k1}(hw:xF k k')(hs:pv e1 e2 k1 k):pv e1 e2 k1 k':=by
 cases k with
 | cells c mu tl=>
  rcases hw with rfl| ⟨mu',tl',rfl,hm,ht⟩
  ·cases k1<;>trivial
  ·cases k1 with
   | cells c1 mu1 tl1=>
    refine⟨hs.1,?_,fun x=>⟨?_,(hs.2.2 x).2⟩⟩
    ·cases mu' with
     | false=>rfl
     | true=>have:=hs.2.1;rw[(hm rfl).1]at this;cases this
    ·cases tl' with
     | false=>rfl
     | true=>have:=(hs.2.2 x).1;rw[ht rfl]at this;cases this
   | _=>first| trivial| exact hs
 | dead=>rcases hw with rfl| rfl<;>cases k1<;>trivial
 | bn es=>rcases hw with rfl| rfl<;>first| exact hs| (cases k1<;>trivial)
 | iter s p=>rcases hw with rfl| rfl<;>first| exact hs| (cases k1<;>trivial)
 | loop a b c d e f=>rcases hw with rfl| rfl<;>first| exact hs| (cases k1<;>trivial)
def xF.br{e k k'}(hw:xF k k')(hb:BR P m w e k):BR P m w e k':=by
 cases k with
 | cells c mu tl=>
  rcases hw with rfl| ⟨mu',tl',rfl,hm,ht⟩
  ·trivial
  ·obtain⟨cc,el,fz,h1,h2,h3,h4,h5⟩:=hb;refine⟨cc,el,fz,h1,h2,h3,h4,fun x=>⟨(h5 (x.elim (fun y=>.inl (hm y).1) (fun y=>.inr (ht y)))).1,fun y=>?_⟩⟩;rcases x with x| x
   ·exact(h5 (.inl (hm x).1)).2 ((hm x).2 y)
   ·rw[x]at y;cases y
 | dead=>rcases hw with rfl| rfl<;>trivial
 | bn es=>rcases hw with rfl| rfl<;>first| trivial| exact hb
 | iter s p=>rcases hw with rfl| rfl<;>first| trivial| exact hb
 | loop a b c d e f=>rcases hw with rfl| rfl<;>first| trivial| exact hb
def vp(hr:HR P m h w){b k k'}(hb:h[b]? =some k)(hk:xF k k'):HR P m (h.set b k') w∧Grow m h w m (h.set b k') w:=by
 have hbl:b < h.length:=(Xr.1 hb).1;refine⟨⟨?_,?_,?_,hr.fN,hr.lt⟩,⟨fun _ _=>rfl,Si,?_,?_,XH _,rfl,rfl,rfl,fun _ _ _=>rfl⟩⟩
 ·intro b' e' hb';simpa using hr.cI b' e' hb'
 ·intro b' e' k2 Rj Qq;rw[bH h b b' _ hbl]at Qq;by_cases hbb:b' =b
  ·subst hbb;rw[XI rfl]at Qq;cases Qq;exact hk.br (hr.dN b' e' k Rj hb)
  ·rw[XG hbb]at Qq;exact hr.dN b' e' k2 Rj Qq
 ·intro b1 b2 e1 e2 k1 k2 hne RH Qy hk1 Qq hcb;rw[bH h b _ _ hbl]at hk1 Qq;by_cases QS:b1=b
  ·subst QS;rw[XI rfl]at hk1;cases hk1;rw[XG (fun x=>hne x.symm)]at Qq;exact hk.MH (hr.sep b1 b2 e1 e2 k k2 hne RH Qy hb Qq hcb)
  ·rw[XG QS]at hk1;by_cases Q4:b2=b
   ·subst Q4;rw[XI rfl]at Qq;cases Qq;exact hk.MG (hr.sep b1 b2 e1 e2 k1 k hne RH Qy hk1 hb hcb)
   ·exact LM
 ·intro b' e' hb' Rj;exact absurd (hr.cI _ _ Rj) Om
 ·intro b' hb' ht;unfold dY at ht ⊢;rw[bH h b b' _ hbl]at ht;by_cases hbb:b' =b
  ·subst hbb;rw[XI rfl]at ht;rw[hb];cases k with
   | cells c mu tl=>
    rcases hk with rfl| ⟨mu',tl',rfl,_,h2⟩
    ·cases ht
    ·exact h2 ht
   | dead=>rcases hk with rfl| rfl<;>cases ht
   | bn es=>rcases hk with rfl| rfl<;>cases ht
   | iter s p=>rcases hk with rfl| rfl<;>cases ht
   | loop a b c d e f=>rcases hk with rfl| rfl<;>cases ht
  ·exact Cy
def jR(hr:HR P m h w){c vs}(hc:cH m c vs)(h1:c.all AV.one=true)(rest:List Value)(el:TypeId)(mu tl:Bool)(hml:mu=true→tl=true):
  ∃m',m' h.length=some ⟨w.heap.size,0,vs.length+rest.length,true⟩∧HR P m' (h++ [.cells c mu tl]) (w.alloc (.cells ⟨vs++rest⟩ el))∧Grow m h w m' (h++ [.cells c mu tl]) (w.alloc (.cells ⟨vs++rest⟩ el)):=by
 have hl:=hc.length;refine⟨_,by simp[bY.add],jS hr (.cells ⟨vs++rest⟩ el) (.cells c mu tl) ⟨w.heap.size,0,vs.length+rest.length,true⟩ rfl rfl (fun m' hm=>?_)⟩;refine⟨⟨vs++rest⟩,el,(0,0),World.alloc_heap_new w _,⟨by simp;omega,by refine⟨?_,Si⟩;show 0+c.length≤vs.length+rest.length;omega⟩,?_,fun _=>⟨Si,fun i _=>by simp⟩,fun x=>⟨rfl,fun y=>by
  rcases x with x| x
  ·rw[hml x]at y;cases y
  ·rw[x]at y;cases y⟩⟩
 intro i x hx;obtain⟨v,hv,Qr⟩:=hc.get hx;have hi:i < c.length:=(Xr.1 hx).1;refine⟨X5.1 h1 x (Yo hx),v,?_,VR.mono hm _ _ Qr⟩;show(⟨vs++rest⟩:Array Value)[0+i]? =some v;rw[Yk,YT,Xv Om];exact hv
def nB{sT xT e:TypeId}{i:TypeInfo}{y ts}(hts0:ts[0]? =some sT)(hts1:ts[1]? =some xT)(hs:dQ P sT=some (e,i))(hbytes:0 < i.bytes)(hbytes':i.bytes≤2^20)
  {d:TypeDesc} (hud:P.underlying xT=some d) (hdk:∀k,d≠.int k) {cz} (hz: (zeroValue e).run P w.drew= .ok cz w.drew) {base} {n cap k} (hcap:cap < n+k) (hb: (n+k) * i.bytes≤2^46)
  (hlen: (Builtin.lenOf y).run P w= .ok k w) {vo vn} (ho: (Builtin.firstCells i.size n (.slice base n cap)).run P w.drew= .ok ⟨vo⟩ w.drew) (hn: (Builtin.firstCells i.size k y).run P w.drew= .ok ⟨vn⟩ w.drew) (T:TypeId) (dX:i.size=cz.cells.size):
  ∃newCap rest,n+k≤newCap∧rest.length= (newCap - (n+k)) * i.size∧
   (Builtin.append_ ts T #[.slice base n cap,y]).run P w= .ok (.slice (some ⟨w.heap.size,0,none⟩) (n+k) newCap) (w.drew.alloc (.cells ⟨vo++vn++rest⟩ e)):=by
 obtain⟨hu,hi⟩:=fe hs;have T8:=Dv (n+k) cap hcap;have hno:¬ (Builtin.nextslicecap (n+k) cap * i.bytes > 2^48):=by
  have h1:Builtin.nextslicecap (n+k) cap * i.bytes≤(2 * (n+k)+192) * i.bytes:=Yz _ T8;have h2: (2 * (n+k)+192) * i.bytes=2 * ((n+k) * i.bytes)+192 * i.bytes:=by rw[ZO,Nat.mul_assoc]
  omega
 obtain⟨q,hq⟩:∃q:Question,q= .appendCap (n+k) cap e:=⟨_,rfl⟩;obtain⟨nc,T9⟩:∃nc:Nat,nc=q.cut (w.tape w.drawn q):=⟨_,rfl⟩;have UH:n+k≤nc:=by rw[T9,hq];show n+k≤(n+k)+_;omega
 have Sb: (match d with| .int _=>true| _=>false)=false:=by
  cases d<;>first| rfl| exact absurd rfl (hdk _)
 have QF:∀w,(sizeOf e).run P w= .ok i.size w:=fun w=>bZ (by simp[dP,hi]) w
 have Uh:∀w,(typeInfo e).run P w= .ok i w:=fun w=>by simp[typeInfo,hi]
 have Rx:¬ (i.bytes=0):=Om
 have Sm: (choose (.appendCap (n+k) cap e)).run P w= .ok nc w.drew:=by
  rw[run_choose,T9,hq];rfl
 refine⟨nc,(Builtin.zeroCells cz.cells (nc - (n+k))).toList,UH,by simp[Builtin.zeroCells,dX],?_⟩;simp only[Builtin.append_,hts0,hts1,YT,YD,YM,XP,XN hu,XF,QF,XN hud,X7,Sb,
  Yj,XO,hlen,Nat.not_le.2 hcap]
 simp only[Sem.run_ite,XP,Uh,XF,hno,XO,Rx,Y7,and_false,Yj,Sm,run_askRoom,ho,hn,hz,XY,XR,newRow,run_newObj,X7];have earr: ((⟨vo⟩:Array Value)++ ⟨vn⟩++Builtin.zeroCells cz.cells (nc - (n+k)))= ⟨vo++vn++ (Builtin.zeroCells cz.cells (nc - (n+k))).toList⟩:=by
  apply ZX
  simp
 rw[earr];rfl
def mh{c:List AV}{o q:Nat}(h:o+q=c.length): (c.drop o).take q=c.drop o:=Yf (by simp;omega)
def JV{sT xT e:TypeId}{i:TypeInfo}{ts:Array TypeId}(hts0:ts[0]? =some sT)(hts1:ts[1]? =some xT)(hs:dQ P sT=some (e,i))(hspos:0 < i.size)(hbytes:0 < i.bytes)(hbytes':i.bytes≤2^20)
  {d:TypeDesc} (hud:P.underlying xT=some d) (hdk:∀k,d≠.int k) {z:AV} (hz:i.zero.bind (lT 4)=some z) (hzs:z.cells.length=i.size)
  (hr:HR P m h w) {x y:AV} {cx cy:Value} (hx:VR m x cx) (hy:VR m y cy) (hf:vQ i.size i.bytes x y h v h') (T:TypeId):
  ∃cv w' m',(Builtin.append_ ts T #[cx,cy]).run P w= .ok cv w'∧VR m' v cv∧HR P m' h' w'∧Grow m h w m' h' w':=by
 obtain⟨hu,hi⟩:=fe hs;have hzA:jk P e=some z:=by simp[jk,hi,hz]
 obtain⟨cz,S3,TG⟩:=jF hzA w.drew m;have U0:i.size=cz.cells.size:=by have:=TG.cells.length;simp at this;omega
 have QF:∀w,(sizeOf e).run P w= .ok i.size w:=fun w=>bZ (by simp[dP,hi]) w
 have Sb: (match d with| .int _=>true| _=>false)=false:=by
  cases d<;>first| rfl| exact absurd rfl (hdk _)
 have room:∀{base:Option Addr} {n cap k:Nat} {vn:List Value} {w1:World},n+k≤cap→(Builtin.lenOf cy).run P w= .ok k w→(Builtin.firstCells i.size k cy).run P w= .ok ⟨vn⟩ w→
   (match base with| some a=>(storeCells (a.add (n * i.size)) vn).run P w= .ok () w1| none=>w1=w)→
   (Builtin.append_ ts T #[.slice base n cap,cy]).run P w= .ok (.slice base (n+k) cap) w1:=by
  intro base n cap k vn w1 hle hlen Qx bS;cases base with
  | none=>
   subst bS;simp only[Builtin.append_,hts0,hts1,YT,YD,YM,XP,XN hu,XF,QF,XN hud,X7,Sb,
    Yj,XO,hlen,hle,XR,XY,Qx]
  | some a=>
   simp only at bS;simp only[Builtin.append_,hts0,hts1,YT,YD,YM,XP,XN hu,XF,QF,XN hud,X7,Sb,
    Yj,XO,hlen,hle,XR,XY,Qx,bS]
 cases hf with
 | none RX Q6=>
  obtain⟨hlen,_,_,Qx⟩:=cJ hr hy RX;obtain⟨vn,Sx,Qr⟩:=Qx 0 (XH _);have Wy:vn= []:=by simp[bC]at Qr;exact Qr
  subst Wy;rcases Q6 with rfl| ⟨b,o,n,rfl⟩
  ·rw[VR]at hx;subst hx;exact⟨.slice none 0 0,w,m,room Om hlen Sx rfl,rfl,hr,Grow.refl m h w hr.cI⟩
  ·have hx0:=hx;obtain⟨en,ca,cap,QZ,rfl,QM,Q1,hroom⟩:=hx;exact⟨.slice (some ca) n cap,w,m,room Om hlen Sx (by simp[storeCells]),hx0,hr,Grow.refl m h w hr.cI⟩
 | new ys k mu RX hk hb Q6=>
  subst Q6;rw[VR]at hx;subst hx;obtain⟨hlen,RW,hone,_⟩:=cJ hr hy RX;obtain⟨_,_,_,Qx⟩:=cJ hr.drew hy RX;obtain⟨vn,Sx,Qr⟩:=Qx k (XH _);rw[Yf Om]at Qr;obtain⟨nc,rest,UH,Rk,Qs⟩:=nB (n:=0) (cap:=0) (base:=none) (vo:=[]) hts0 hts1 hs hbytes hbytes' hud hdk S3 Om (by rw[Yk];exact hb) hlen (by simp[Builtin.firstCells]) Sx T U0;obtain⟨m',h0,h1,h2⟩:=jR hr.drew Qr hone rest e mu true (fun _=>rfl);have Q9:=Qr.length;refine⟨_,_,m',Qs,⟨_,_,nc,h0,by rw[Yk];rfl,Om,fun _=>rfl,?_⟩,by simpa using h1,by simpa using h2.BS⟩;show 0+0+nc * i.size≤vn.length+rest.length;rw[Rk,Q9,RW];have:nc * i.size=k * i.size+ (nc - (0+k)) * i.size:=by rw[←ZO];congr 1;omega
  omega
 | on ys k b o n c mu RX hk hb Q6 hc hl=>
  subst Q6;obtain⟨en,ca,cap,QZ,rfl,QM,Q1,hroom⟩:=hx;obtain⟨hlen,RW,hone,Qx⟩:=cJ hr hy RX;have UD:cellsIn i.size h (.slice b o n i.size)=some ((c.drop o).take (n * i.size),n):=by simp[cellsIn,hc];omega
  have hdt:=mh hl;by_cases Ul:n+k≤cap
  ·obtain⟨vn,Sx,Qr⟩:=Qx k (XH _);rw[Yf Om]at Qr;have Uo:=Q1 Om;have hr1: (n+k) * i.size≤cap * i.size:=Yz _ Ul;rw[ZO]at hr1;obtain⟨w',m',h0,h1,h2,h3⟩:=qZ (mu':=false) (k0:=.cells c false false) (q:=n * i.size) hr QZ hc Om (.inl ⟨rfl,hl,rfl⟩) Qr hone Om 0;rw[hdt]at h2 h3;exact Pt
  ·obtain⟨_,_,_,hfo⟩:=cJ hr.drew (y:=.slice b o n i.size) ⟨en,ca,cap,QZ,rfl,QM,Q1,hroom⟩ UD;obtain⟨vo,hvo,RL⟩:=hfo n (XH _);obtain⟨_,_,RP,_⟩:=cJ hr (y:=.slice b o n i.size) ⟨en,ca,cap,QZ,rfl,QM,Q1,hroom⟩ UD;obtain⟨_,_,_,Rq⟩:=cJ hr.drew hy RX;obtain⟨vn,Sx,Qr⟩:=Rq k (XH _);rw[Yf Om]at Qr;rw[Yf (by simp;omega),hdt]at RL;rw[hdt]at RP;obtain⟨nc,rest,UH,Rk,Qs⟩:=nB hts0 hts1 hs hbytes hbytes' hud hdk S3 Om hb hlen hvo Sx T U0;obtain⟨g1,g2⟩:=vp (k':=.cells c false false) hr hc (.inr ⟨false,false,rfl,fun x=>(by cases x),fun x=>(by cases x)⟩);obtain⟨m',h0,h1,h2⟩:=jR g1.drew (RL.append Qr) (by simp[RP,hone]) rest e false true (fun _=>rfl)
   have QG: (h.set b (.cells c false false)).length=h.length:=Si
   rw[QG]at h0;have Q9:=Qr.length;have Wx:=RL.length;refine⟨_,_,m',Qs,⟨_,_,nc,h0,rfl,UH,fun _=>rfl,?_⟩,h1,(g2.drew.trans h2 hr.cI)⟩;exact Mm
 | over ys k b o n c mu RX hk hb Q6 hc hl=>
  subst Q6;obtain⟨en,ca,cap,QZ,rfl,QM,Q1,hroom⟩:=hx;obtain⟨hlen,RW,hone,Qx⟩:=cJ hr hy RX;have UD:cellsIn i.size h (.slice b o n i.size)=some ((c.drop o).take (n * i.size),n):=by simp[cellsIn,hc];omega
  by_cases Ul:n+k≤cap
  ·obtain⟨vn,Sx,Qr⟩:=Qx k (XH _);rw[Yf Om]at Qr;have Uo:=Q1 Om;have hr1: (n+k) * i.size≤cap * i.size:=Yz _ Ul;rw[ZO]at hr1;obtain⟨w',m',h0,h1,h2,h3⟩:=qZ (mu':=mu) (k0:=.dead) (q:=n * i.size) hr QZ hc Om (.inr ⟨rfl,rfl⟩) Qr hone Om 0;exact Pt
  ·obtain⟨_,_,_,hfo⟩:=cJ hr.drew (y:=.slice b o n i.size) ⟨en,ca,cap,QZ,rfl,QM,Q1,hroom⟩ UD;obtain⟨vo,hvo,RL⟩:=hfo n (XH _);obtain⟨_,_,RP,_⟩:=cJ hr (y:=.slice b o n i.size) ⟨en,ca,cap,QZ,rfl,QM,Q1,hroom⟩ UD;obtain⟨_,_,_,Rq⟩:=cJ hr.drew hy RX;obtain⟨vn,Sx,Qr⟩:=Rq k (XH _);rw[Yf Om]at Qr;rw[Yf (by simp;omega)]at RL;obtain⟨nc,rest,UH,Rk,Qs⟩:=nB hts0 hts1 hs hbytes hbytes' hud hdk S3 Om hb hlen hvo Sx T U0;obtain⟨g1,g2⟩:=vp (k':=.dead) hr hc (.inl rfl);obtain⟨m',h0,h1,h2⟩:=jR g1.drew (RL.append Qr) (by rw[List.all_append,RP,hone];rfl) rest e mu true (fun _=>rfl);have QG: (h.set b .dead).length=h.length:=Si
   rw[QG]at h0;have Q9:=Qr.length;have Wx:=RL.length;refine⟨_,_,m',Qs,⟨_,_,nc,h0,rfl,UH,fun _=>rfl,?_⟩,h1,(g2.drew.trans h2 hr.cI)⟩;exact Mm
 | full ys k b o n c RX hk hb Q6 hc hl=>
  subst Q6;obtain⟨en,ca,cap,QZ,rfl,QM,Q1,hroom⟩:=hx;obtain⟨hlen,RW,hone,Qx⟩:=cJ hr hy RX;have UD:cellsIn i.size h (.slice b o n i.size)=some ((c.drop o).take (n * i.size),n):=by simp[cellsIn,hc];omega
  have hdt:=mh hl;have hfull:cap≤n:=by
   obtain⟨_,_,_,_,_,_,_,hex⟩:=hr.dN b en _ QZ hc;have he:=(hex (.inl rfl)).2 rfl;by_cases hle:cap≤n
   ·exact hle
   ·have h2: (n+1) * i.size≤cap * i.size:=Yz _ Om;rw[YK]at h2;omega
  obtain⟨_,_,_,hfo⟩:=cJ hr.drew (y:=.slice b o n i.size) ⟨en,ca,cap,QZ,rfl,QM,Q1,hroom⟩ UD;obtain⟨vo,hvo,RL⟩:=hfo n (XH _);obtain⟨_,_,RP,_⟩:=cJ hr (y:=.slice b o n i.size) ⟨en,ca,cap,QZ,rfl,QM,Q1,hroom⟩ UD;obtain⟨_,_,_,Rq⟩:=cJ hr.drew hy RX;obtain⟨vn,Sx,Qr⟩:=Rq k (XH _);rw[Yf Om]at Qr;rw[Yf (by simp;omega),hdt]at RL;rw[hdt]at RP;obtain⟨nc,rest,UH,Rk,Qs⟩:=nB hts0 hts1 hs hbytes hbytes' hud hdk S3 Om hb hlen hvo Sx T U0;obtain⟨m',h0,h1,h2⟩:=jR hr.drew (RL.append Qr) (by simp[RP,hone]) rest e true true (fun _=>rfl);have Q9:=Qr.length;have Wx:=RL.length;refine⟨_,_,m',Qs,⟨_,_,nc,h0,rfl,UH,fun _=>rfl,?_⟩,h1,h2.BS⟩
  exact Mm
def CN(n es cap:Nat)(h:n≤cap):n * es≤cap * es:=Yz _ h
def JT{dT e:TypeId}{i:TypeInfo}{ts}(hts0:ts[0]? =some dT)(hs:dQ P dT=some (e,i))(hspos:0 < i.size)
  (hr:HR P m h w) {x y} {cx cy} (hx:VR m (ρ x) cx) (hy:VR m (ρ y) cy) (hf:dt (.vU i.size x y) ρ h=some (v,h')) (T:TypeId):
  ∃cv w' m',(Builtin.copy_ ts T #[cx,cy]).run P w= .ok cv w'∧VR m' v cv∧HR P m' h' w'∧Grow m h w m' h' w':=by
 obtain⟨hu,hi⟩:=fe hs;have QF:∀w,(sizeOf e).run P w= .ok i.size w:=fun w=>bZ (by simp[dP,hi]) w
 simp only[dt]at hf;split at hf
 ·rename_i b o n es' ys k Rd RX;rw[Rd]at hx;obtain⟨en,ca,cap,QZ,rfl,QM,Q1,hroom⟩:=hx;obtain⟨hlen,RW,hone,Qx⟩:=cJ hr hy RX;obtain⟨vn,Sx,Qr⟩:=Qx (min k n) (Nat.min_le_left _ _);split at hf
  case isFalse=>cases hf
  rename_i hes;subst hes;have Tu:Nat.min k n=min k n:=rfl;split at hf
  ·rename_i h0;cases hf;have Wy:vn= []:=by rw[h0]at Qr;simp[bC]at Qr;exact Qr
   subst Wy;refine⟨.int .i64 0,w,m,?_,rfl,hr,Grow.refl m h w hr.cI⟩;simp only[Builtin.copy_,hts0,YT,YD,YM,XP,XN hu,XF,hlen,QF,Tu,Sx,X7,storeCells];simp[goInt,h0]
  ·rename_i h0;split at hf
   case h_2=>cases hf
   rename_i c tl hb;split at hf
   case isFalse=>cases hf
   rename_i hle;cases hf;have To: (ys.take (min k n * i.size)).all AV.one=true:=by
    rw[X5]at hone ⊢;exact fun a ha=>hone a (YA ha)
   have Vc: (ys.take (min k n * i.size)).length=min k n * i.size:=by
    have:=CN (min k n) i.size k (Nat.min_le_left _ _);simp;omega
   obtain⟨w',bS,h1,h2⟩:=oK (ys.take (min k n * i.size)) vn hr QZ hb o 0 Om To Qr;refine⟨.int .i64 (min k n:Nat),w',m,?_,rfl,h1,h2⟩;have Uo:=Q1 Om;subst Uo;simp only[Builtin.copy_,hts0,YT,YD,YM,XP,XN hu,XF,hlen,QF,Tu,Sx,X7,bS,goInt]
 ·rename_i Rd RX;rename_i p;obtain⟨ys,k⟩:=p;rw[Rd,VR]at hx;subst hx;cases hf;obtain⟨hlen,RW,hone,Qx⟩:=cJ hr hy RX;obtain⟨vn,Sx,Qr⟩:=Qx 0 (X3 _);have Tu:Nat.min k 0=0:=Nat.min_zero k;refine⟨.int .i64 0,w,m,?_,rfl,hr,Grow.refl m h w hr.cI⟩;simp only[Builtin.copy_,hts0,YT,YD,YM,XP,XN hu,XF,hlen,QF,Tu,Sx,X7,goInt];rfl
 ·cases hf
end
section
variable {P:Program} {m:bY} {h h':ah} {w:World} {ρ:cW→AV} {v:AV}
theorem vG:∀{l} {vs} {bs},cH m l vs→l.mapM byteOf=some bs→
  ∀ (acc:ByteArray),(forIn (m:=Sem) vs acc fun c s=>
    match c with
    | .int .u8 n=>pure (ForInStep.yield (s.push (UInt8.ofNat n.toNat)))
    | _=>do
     (stuck "bytesToString: byte expected" :Sem PUnit)
     pure (ForInStep.yield s)).run P w= .ok ⟨⟨acc.data.toList++bs⟩⟩ w
 | [],vs,bs,hv,hb,acc=>by
  rw[bC]at hv;subst hv;simp at hb;subst hb;simp
 | x::xs,vs,bs,hv,hb,acc=>by
  obtain⟨y,ys,rfl,hy,hys⟩:=aS.1 hv;simp only[ZU,ZF,Z1]at hb;cases hx:byteOf x with
  | none=>simp[hx]at hb
  | some b=>
   cases hl:xs.mapM byteOf with
   | none=>simp[hx,hl]at hb
   | some bs'=>
    simp[hx,hl]at hb;subst hb;unfold byteOf at hx;split at hx
    case h_2=>cases hx
    rename_i n;cases hx;rw[VR]at hy;subst hy;have:=vG hys hl (acc.push (UInt8.ofNat n.toNat));simp only[List.forIn_cons,XP,X7,XF];rw[this];simp[ByteArray.push]
def yn{e:TypeId}(h:DL P e=true):P.underlying e=some (.int .u8):=by
 unfold DL at h;split at h
 ·assumption
 ·cases h
def Gx{s d:TypeId}{k x cx}(hk:BW P s d=some k)(hr:HR P m h w)(hx:VR m (ρ x) cx)(hf:dt (.conv k x) ρ h=some (v,h')):
  ∃cv w' m',(convert s d cx).run P w= .ok cv w'∧VR m' v cv∧HR P m' h' w'∧Grow m h w m' h' w':=by
 simp only[dt]at hf;have same:∀{cv:Value},(convert s d cx).run P w= .ok cv w→VR m v cv→h' =h→∃cv w' m',(convert s d cx).run P w= .ok cv w'∧VR m' v cv∧HR P m' h' w'∧Grow m h w m' h' w':=by
  intro cv h1 h2 h3;exact IL
 unfold BW at hk;split at hk
 ·rename_i k1 k2 hs hd;cases hk;simp only[jQ]at hf;split at hf
  case h_2=>cases hf
  rename_i hρ;rw[hρ,VR]at hx;subst hx;cases hf;exact same (by simp[convert,XN hs,XN hd,Conv.intToInt]) rfl rfl
 ·rename_i k1 k2 hs hd;cases hk;simp only[jQ]at hf;split at hf
  case h_2=>cases hf
  rename_i hρ;rw[hρ,VR]at hx;subst hx;cases hf;exact same (by simp[convert,XN hs,XN hd,Conv.intToFloat]) ⟨_,rfl,.inl rfl⟩ rfl
 ·rename_i k1 k2 hs hd;cases hk;simp only[jQ]at hf;split at hf
  case h_2=>cases hf
  rename_i sk b hρ;rw[hρ]at hx;obtain⟨b',rfl,hfr⟩:=hx;split at hf
  case h_2=>cases hf
  rename_i n hn;split at hf
  case isFalse=>cases hf
  rename_i hc;cases hf;have hbb:b' =b:=by
   rcases hfr with h1| ⟨h1,_⟩
   ·exact h1
   ·rw[hc.1]at h1;cases h1
  subst hbb;exact same (by simp[convert,XN hs,XN hd,Conv.floatToInt,hn,hc.2]) rfl rfl
 ·rename_i k1 k2 hs hd;cases hk;simp only[jQ]at hf;split at hf
  case h_2=>cases hf
  rename_i sk b hρ;rw[hρ]at hx;obtain⟨b',rfl,hfr⟩:=hx;split at hf
  case isFalse=>cases hf
  rename_i hc;cases hf;subst hc;exact same (by simp[convert,XN hs,XN hd,Conv.floatToFloat]) ⟨_,rfl,hfr⟩ rfl
 ·rename_i hs hd;cases hk;simp only[jQ]at hf;split at hf
  case h_2=>cases hf
  rename_i hρ;rw[hρ,VR]at hx;subst hx;cases hf;exact same (by simp[convert,XN hs,XN hd]) rfl rfl
 ·rename_i e hs hd;split at hk
  case isFalse=>cases hk
  rename_i he;have hue:P.underlying e=some (.int .u8):=yn he;cases hk;simp only[jQ]at hf;split at hf
  case h_2=>cases hf
  rename_i s hρ;rw[hρ,VR]at hx;subst hx;cases hf;obtain⟨q,hq⟩:∃q:Question,q= .appendCap s.length 0 e:=⟨_,rfl⟩;obtain⟨nc,T9⟩:∃nc:Nat,nc=q.cut (w.tape w.drawn q):=⟨_,rfl⟩;have UH:s.length≤nc:=by rw[T9,hq];show s.length≤s.length+_;omega
  have Sm: (choose (.appendCap s.length 0 e)).run P w= .ok nc w.drew:=by
   rw[run_choose,T9,hq];rfl
  let vs:List Value:=s.map fun b=>.int .u8 b.toNat
  let rest:List Value:=List.replicate (nc - s.length) (.int .u8 0)
  have Q9:vs.length=s.length:=by simp[vs]
  have RM:rest.length=nc - s.length:=by simp[rest]
  let W:World:=(w.drew.alloc (.cells ⟨vs++rest⟩ e))
  let W':World:=W.freeze ⟨w.heap.size,nc,none⟩ 1
  have hWh:W.heap[w.heap.size]? =some (.cells ⟨vs++rest⟩ e):=World.alloc_heap_new w.drew _;have hlt:w.heap.size < W.heap.size:=(XM.1 hWh).1;have hW':W'.heap[w.heap.size]? =some (.cells ⟨vs++rest⟩ e (nc,nc+1)):=by
   have hk:W.heap[w.heap.size]= .cells ⟨vs++rest⟩ e:=(XM.1 hWh).2;show((if(1:Nat)=0 then W else { W with heap:=W.heap.modify w.heap.size _ }).heap)[w.heap.size]? =_;rw[XG Om];show(W.heap.modify w.heap.size _)[w.heap.size]? =_;rw[Yl (by rw[Array.size_modify];exact hlt),Array.getElem_modify_self,hk];rfl
  have hother:∀i,i≠w.heap.size→W'.heap[i]? =W.heap[i]? :=by
   intro i hi;show((if(1:Nat)=0 then W else { W with heap:=W.heap.modify w.heap.size _ }).heap)[i]? =_;rw[XG Om];show(W.heap.modify w.heap.size _)[i]? =_;rw[Array.getElem?_modify,XG (fun x=>hi x.symm)]
  have QF:W'.heap.size=W.heap.size:=by
   show((if(1:Nat)=0 then W else { W with heap:=W.heap.modify w.heap.size _ }).heap).size=_;rw[XG Om];simp
  obtain⟨m',h0,h1,h2⟩:=jR hr.drew (mH m s) (qP s) rest e true true (fun _=>rfl);have h0':m' h.length=some ⟨w.heap.size,0,vs.length+rest.length,true⟩:=h0;have hne:∀b e2 k2,m' b=some e2→b≠h.length→(h++ [.cells (s.map fun b=>.int .u8 b.toNat) true true])[b]? =some k2→k2.live=true→e2.cb≠w.heap.size:=by
   intro b e2 k2 hb hbl Qq hl hcb;have:=h1.sep h.length b _ e2 (.cells (s.map fun b=>.int .u8 b.toNat) true true) k2 (fun x=>hbl x.symm) h0' hb Si Qq hcb.symm;cases k2<;>first| exact absurd this.1 Si| exact this| (cases hl;done)
  have hgrow:Grow m h w m' (h++ [.cells (s.map fun b=>.int .u8 b.toNat) true true]) W':=by
   have g:=h2.BS;refine⟨g.ext,g.len,g.new,g.tl,by rw[QF];exact g.size,?_,?_,?_,?_⟩
   ·exact g.os
   ·exact g.out
   ·exact g.tape
   ·intro i hi hno;rw[hother i Om];exact g.frame i hi hno
  refine⟨.slice (some ⟨w.heap.size,0,none⟩) s.length nc,W',m',?_,⟨_,_,nc,h0',rfl,UH,fun _=>rfl,by show 0+0+nc * 1≤vs.length+rest.length;omega⟩,⟨h1.cI,?_,h1.sep,h1.fN,fun b' e' hb'=>by have:=h1.lt b' e' hb';rw[QF];exact this⟩,hgrow⟩
  ·have dX: (⟨⟨s⟩⟩:ByteArray).size=s.length:=rfl;have Ud: (⟨s⟩:Array UInt8).map (fun b=>Value.int .u8 b.toNat)= ⟨vs⟩:=by apply ZX;simp[vs]
   have Q7: (⟨vs⟩:Array Value)++Array.replicate (nc - s.length) (.int .u8 0)= ⟨vs++rest⟩:=by apply ZX;simp[rest]
   have WD:W.shape? w.heap.size=some (e,nc):=by
    simp only[World.shape?,hWh];simp[Q9,RM];omega
   simp only[convert,XP,XN hs,XN hd,XF,XN hue,Conv.stringToBytes,dX,Sm,Ud,Q7,newRow,run_newObj,X7];simp only[markStringish,XP,run_shape];have QV:World.shape? { heap:=w.drew.heap.push (Obj.cells ⟨vs++rest⟩ e),tape:=w.drew.tape,drawn:=w.drew.drawn,os:=w.drew.os,output:=w.drew.output } w.drew.heap.size=some (e,nc):=WD;simp only[QV,XF,run_freeze];rfl
  ·intro b e2 k2 hb Qq;have Rx:=h1.dN b e2 k2 hb Qq;by_cases hbl:b=h.length
   ·subst hbl;rw[h0']at hb;cases hb;simp at Qq;subst Qq;obtain⟨cc,el,fz,hh,h3,h4,h5,h6⟩:=Rx;have hWh':W.heap[w.heap.size]? =some (.cells cc el fz):=hh;rw[hWh]at hWh';cases hWh';refine⟨⟨vs++rest⟩,e,(nc,nc+1),hW',h3,h4,fun _=>⟨(h5 rfl).1,fun i hi=>?_⟩,h6⟩;have: (⟨vs++rest⟩:Array Value).size=nc:=by simp[Q9,RM];omega
    simp only;omega
   ·by_cases hl:k2.live=true
    ·exact Rx.heap (hother _ (hne b e2 k2 hb hbl Qq hl))
    ·exact F6
 ·rename_i e hs hd;split at hk
  case isFalse=>cases hk
  rename_i he;have hue:P.underlying e=some (.int .u8):=yn he;cases hk;simp only[jQ]at hf;split at hf
  ·rename_i hρ;rw[hρ,VR]at hx;subst hx;cases hf;exact same (by simp[convert,XN hs,XN hd,XN hue,Conv.bytesToString];rfl) rfl rfl
  ·rename_i b o n es hρ;rw[hρ]at hx;split at hf
   case h_2=>cases hf
   rename_i l k hc;split at hf
   case h_2=>cases hf
   rename_i r hl;cases hf;obtain⟨hlen,RW,hone,Qx⟩:=cJ hr hx hc;obtain⟨vs,Re,Qr⟩:=Qx k (XH _);rw[Yf Om]at Qr;have hkn:k=n:=by
    unfold cellsIn at hc;simp only at hc;split at hc
    ·split at hc
     ·split at hc
      ·cases hc;rfl
      ·cases hc
     ·cases hc
    ·cases hc
   subst hkn;obtain⟨en,ca,cap,QZ,rfl,QM,Q1,hroom⟩:=hx;simp only[Builtin.firstCells,ZG]at Re;refine same (cv:=.string ⟨⟨r⟩⟩) ?_ rfl rfl;have hb:=vG (P:=P) (w:=w) Qr hl ByteArray.empty;simp only[convert,XP,XN hs,XN hd,XF,XN hue,Conv.bytesToString,Re];rw[←Array.forIn_toList]
   erw [hb]
   simp
  ·cases hf
 ·cases hk
theorem vv:∀{l} {vs} {x v} {cx},VR m x cx→cH m l vs→gY pF x l=some v→∃cv,(vs.foldlM (m:=Sem) Builtin.max2 cx).run P w= .ok cv w∧VR m v cv
 | [],vs,x,v,cx,hx,hl,hf=>by
  exact IE
 | y::l,vs,x,v,cx,hx,hl,hf=>by
  obtain⟨cy,vs',rfl,hy,Qz⟩:=aS.1 hl;simp only[gY]at hf;split at hf
  case h_2=>cases hf
  rename_i z hz;unfold pF at hz;split at hz
  case h_2=>cases hz
  rename_i k a k' b;split at hz
  case isFalse=>cases hz
  cases hz;rw[VR]at hx hy;subst hx;subst hy;obtain⟨cv,h1,h2⟩:=vv (x:=.int k (if b > a then b else a)) (cx:=.int k (if b > a then b else a)) rfl Qz hf;exact⟨cv,by simp only[List.foldlM_cons,XP,Builtin.max2,X7,XF];exact h1,h2⟩
theorem vu:∀{l} {vs} {x v} {cx},VR m x cx→cH m l vs→gY pE x l=some v→∃cv,(vs.foldlM (m:=Sem) Builtin.min2 cx).run P w= .ok cv w∧VR m v cv
 | [],vs,x,v,cx,hx,hl,hf=>by
  exact IE
 | y::l,vs,x,v,cx,hx,hl,hf=>by
  obtain⟨cy,vs',rfl,hy,Qz⟩:=aS.1 hl;simp only[gY]at hf;split at hf
  case h_2=>cases hf
  rename_i z hz;unfold pE at hz;split at hz
  case h_2=>cases hz
  rename_i k a k' b;split at hz
  case isFalse=>cases hz
  cases hz;rw[VR]at hx hy;subst hx;subst hy;obtain⟨cv,h1,h2⟩:=vu (x:=.int k (if b < a then b else a)) (cx:=.int k (if b < a then b else a)) rfl Qz hf;exact⟨cv,by simp only[List.foldlM_cons,XP,Builtin.min2,X7,XF];exact h1,h2⟩
def AS{t e:TypeId}{i:TypeInfo}{n:Nat}{z:AV}{ps:Array (Nat×Operand)}{l:List (Nat×cW)}{σ:Operand→Value}(hs:dQ P t=some (e,i))(hz:jk P e=some z)
  (hl:ps.toList.mapM (fun p=>(cQ p.2).map fun y=>(p.1 * i.size,y))=some l) (hspos:0 < i.size) (hzs:z.cells.length=i.size) (h1:z.cells.all AV.one=true) (hn:n * i.size≤2^24)
  (hr:HR P m h w) (hρ:∀p∈ps.toList,∀y,cQ p.2=some y→VR m (ρ y) (σ p.2)) {c:List AV} (hf:eo (dI n z.cells) (l.map fun p=>(p.1,i.size,ρ p.2))=some c) (hc1:c.all AV.one=true) (hcl:c.length=n * i.size) (mu tl:Bool):
  ∃cv w' m',(Instr.buildSlice t n (ps.map fun(i,x)=>(i,σ x))).run P w= .ok cv w'∧VR m' (.slice h.length 0 n i.size) cv∧HR P m' (h++ [.cells c mu tl]) w'∧Grow m h w m' (h++ [.cells c mu tl]) w':=by
 have _:=h1;obtain⟨hu,hi⟩:=fe hs;obtain⟨cz,S3,TG⟩:=jF hz w m;have hzc:=TG.cells;have dX:cz.cells.size=z.cells.length:=by have:=hzc.length;simpa using this
 have hzero:∀ (row:Array Value),row= (Array.range (n * cz.cells.size)).map (cz.cells[·% cz.cells.size]!)→cH m (dI n z.cells) row.toList:=by
  intro row hrow;have:=rR hzc Om n n (XH _);rw[←hrow,Yf]at this
  ·exact this
  ·rw[hrow];simp[dX]
 have WN:∀ (qs:List (Nat×Operand)) (l:List (Nat×cW)),qs.mapM (fun p=>(cQ p.2).map fun y=>(p.1 * i.size,y))=some l→qs.length=l.length∧∀ (j:Nat) p q,qs[j]? =some p→l[j]? =some q→q.1=p.1 * i.size∧cQ p.2=some q.2:=by
  intro qs
  induction qs with
  | nil=>intro l hl;simp at hl;subst hl;exact⟨rfl,fun j p q hp=>by simp at hp⟩
  | cons p qs ih=>
   intro l hl;simp only[ZU,ZF,Z1]at hl;cases ho:cQ p.2 with
   | none=>simp[ho]at hl
   | some y=>
    cases hr':qs.mapM (fun p=>(cQ p.2).map fun y=>(p.1 * i.size,y))with
    | none=>simp[ho,hr']at hl
    | some l'=>
     simp[ho,hr']at hl;subst hl;obtain⟨h2,h3⟩:=ih l' hr';refine⟨by simp[h2],fun j a b ha hb=>?_⟩;cases j with
     | zero=>simp at ha hb;subst ha;subst hb;exact⟨rfl,ho⟩
     | succ j=>exact h3 j a b (by simpa using ha) (by simpa using hb)
 obtain⟨Tt,hpq⟩:=WN _ _ hl;by_cases UI:n * i.size=0
 ·have hnz:n=0:=by
   rcases Nat.mul_eq_zero.1 UI with h| h
   ·exact h
   ·omega
  obtain⟨Q2,Rz,Re⟩:=qd (m:=m) (fun j=>some (j * i.size,i.size)) (ps.toList.map fun p=>(p.1,σ p.2)) (l.map fun p=>(p.1,i.size,ρ p.2)) (dI n z.cells) #[] c (by simp[Tt])
   (fun j p q hp hq=>by
    simp only[YU,XQ]at hp hq;obtain⟨p0,hp0,rfl⟩:=hp;obtain⟨q0,hq0,rfl⟩:=hq;obtain⟨h2,h3⟩:=hpq j p0 q0 hp0 hq0;exact⟨by simp[h2],hρ p0 (Yo hp0) _ h3⟩) (by subst hnz;simp[dI,bC]) hf
  obtain⟨m',h2,h3,h4⟩:=lu hr Re hc1 e mu tl;have Q9:=Re.length;refine⟨.slice (some ⟨w.heap.size,0,none⟩) n n,_,m',?_,⟨_,_,n,h2,rfl,XH _,fun _=>rfl,by show 0+0+n * i.size≤Q2.toList.length;omega⟩,h3,h4⟩;have QD:¬ (n * i.size > 2^24):=Om
  have QF: (sizeOf e).run P w= .ok i.size w:=bZ (by simp[dP,hi]) w;have e0: (Array.range 0).map (fun x=>(#[] :Array Value)[x % (#[] :Array Value).size]!)=#[]:=Si
  simp only[Instr.buildSlice,XP,XN hu,XF,QF,QD,XO];simp only[UI,XR,XP,XF,X7,e0];exact Jt
 ·obtain⟨Q2,Rz,Re⟩:=qd (m:=m) (fun j=>some (j * i.size,i.size)) (ps.toList.map fun p=>(p.1,σ p.2)) (l.map fun p=>(p.1,i.size,ρ p.2)) (dI n z.cells) ((Array.range (n * i.size)).map (cz.cells[·% cz.cells.size]!)) c (by simp[Tt])
   (fun j p q hp hq=>by
    simp only[YU,XQ]at hp hq;obtain⟨p0,hp0,rfl⟩:=hp;obtain⟨q0,hq0,rfl⟩:=hq;obtain⟨h2,h3⟩:=hpq j p0 q0 hp0 hq0;exact⟨by simp[h2],hρ p0 (Yo hp0) _ h3⟩) (hzero _ (by rw[dX,hzs])) hf
  obtain⟨m',h2,h3,h4⟩:=lu hr Re hc1 e mu tl;have Q9:=Re.length;refine⟨.slice (some ⟨w.heap.size,0,none⟩) n n,_,m',?_,⟨_,_,n,h2,rfl,XH _,fun _=>rfl,by show 0+0+n * i.size≤Q2.toList.length;omega⟩,h3,h4⟩;have QD:¬ (n * i.size > 2^24):=Om
  have QF: (sizeOf e).run P w= .ok i.size w:=bZ (by simp[dP,hi]) w;simp only[Instr.buildSlice,XP,XN hu,XF,QF,QD,XO,UI,X7,S3];exact Jt
def vC{op}{t:TypeId}{x y xs ys}(hm:P.eqGuardType P.depth t=false): (eqGuard op t x y (.agg xs) (.agg ys)).run P w= .ok () w:=by
 cases op<;>simp[eqGuard,run_program,hm]
def j6{op}{t:TypeId}{x y a b}(h1:∀l,a≠.agg l)(h2:a≠.nilIface): (eqGuard op t x y a b).run P w= .ok () w:=by
 cases op<;>cases a<;>first
  | rfl
  | exact absurd rfl h2
  | exact absurd rfl (h1 _)
def VR.Kg{x cx}(hx:VR m x cx)(h1:x.one=true): (∀l,cx≠.agg l)∧cx≠.nilIface:=by
 have hc:=hx.tv h1;refine⟨fun l e=>?_,fun e=>?_⟩
 ·subst e;cases hc
 ·subst e;cases x<;>simp[VR,AV.one]at hx h1
def Da{t:TypeId}{e:TypeId}(hu:P.underlying t=some (.slice e)){x y cx cy b}(hx:VR m x cx)(hy:VR m y cy)(hb:N4 x y=some b)(d:Nat):
  (Op.equalIn (d+1) t cx cy).run P w= .ok b w∧(∀l,cx≠.agg l)∧cx≠.nilIface∧(binOp .eql t cx cy=do pure (.bool (←Op.equal t cx cy)))∧(binOp .neq t cx cy=do pure (.bool (!(←Op.equal t cx cy)))):=by
 unfold N4 at hb;split at hb
 ·rw[VR]at hx hy;subst hx;subst hy;cases hb;exact zV
 ·rw[VR]at hx;obtain⟨_,ca,cap,_,rfl,_⟩:=hy;subst hx;cases hb;exact zV
 ·rw[VR]at hy;obtain⟨_,ca,cap,_,rfl,_⟩:=hx;subst hy;cases hb;exact zV
 ·cases hb
def Db{t:TypeId}{e:TypeId}(hu:P.underlying t=some (.pointer e)){x y cx cy b}(hx:VR m x cx)(hy:VR m y cy)(hb:N5 x y=some b)(d:Nat):
  (Op.equalIn (d+1) t cx cy).run P w= .ok b w∧(∀l,cx≠.agg l)∧cx≠.nilIface∧(binOp .eql t cx cy=do pure (.bool (←Op.equal t cx cy)))∧(binOp .neq t cx cy=do pure (.bool (!(←Op.equal t cx cy)))):=by
 unfold N5 at hb;split at hb
 ·rw[VR]at hx hy;subst hx;subst hy;cases hb;exact zV
 ·rw[VR]at hx;obtain⟨_,_,rfl⟩:=hy;subst hx;cases hb;exact zV
 ·rw[VR]at hy;obtain⟨_,_,rfl⟩:=hx;subst hy;cases hb;exact zV
 ·cases hb
def Dd{t:TypeId}{e f g}(hu:P.underlying t=some (.func e f g)){x y cx cy b}(hx:VR m x cx)(hy:VR m y cy)(hb:N7 x y=some b)(d:Nat):
  (Op.equalIn (d+1) t cx cy).run P w= .ok b w∧(∀l,cx≠.agg l)∧cx≠.nilIface∧(binOp .eql t cx cy=do pure (.bool (←Op.equal t cx cy)))∧(binOp .neq t cx cy=do pure (.bool (!(←Op.equal t cx cy)))):=by
 unfold N7 at hb;split at hb
 ·rw[VR]at hx hy;subst hx;subst hy;cases hb;exact zV
 ·rw[VR]at hx;obtain⟨_,_,_,rfl,_⟩:=hy;subst hx;cases hb;exact zV
 ·rw[VR]at hy;obtain⟨_,_,_,rfl,_⟩:=hx;subst hy;cases hb;exact zV
 ·cases hb
def Dc{t:TypeId}{e f:TypeId}(hu:P.underlying t=some (.map e f)){x y cx cy b}(hx:VR m x cx)(hy:VR m y cy)(hb:N6 x y=some b)(d:Nat):
  (Op.equalIn (d+1) t cx cy).run P w= .ok b w∧(∀l,cx≠.agg l)∧cx≠.nilIface∧(binOp .eql t cx cy=do pure (.bool (←Op.equal t cx cy)))∧(binOp .neq t cx cy=do pure (.bool (!(←Op.equal t cx cy)))):=by
 unfold N6 at hb;split at hb
 ·rw[VR]at hx hy;subst hx;subst hy;cases hb;exact zV
 ·rw[VR]at hx;obtain⟨_,_,rfl⟩:=hy;subst hx;cases hb;exact zV
 ·rw[VR]at hy;obtain⟨_,_,rfl⟩:=hx;subst hy;cases hb;exact zV
 ·cases hb
def Fm{t:TypeId}{neg k x y ox oy cx cy}(hk:Ho P neg t x y=some (.eqv neg k x y))(hx:VR m (ρ x) cx)(hy:VR m (ρ y) cy)(hf:dt (.eqv neg k x y) ρ h=some (v,h')):
  ∃cv,(do eqGuard (if neg then .neq else .eql) t ox oy cx cy;binOp (if neg then .neq else .eql) t cx cy:Sem Value).run P w= .ok cv w∧VR m v cv∧h' =h:=by
 simp only[dt]at hf;split at hf
 case h_2=>cases hf
 rename_i b hb;cases hf;have fin: (eqGuard (if neg then .neq else .eql) t ox oy cx cy).run P w= .ok () w→(Op.equalIn 10000 t cx cy).run P w= .ok b w→(binOp .eql t cx cy=do pure (.bool (←Op.equal t cx cy)))→(binOp .neq t cx cy=do pure (.bool (!(←Op.equal t cx cy))))→
   ∃cv,(do eqGuard (if neg then .neq else .eql) t ox oy cx cy;binOp (if neg then .neq else .eql) t cx cy:Sem Value).run P w= .ok cv w∧VR m (.bool (if neg then !b else b)) cv∧h=h:=by
  intro h1 h2 h3 h4;refine⟨.bool (if neg then !b else b),?_,rfl,rfl⟩;simp only[XP,h1,XF];cases neg
  ·simp only[Yj,XO,h3,XP,Op.equal,Op.maxDepth,h2,XF,X7]
  ·simp only[XR,h4,XP,Op.equal,Op.maxDepth,h2,XF,X7]
 unfold Ho at hk;split at hk<;>first
  | (cases hk;done)
  | skip
 ·rename_i hu;cases hk;have hb':dh .b (ρ x) (ρ y)=some b:=hb;have hone: (ρ x).one=true:=by unfold dh at hb';split at hb'<;>first| (cases hb';done)| simp_all [AV.one]
  obtain⟨n1,n2⟩:=hx.Kg hone;obtain⟨a,c,hxa,RX⟩:∃a c,ρ x= .bool a∧ρ y= .bool c:=by unfold dh at hb';split at hb'<;>first| (cases hb';done)| simp_all
  rw[hxa,VR]at hx;rw[RX,VR]at hy;subst hx;subst hy;refine fin (j6 n1 n2) ?_ rfl rfl;exact qC (m:=m) (t:=t) (k:=.b) hu (x:=.bool a) (y:=.bool c) rfl rfl (by rw[←hxa,←RX];exact hb') 9999
 ·rename_i fs hu;exact z21
 ·rename_i n e hu;exact z21
 ·rename_i e hu;cases hk;obtain⟨h1,h2,h3,h4,h5⟩:=Da (w:=w) hu hx hy hb 9999;exact Cz
 ·rename_i e hu;cases hk;obtain⟨h1,h2,h3,h4,h5⟩:=Db (w:=w) hu hx hy hb 9999;exact Cz
 ·rename_i hu;cases hk;obtain⟨h1,h2,h3,h4,h5⟩:=Dd (w:=w) hu hx hy hb 9999;exact Cz
 ·rename_i hu;cases hk;obtain⟨h1,h2,h3,h4,h5⟩:=Dc (w:=w) hu hx hy hb 9999;exact Cz
end
def mq(k:oA)(ρ:cW→AV)(h:ah)(v:AV)(h':ah):Prop:=
 match k with
 | .call _ _=>False
 | .app es w x y=>vQ es w (ρ x) (ρ y) h v h'
 | .aG es n z ps=>∃c mu tl,eo (dI n z) (ps.map fun p=>(p.1,es,ρ p.2))=some c∧c.all AV.one=true∧c.length=n * es∧v= .slice h.length 0 n es∧h' =h++ [.cells c mu tl]
 | k=>dt k ρ h=some (v,h')
section
variable {P:Program} {m:bY} {h h':ah} {w:World} {ρ:cW→AV} {v:AV} {σ:Operand→Value}
def eE.mZ{r:Result Value}(hr:HR P m h w)(hx:∃cv,r= .ok cv w∧VR m v cv∧h' =h){R:Result Next}(hR:∀cv,r= .ok cv w→R= .ok (.value cv) w):eE P m h w v h' R:=by
 obtain⟨cv,h1,h2,rfl⟩:=hx;exact eE.same hr h2 (hR cv h1)
def eE.yP{r:Result Value}(hx:∃cv w' m',r= .ok cv w'∧VR m' v cv∧HR P m' h' w'∧Grow m h w m' h' w'){R:Result Next}(hR:∀cv w',r= .ok cv w'→R= .ok (.value cv) w'):eE P m h w v h' R:=by
 obtain⟨cv,w',m',h1,h2,h3,h4⟩:=hx;exact⟨cv,w',m',.inl (hR cv w' h1),h2,h3,h4⟩
def nE{l l'}(hl:ye l=some l')(hρ:∀x∈l,∀x',cQ x=some x'→VR m (ρ x') (σ x)):cH m (l'.map ρ) (l.map σ).toList:=by
 have key:∀ (l:List Operand) (l':List cW),l.mapM cQ=some l'→(∀x∈l,∀x',cQ x=some x'→VR m (ρ x') (σ x))→cH m (l'.map ρ) (l.map σ):=by
  intro l
  induction l with
  | nil=>intro l' h _;simp at h;subst h;exact bC.2 rfl
  | cons x l ih=>
   intro l' h hρ;simp only[ZU,ZF,Z1]at h;cases hx:cQ x with
   | none=>simp[hx]at h
   | some y=>
    cases hl:l.mapM cQ with
    | none=>simp[hx,hl]at h
    | some l2=>
     simp[hx,hl]at h;subst h;exact aS.2 ⟨_,_,rfl,hρ x Si y hx,ih l2 hl (fun x' Qt=>hρ x' (by simp[Qt]))⟩
 have:=key l.toList l' hl (fun x hx=>hρ x (by simpa using hx))
 simpa using this
def qK{lo lo'}(hl:uH lo=some lo')(hρ:∀x∈lo,∀x',cQ x=some x'→VR m (ρ x') (σ x)):
  oz m ρ lo' (lo.map σ):=by
 cases lo with
 | none=>simp[uH]at hl;subst hl;trivial
 | some x=>
  simp only[uH,XQ]at hl;obtain⟨y,hy,rfl⟩:=hl;exact hρ x rfl y hy
def JU{op}{t:TypeId}{x y ox oy cx cy}(hr:HR P m h w)(hx:VR m (ρ x) cx)(hy:VR m (ρ y) cy)(hf:dt (.bin op x y) ρ h=some (v,h')):
  ∃cv w' m',(do eqGuard op t ox oy cx cy;binOp op t cx cy:Sem Value).run P w= .ok cv w'∧VR m' v cv∧HR P m' h' w'∧Grow m h w m' h' w':=by
 simp only[dt]at hf;split at hf
 case h_2=>cases hf
 rename_i u hu;cases hf;have fin:∀{cv:Value},(eqGuard op t ox oy cx cy).run P w= .ok () w→(binOp op t cx cy).run P w= .ok cv w→VR m v cv→
   ∃cv w' m',(do eqGuard op t ox oy cx cy;binOp op t cx cy:Sem Value).run P w= .ok cv w'∧VR m' v cv∧HR P m' h w'∧Grow m h w m' h w':=by
  intro cv h1 h2 h3;exact⟨cv,w,m,by simp only[XP,h1,XF,h2],h3,hr,Grow.refl m h w hr.cI⟩
 unfold dW at hu;split at hu
 ·rename_i k a k' b Rd Wq;rw[Rd,VR]at hx;rw[Wq,VR]at hy;subst hx;subst hy;have hg: (eqGuard op t ox oy (.int k a) (.int k' b)).run P w= .ok () w:=j6 (fun l=>by simp) Si;split at hu
  ·rename_i hs;obtain⟨cv,h1,h2⟩:=wk (P:=P) (m:=m) (w:=w) (k':=k') hs hu t;exact fin hg h1 h2
  ·rename_i hs;split at hu
   case isFalse=>cases hu
   rename_i hk;subst hk;obtain⟨cv,h1,h2⟩:=wo (P:=P) (m:=m) (w:=w) (by simpa using hs) hu t;exact fin hg h1 h2
 ·rename_i a b Rd Wq;rw[Rd,VR]at hx;rw[Wq,VR]at hy;subst hx;subst hy;obtain⟨cv,h1,h2⟩:=wj (P:=P) (m:=m) (w:=w) hu t;exact fin (j6 (fun l=>by simp) Si) h1 h2
 ·cases hu
def rL{b ts l k RC}(hk:nS P b ts l=some k)(hargs:cH m (l.map ρ) RC.toList)(hr:HR P m h w)(hs:mq k ρ h v h')(T:TypeId)(cs:Array Bool):
  ∃cv w' m',(builtin b ts T cs RC).run P w= .ok (.value cv) w'∧VR m' v cv∧HR P m' h' w'∧Grow m h w m' h' w':=by
 have same:∀{cv:Value},(builtin b ts T cs RC).run P w= .ok (.value cv) w→VR m v cv→h' =h→∃cv w' m',(builtin b ts T cs RC).run P w= .ok (.value cv) w'∧VR m' v cv∧HR P m' h' w'∧Grow m h w m' h' w':=by
  intro cv h1 h2 h3;exact IL
 have args1:∀{x:cW},cH m [ρ x] RC.toList→∃cx,RC=#[cx]∧VR m (ρ x) cx:=by
  intro x h1;obtain⟨cx,r,Vj,Tq,TH⟩:=aS.1 h1;rw[bC]at TH;subst TH;exact⟨cx,by apply ZX;rw[Vj],Tq⟩
 have V6:∀{x y:cW},cH m [ρ x,ρ y] RC.toList→∃cx cy,RC=#[cx,cy]∧VR m (ρ x) cx∧VR m (ρ y) cy:=by
  intro x y h1;obtain⟨cx,r,Vj,Tq,TH⟩:=aS.1 h1;obtain⟨cy,r',hcy,hvy,hr1⟩:=aS.1 TH;rw[bC]at hr1;subst hr1;subst hcy;exact⟨cx,cy,by apply ZX;rw[Vj],Tq,hvy⟩
 unfold nS at hk;split at hk
 ·
  rename_i x;obtain⟨cx,rfl,hx⟩:=args1 hargs;have tD:∀ (lk:LK) (t0:TypeId) (d:TypeDesc),ts[0]? =some t0→P.underlying t0=some d→(match lk with| .sl=>∃e,d= .slice e| .st=>d= .string| .mp=>∃a b,d= .map a b)→dt (.len lk x) ρ h=some (v,h')→
    ∃cv w' m',(builtin .len ts T cs #[cx]).run P w= .ok (.value cv) w'∧VR m' v cv∧HR P m' h' w'∧Grow m h w m' h' w':=by
   intro lk t0 d Sy hu hd Qo;simp only[dt]at Qo;split at Qo
   case h_2=>cases Qo
   rename_i n hn;cases Qo;have go: (Builtin.len_ ts T #[cx]).run P w= .ok (.int .i64 n) w:=by
    unfold zj at hn;split at hn
    ·rename_i s hρ;rw[hρ,VR]at hx;subst hx;split at hn
     case isFalse=>cases hn
     rename_i SB;subst SB;cases hn;cases hd;have: (⟨⟨s⟩⟩:ByteArray).size=s.length:=rfl;simp[Builtin.len_,Sy,XN hu,goInt,this]
    ·rename_i b o n' es hρ;rw[hρ]at hx;obtain⟨_,ca,cap,_,rfl,_⟩:=hx;exact Jw
    ·rename_i hρ;rw[hρ,VR]at hx;subst hx;exact Jw
    ·rename_i r hρ;rw[hρ]at hx;obtain⟨e,he,rfl⟩:=hx;split at hn
     case h_2=>cases hn
     rename_i es hb;split at hn
     case isFalse=>cases hn
     rename_i SB;subst SB;cases hn;obtain⟨a,b,rfl⟩:=hd;obtain⟨_,Ss,clock,hheap,hlen,_⟩:=hr.dN r e _ he hb;simp[Builtin.len_,Sy,XN hu,goInt,jW hheap rfl,hlen]
    ·rename_i hρ;rw[hρ,VR]at hx;subst hx;split at hn
     case isFalse=>cases hn
     rename_i SB;subst SB;cases hn;obtain⟨a,b,rfl⟩:=hd;simp[Builtin.len_,Sy,XN hu,goInt]
    ·cases hn
   exact⟨.int .i64 n,w,m,by simp only[builtin,XP,go,XF,X7],rfl,hr,Grow.refl m h w hr.cI⟩
  split at hk
  ·rename_i e hd;cases hk;obtain⟨t0,Sy,Th⟩:=Yx.1 hd;exact tD .sl t0 _ Sy Th ⟨e,rfl⟩ hs
  ·rename_i hd;cases hk;obtain⟨t0,Sy,Th⟩:=Yx.1 hd;exact tD .st t0 _ Sy Th rfl hs
  ·rename_i a b hd;cases hk;obtain⟨t0,Sy,Th⟩:=Yx.1 hd;exact tD .mp t0 _ Sy Th ⟨a,b,rfl⟩ hs
  ·rename_i n e hd;cases hk;obtain⟨t0,Sy,Th⟩:=Yx.1 hd;have Qo:dt (.zi n) ρ h=some (v,h'):=hs;simp only[dt,X1,ZQ]at Qo;obtain⟨rfl,rfl⟩:=Qo;exact same (cv:=.int .i64 n) (by simp[builtin,Builtin.len_,Sy,XN Th,goInt]) rfl rfl
  ·cases hk
 ·
  rename_i x y;obtain⟨cx,cy,rfl,hx,hy⟩:=V6 hargs;have appF:∀ (e:TypeId) (i:TypeInfo) (d:TypeDesc),(ts[0]?).bind (dQ P)=some (e,i)→(ts[1]?).bind P.underlying=some d→(∀k,d≠.int k)→
    (if 0 < i.size∧0 < i.bytes∧i.bytes≤2^20 then(i.zero.bind (lT 4)).bind fun z=>if z.cells.length=i.size then some (oA.app i.size i.bytes x y)else none else none)=some k→
    ∃cv w' m',(builtin .append ts T cs #[cx,cy]).run P w= .ok (.value cv) w'∧VR m' v cv∧HR P m' h' w'∧Grow m h w m' h' w':=by
   intro e i d h0 h1 hd hk;obtain⟨sT,hts0,hsl⟩:=Yx.1 h0;obtain⟨xT,hts1,hud⟩:=Yx.1 h1;split at hk
   case isFalse=>cases hk
   rename_i hc;obtain⟨c1,c2,c3⟩:=hc;obtain⟨z,hz,hk⟩:=Yx.1 hk;split at hk
   case isFalse=>cases hk
   rename_i hzl;cases hk;obtain⟨cv,w',m',h2,h3,h4,h5⟩:=JV (w:=w) hts0 hts1 hsl c1 c2 c3 hud hd hz hzl hr hx hy hs T;exact⟨cv,w',m',by simp only[builtin,XP,h2,XF,X7],h3,h4,h5⟩
  split at hk
  ·rename_i e i e2 h0 h1;exact appF e i _ h0 h1 (fun k=>by simp) hk
  ·rename_i e i h0 h1;exact appF e i _ h0 h1 (fun k=>by simp) hk
  ·cases hk
 ·
  rename_i x y;obtain⟨cx,cy,rfl,hx,hy⟩:=V6 hargs;split at hk
  case h_2=>cases hk
  rename_i e i h0;split at hk
  case isFalse=>cases hk
  rename_i hpos;cases hk;obtain⟨dT,hts0,hsl⟩:=Yx.1 h0;obtain⟨cv,w',m',h2,h3,h4,h5⟩:=JT (w:=w) hts0 hsl hpos hr hx hy hs T;exact⟨cv,w',m',by simp only[builtin,XP,h2,XF,X7],h3,h4,h5⟩
 ·
  rename_i x l;cases hk;have Qo:dt (.mx x l) ρ h=some (v,h'):=hs;simp only[dt]at Qo;split at Qo
  case h_2=>cases Qo
  rename_i u hu;cases Qo;obtain⟨cx,r,Vj,Tq,Qr⟩:=aS.1 hargs;obtain⟨cv,h1,h2⟩:=vv (P:=P) (w:=w) Tq Qr hu;exact same (by simp only[builtin,Builtin.max_,Vj,XP,h1,XF,X7]) h2 rfl
 ·
  rename_i x l;cases hk;have Qo:dt (.mn x l) ρ h=some (v,h'):=hs;simp only[dt]at Qo;split at Qo
  case h_2=>cases Qo
  rename_i u hu;cases Qo;obtain⟨cx,r,Vj,Tq,Qr⟩:=aS.1 hargs;obtain⟨cv,h1,h2⟩:=vu (P:=P) (w:=w) Tq Qr hu;exact same (by simp only[builtin,Builtin.min_,Vj,XP,h1,XF,X7]) h2 rfl
 ·cases hk
def v7{o:Oper}{k:oA}(hc:dV P o=some k)(hρ:∀x∈o.op.operands,∀x',cQ x=some x'→VR m (ρ x') (σ x))(hcst:∀z,ρ (.c z)=z)(hr:HR P m h w)(hs:mq k ρ h v h'):
  eE P m h w v h' ((execOp σ o).run P w):=by
 unfold dV at hc;cases Qp:o.op with
 | move x=>
  exact Pv
 | assign x=>
  exact Pv
 | pick c a b=>
  simp only[Qp]at hc;split at hc
  case h_2=>cases hc
  rename_i c' a' b' RI Vl hb';cases hc;have Qo:dt (.pick c' a' b') ρ h=some (v,h'):=hs;simp only[dt]at Qo;split at Qo
  case h_2=>cases Qo
  rename_i t ht;cases Qo;have h1:=hρ c (by simp[Qp,Op.operands]) c' RI;rw[ht,VR]at h1;refine eE.same (cv:=if t then σ a else σ b) hr ?_ (by simp[execOp,Qp,h1,asBool]);cases t
  ·exact hρ b (by simp[Qp,Op.operands]) b' hb'
  ·exact hρ a (by simp[Qp,Op.operands]) a' Vl
 | alloc e=>
  simp only[Qp]at hc;split at hc
  case h_2=>cases hc
  rename_i z hz;split at hc
  case isFalse=>cases hc
  rename_i h1;cases hc;have Qo:dt (.box (.c z)) ρ h=some (v,h'):=hs;simp only[dt,hcst,h1,XR,X1,ZQ]at Qo;obtain⟨rfl,rfl⟩:=Qo;obtain⟨cz,S3,TG⟩:=jF hz w m;obtain⟨m',h2,h3,h4,h5⟩:=sE hr TG h1 e true false;exact⟨_,_,m',.inl (by simp only[execOp,Qp,Instr.alloc,XP,S3,XF,h2,X7]),h3,h4,h5⟩
 | box e x=>
  simp only[Qp,XQ]at hc;obtain⟨x',Qt,rfl⟩:=hc;have Qo:dt (.box x') ρ h=some (v,h'):=hs;simp only[dt]at Qo;split at Qo
  case isFalse=>cases Qo
  rename_i h1;cases Qo;obtain⟨m',h2,h3,h4,h5⟩:=sE hr (hρ x (by simp[Qp,Op.operands]) x' Qt) h1 e true false;exact⟨_,_,m',.inl (by simp only[execOp,Qp,Instr.box,XP,XF,h2,X7]),h3,h4,h5⟩
 | build t ps=>
  simp only[Qp]at hc;split at hc
  case h_2=>cases hc
  rename_i z l hz hl;split at hc
  case isFalse=>cases hc
  rename_i hp;cases hc;have Qo:dt (.build z.cells l) ρ h=some (v,h'):=hs;exact eE.mZ hr (C8 (w:=w) (σ:=σ) hz hl hp (fun p hp y hy=>hρ p.2 (by simp only[Qp,Op.operands];simp only[List.mem_toArray,X2];exact⟨p,hp,rfl⟩) y hy) Qo) (fun cv h=>by simp[execOp,Qp,h])
 | buildSlice t n ps=>
  simp only[Qp]at hc;split at hc
  case h_2=>cases hc
  rename_i e i hsl;split at hc
  case h_2=>cases hc
  rename_i z l hz hl;split at hc
  case isFalse=>cases hc
  rename_i QH;obtain⟨h1,h2,h3,h4⟩:=QH;cases hc;obtain⟨c,mu,tl,Rz,hc1,hcl,rfl,rfl⟩:=hs;exact eE.yP (AS (w:=w) (σ:=σ) hsl hz hl h1 h2 h3 h4 hr (fun p hp y hy=>hρ p.2 (by simp only[Qp,Op.operands];simp only[List.mem_toArray,X2];exact⟨p,hp,rfl⟩) y hy) Rz hc1 hcl mu tl) (fun cv w' h=>by simp[execOp,Qp,h])
 | load t a=>
  simp only[Qp]at hc;split at hc
  case h_2=>cases hc
  rename_i n a' hn Vl;cases hc;exact eE.mZ hr (AR hn hr (hρ a (by simp[Qp,Op.operands]) a' Vl) hs) (fun cv h=>by simp[execOp,Qp,h])
 | store t a x=>
  simp only[Qp]at hc;split at hc
  case h_2=>cases hc
  rename_i n a' x' hn Vl Qt;cases hc;obtain⟨w',h1,rfl,h2,h3⟩:=C5 (w:=w) hn hr (hρ a (by simp[Qp,Op.operands]) a' Vl) (hρ x (by simp[Qp,Op.operands]) x' Qt) hs;exact⟨undef,w',m,.inr ⟨by simp[execOp,Qp,h1],rfl⟩,jG m,h2,h3⟩
 | nilCheck x=>
  simp only[Qp,XQ]at hc;obtain⟨x',Qt,rfl⟩:=hc;have Qo:dt (.bt x') ρ h=some (v,h'):=hs;have h1:=hρ x (by simp[Qp,Op.operands]) x' Qt;simp only[dt]at Qo;split at Qo
  ·rename_i b o hv;cases Qo;rw[hv]at h1;have h1':=h1;obtain⟨e,he,h2⟩:=h1;exact eE.same hr h1' (by simp[execOp,Qp,h2])
  ·rename_i f a c hv;exact Mg
  ·rename_i f a c hv;cases Qo;rw[hv]at h1;have h1':=h1;obtain⟨f',a',c',h2,h3,_⟩:=h1;obtain⟨e,he,rfl⟩:=h3;exact eE.same hr h1' (by simp[execOp,Qp,h2])
  ·rename_i t' n a c hv;exact Mg
  ·rename_i t' p f q a c hv;exact Mg
  ·cases Qo
 | binOp op t x y ty=>
  simp only[Qp]at hc;split at hc
  case h_2=>cases hc
  rename_i x' y' Qt hy';have hx:=hρ x (by simp[Qp,Op.operands]) x' Qt;have hy:=hρ y (by simp[Qp,Op.operands]) y' hy';have bin:∀{op':BinOp},o.op= .binOp op' t x y ty→k= .bin op' x' y'→eE P m h w v h' ((execOp σ o).run P w):=by
   intro op' ho hk;subst hk;exact eE.yP (JU (op:=op') (t:=t) (ox:=x) (oy:=y) hr hx hy hs) (fun cv w' h=>by simp only[execOp,ho];rw[XP,h];rfl)
  have eqv:∀ (neg:Bool),o.op= .binOp (if neg then .neq else .eql) t x y ty→Ho P neg t x' y' =some k→eE P m h w v h' ((execOp σ o).run P w):=by
   intro neg ho hk;have hk0:=hk;unfold Ho at hk;split at hk
   ·cases hk;exact bin ho rfl
   ·cases hk;exact bin ho rfl
   ·cases hk;exact bin ho rfl
   ·exact z24
   ·exact Pp
   ·exact Pp
   ·exact z24
   ·exact z24
   ·exact z24
   ·exact z24
   ·cases hk
  split at hc
  ·exact eqv false Qp hc
  ·exact eqv true Qp hc
  ·cases hc;exact bin Qp rfl
 | unOp op t x=>
  simp only[Qp,XQ]at hc;obtain⟨x',Qt,rfl⟩:=hc;have Qo:dt (.un op x') ρ h=some (v,h'):=hs;simp only[dt]at Qo;split at Qo
  case h_2=>cases Qo
  rename_i u hu;cases Qo;obtain⟨cv,h1,h2⟩:=C9 (P:=P) (w:=w) (hρ x (by simp[Qp,Op.operands]) x' Qt) hu;exact eE.same hr h2 (by simp[execOp,Qp,h1])
 | convert s d x=>
  simp only[Qp]at hc;split at hc
  case h_2=>cases hc
  rename_i ck x' RF Qt;cases hc;exact eE.yP (Gx RF hr (hρ x (by simp[Qp,Op.operands]) x' Qt) hs) (fun cv w' h=>by simp[execOp,Qp,h])
 | makeInterface u x=>
  simp only[Qp]at hc;split at hc
  ·cases hc
  ·rename_i d x' hni hd Qt;cases hc;have Qo:dt (.conv (.pW u) x') ρ h=some (v,h'):=hs;simp only[dt,jQ,X1,ZQ]at Qo;obtain⟨rfl,rfl⟩:=Qo;have Tp:=hρ x (by simp[Qp,Op.operands]) x' Qt;refine eE.same (cv:=.iface u (σ x)) hr ⟨_,rfl,Tp⟩ ?_;simp only[execOp,Qp,Instr.makeInterface,XP,XN hd,XF];cases d<;>first| rfl| exact absurd rfl (hni _)
  ·cases hc
 | makeFunc fn a c=>
  simp only[Qp]at hc;split at hc
  case isFalse=>cases hc
  rename_i hfn;split at hc
  case h_2=>cases hc
  rename_i a' c' Vl RI;cases hc;have Qo:dt (.kH fn a' c') ρ h=some (v,h'):=hs;simp only[dt,X1,ZQ]at Qo;obtain⟨rfl,rfl⟩:=Qo;have h1:=nE (m:=m) (ρ:=ρ) (σ:=σ) Vl (fun x hx=>hρ x (by simp only[Qp,Op.operands];exact Array.mem_append.2 (.inl hx)));have h2:=nE (m:=m) (ρ:=ρ) (σ:=σ) RI (fun x hx=>hρ x (by simp only[Qp,Op.operands];exact Array.mem_append.2 (.inr hx)));refine eE.same (cv:=.func fn (a.map σ) (c.map σ)) hr ⟨fn,(a.map σ).toList,(c.map σ).toList,rfl,?_,h1,h2⟩ (by simp[execOp,Qp,Instr.makeFunc]);cases fn<;>first
   | rfl
   | (cases hfn;done)
 | makeMap t r=>
  simp only[Qp]at hc;cases r with
  | some _=>simp at hc
  | none=>
   simp only[X1]at hc;subst hc;have Qo:dt .kZ ρ h=some (v,h'):=hs;simp only[dt,X1,ZQ]at Qo;obtain⟨rfl,rfl⟩:=Qo;have VT:=jS hr (.map #[] 0) (.bn []) ⟨w.heap.size,0,0,true⟩ rfl rfl (fun m' _=>⟨rfl,#[],0,World.alloc_heap_new w _,rfl,fun i p hp=>by simp at hp⟩);exact⟨.map (some w.heap.size),_,_,.inl (by simp[execOp,Qp,Instr.makeMap]),⟨⟨w.heap.size,0,0,true⟩,by simp[bY.add],rfl⟩,VT.1,VT.2⟩
 | makeSlice t l c=>
  simp only[Qp]at hc;split at hc
  case h_2=>cases hc
  rename_i e i l' c' hsl Qz RI;split at hc
  case h_2=>cases hc
  rename_i z hz;split at hc
  case isFalse=>cases hc
  rename_i QH;obtain⟨h1,h2,h3⟩:=QH;cases hc;exact eE.yP (Gs hsl hz h1 h2 h3 hr (hρ l (by simp[Qp,Op.operands]) l' Qz) (hρ c (by simp[Qp,Op.operands]) c' RI) hs) (fun cv w' h=>by simp[execOp,Qp,h])
 | slice t x lo hi mx=>
  simp only[Qp]at hc;cases mx with
  | some _=>simp at hc
  | none=>
   simp only at hc;split at hc
   case h_2=>cases hc
   rename_i x' lo' hi' Qt hlo' hhi';have hx:=hρ x (by simp[Qp,Op.operands]) x' Qt;have hlo:=qK (m:=m) (ρ:=ρ) (σ:=σ) hlo' (fun y hy=>hρ y (by simp only[Qp,Op.operands];cases hy;simp));have hhi:=qK (m:=m) (ρ:=ρ) (σ:=σ) hhi' (fun y hy=>hρ y (by simp only[Qp,Op.operands];cases hy;simp));split at hc
   ·rename_i hu;cases hc;exact eE.mZ hr (JP hu hx hlo hhi hs) (fun cv h=>by simp only[execOp,Qp,ZP];rw[XP,h];rfl)
   ·rename_i e hu;simp only[XQ]at hc;obtain⟨n,hn,rfl⟩:=hc;exact eE.mZ hr (MI hu hn hx hlo hhi hs) (fun cv h=>by simp only[execOp,Qp,ZP];rw[XP,h];rfl)
   ·rename_i n e hu;simp only[XQ]at hc;obtain⟨es,hes,rfl⟩:=hc;exact eE.mZ hr (JQ hu hes hr hx hlo hhi hs) (fun cv h=>by simp only[execOp,Qp,ZP];rw[XP,h];rfl)
   ·cases hc
 | fieldAddr t x i=>
  simp only[Qp]at hc;split at hc
  case h_2=>cases hc
  rename_i f x' hf Qt;split at hc
  case h_2=>cases hc
  rename_i n hn;split at hc
  case isFalse=>cases hc
  rename_i hpos;cases hc;exact eE.mZ hr (Gw hf hn hpos (hρ x (by simp[Qp,Op.operands]) x' Qt) hs) (fun cv h=>by simp[execOp,Qp,h])
 | indexAddr t x i=>
  simp only[Qp]at hc;split at hc
  case h_2=>cases hc
  rename_i x' i' Qt hi';have hx:=hρ x (by simp[Qp,Op.operands]) x' Qt;have hi:=hρ i (by simp[Qp,Op.operands]) i' hi';split at hc
  ·rename_i e hu;simp only[XQ]at hc;obtain⟨n,hn,rfl⟩:=hc;exact eE.mZ hr (Gu hu hn hx hi hs) (fun cv h=>by simp[execOp,Qp,h])
  ·rename_i len e hu;simp only[XQ]at hc;obtain⟨n,hn,rfl⟩:=hc;exact eE.mZ hr (Gv hu hn hx hi hs) (fun cv h=>by simp[execOp,Qp,h])
  ·cases hc
 | field t x i=>
  simp only[Qp]at hc;split at hc
  case h_2=>cases hc
  rename_i f x' hf Qt;simp only[XQ]at hc;obtain⟨n,hn,rfl⟩:=hc;exact eE.mZ hr (C6 hf hn (hρ x (by simp[Qp,Op.operands]) x' Qt) hs) (fun cv h=>by simp[execOp,Qp,h])
 | index t x i=>
  simp only[Qp]at hc;split at hc
  case h_2=>cases hc
  rename_i x' i' Qt hi';have hx:=hρ x (by simp[Qp,Op.operands]) x' Qt;have hi:=hρ i (by simp[Qp,Op.operands]) i' hi';split at hc
  ·rename_i hu;cases hc;exact eE.mZ hr (JR hu hx hi hs) (fun cv h=>by simp[execOp,Qp,h])
  ·rename_i len e hu;split at hc
   case h_2=>cases hc
   rename_i n q hn hq;cases hc;exact eE.mZ hr (JS hu hn hq hx hi hs) (fun cv h=>by simp[execOp,Qp,h])
  ·cases hc
 | lookup t x i ok=>
  simp only[Qp]at hc;split at hc
  case h_2=>cases hc
  rename_i kt e x' i' hu Qt hi';split at hc
  case h_2=>cases hc
  rename_i kk z hkk hz;cases hc;exact eE.mZ hr (Gt hu hkk hz hr (hρ x (by simp[Qp,Op.operands]) x' Qt) (hρ i (by simp[Qp,Op.operands]) i' hi') hs) (fun cv h=>by simp[execOp,Qp,h])
 | mapUpdate t x i y=>
  exact Py
 | insert t x i y=>
  exact Py
 | range t x=>
  simp only[Qp]at hc;split at hc
  case h_2=>cases hc
  rename_i hu;simp only[XQ]at hc;obtain⟨x',Qt,rfl⟩:=hc;exact eE.yP (Gq hu hr (hρ x (by simp[Qp,Op.operands]) x' Qt) hs) (fun cv w' h=>by simp[execOp,Qp,h])
 | next x isS=>
  simp only[Qp]at hc;cases isS with
  | false=>simp at hc
  | true=>
   simp only[XQ]at hc;obtain⟨x',Qt,rfl⟩:=hc;exact eE.yP (C7 (t:=o.type) hr (hρ x (by simp[Qp,Op.operands]) x' Qt) hs) (fun cv w' h=>by simp[execOp,Qp,h])
 | extract x i=>
  simp only[Qp,XQ]at hc;obtain⟨x',Qt,rfl⟩:=hc;have Qo:dt (.ext x' i) ρ h=some (v,h'):=hs;simp only[dt]at Qo;split at Qo
  case h_2=>cases Qo
  rename_i l hl;split at Qo
  case h_2=>cases Qo
  rename_i u hu;cases Qo;have h1:=hρ x (by simp[Qp,Op.operands]) x' Qt;rw[hl]at h1;obtain⟨l',h2,h3⟩:=h1;obtain⟨cv,Sk,Qr⟩:=h3.get hu;exact eE.same hr Qr (by simp[execOp,Qp,Instr.extract,h2,Sk])
 | call c=>
  simp only[Qp]at hc;split at hc
  case h_2=>cases hc
  rename_i l hl;have hargs:=nE (m:=m) (ρ:=ρ) (σ:=σ) hl (fun x hx=>hρ x (by simp only[Qp,Op.operands,Call.operands];exact Array.mem_append.2 (.inr hx)));split at hc
  ·exact z148
  ·exact z148
  ·rename_i b hb;obtain⟨cv,w',m',h1,h2,h3,h4⟩:=rL (w:=w) hc hargs hr hs o.type (c.args.map fun| .const _=>true| _=>false);refine⟨cv,w',m',.inl ?_,h2,h3,h4⟩;simp only[execOp,Qp,resolve,hb,XP,X7,XF,invoke];exact h1
 | _=>simp[Qp]at hc
end
def Rel(P:Program)(m:bY)(h:ah)(w:World)(v:AV)(h':ah)(e:Ending)(w':World):Prop:=
 ∃cv m',e= .returned cv∧VR m' v cv∧HR P m' h' w'∧Grow m h w m' h' w'
def lA(P:Program)(f:FuncId)(args:List AV)(h:ah)(v:AV)(h':ah):Prop:=
 ∀ (m:bY) (w:World) (vs:List Value),HR P m h w→cH m args vs→Calls P f ⟨vs⟩ w (Rel P m h w v h')
def Ct(P:Program)(R:Ending→World→Prop):Result Next→Prop
 | .ok (.value cv) w'=>R (.returned cv) w'
 | .ok (.enter f args) w'=>CallsIn Fence.wide 0 P f args w' R
 | .ok (.round l f tmps asg body) w'=>RoundIn Fence.wide 0 P l f tmps asg body w' R
 | _=>False
def eU(P:Program)(fv:AV)(args:List AV)(h:ah)(v:AV)(h':ah):Prop:=
 ∀ (m:bY) (w:World) (cv:Value) (vs:List Value),HR P m h w→VR m fv cv→cH m args vs→
  ∃d,(∀w,(Deferred.ofValue cv ⟨vs⟩).run P w= .ok d w)∧Ct P (Rel P m h w v h') ((invoke d.target d.args).run P w)
def pn(P:Program)(k:oA)(ρ:cW→AV)(h:ah)(v:AV)(h':ah):Prop:=
 match k with
 | .call f args=>eU P (ρ f) (args.map ρ) h v h'
 | k=>mq k ρ h v h'
abbrev Fd(ro:Option Nat):Fence:={ Fence.wide with round:=ro }
def jX{P f fn args w}(hf:P.funcs[f]? =some fn)(hb:fn.body.isSome=true)(hn: (fn.name== "runtime.NumGoroutine")=false):
  (callFunc f args).run P w= .ok (.enter f args) w:=by
 have hb':fn.body≠none:=by cases h:fn.body<;>simp_all
 have UJ:fn.name≠ "runtime.NumGoroutine":=by simpa using hn
 simp[callFunc,XP,run_program,hf,UJ,hb',Result.andThen]
section
variable {P:Program} {m:bY} {h h':ah} {w:World} {v:AV}
def qq{ro:Option Nat}{o:Oper}{a:Act}{next:Act→World→Prop}{Q:Exit→Act→World→Prop}{r:Result Next}
  (hr:Ct P (Rel P m h w v h') r) (hn:∀cv m' w',VR m' v cv→HR P m' h' w'→Grow m h w m' h' w'→next (a.put o.dst cv) w'):o.uponIn (Fd ro) 0 P a next Q r:=by
 cases r with
 | halt x w'=>exact hr.elim
 | ok x w'=>
  cases x<;>first
   | exact hr.elim
   | skip
  case value cv=>
   obtain⟨cv',m',he,h1,h2,h3⟩:=hr;cases he;exact hn cv m' w' h1 h2 h3
  case enter f args=>
   rw[Oper.uponIn_enter];refine⟨fun hd=>by simp[Fd,Fence.wide]at hd,CallsIn.mono (F:=Fd ro) (show CallsIn (Fd ro) (0 - 1) P f args w' (Rel P m h w v h')from hr) fun e w'' he=>?_⟩;exact I0
  case round l f tmps asg body=>
   rw[Oper.uponIn_round];refine⟨fun hd=>by simp[Fd,Fence.wide]at hd,RoundIn.mono (F:=Fd ro) (show RoundIn (Fd ro) (0 - 1) P l f tmps asg body w' (Rel P m h w v h')from hr) fun e w'' he=>?_⟩;exact I0
def uI{o:Oper}{k:oA}{ρ:cW→AV}(hc:dV P o=some k){a:Act}(hρ:∀x∈o.op.operands,∀x',cQ x=some x'→VR m (ρ x') (a.eval x))(hcst:∀z,ρ (.c z)=z)
  (hr:HR P m h w) (hs:pn P k ρ h v h') (ro:Option Nat) (next:Act→World→Prop) (Q:Exit→Act→World→Prop)
  (hn:∀cv m' w',VR m' v cv→HR P m' h' w'→Grow m h w m' h' w'→next (a.put o.dst cv) w'):o.wpIn (Fd ro) 0 P a w next Q:=by
 refine⟨fun _ _=>trivial,?_⟩;have hdef:∀c,o.op≠.defer c:=by
  intro c Qp;simp[dV,Qp]at hc
 rw[Oper.semAt_eq _ _ _ hdef];by_cases SH:∃f args,k= .call f args
 ·obtain⟨f,args,rfl⟩:=SH;have Qo:eU P (ρ f) (args.map ρ) h v h':=hs;cases Qp:o.op with
  | call c=>
   have RI:=hc;simp only[dV,Qp]at RI;split at RI
   case h_2=>cases RI
   rename_i l hl;have hargs:=nE (m:=m) (ρ:=ρ) (σ:=a.eval) hl (fun x hx=>hρ x (by simp only[Qp,Op.operands,Call.operands];exact Array.mem_append.2 (.inr hx)));split at RI
   ·rename_i g hg;simp only[XQ]at RI;obtain⟨g',QL,he⟩:=RI;cases he;have hf:=hρ g (by simp[Qp,Op.operands,Call.operands,hg]) _ QL;obtain⟨d,hd,haf⟩:=Qo m w _ _ hr hf hargs;refine qq (m:=m) (h:=h) (w:=w) (v:=v) (h':=h') ?_ hn;simp only[execOp,Qp,resolve,hg,XP];have QU: (Deferred.ofValue (a.eval g) (c.args.map a.eval)).run P w= .ok d w:=hd w;rw[QU];exact haf
   ·rename_i r name hg;simp only[XQ]at RI;obtain⟨r',hr',he⟩:=RI;cases he;have hrv:=hρ r (by simp[Qp,Op.operands,Call.operands,hg]) _ hr';have hf:VR m (ρ (.c (.func (.method name) [] []))) (.func (.method name) #[] #[]):=by
     rw[hcst,VR];exact⟨_,[],[],rfl,rfl,rfl,rfl⟩
    obtain⟨d,hd,haf⟩:=Qo m w _ (a.eval r:: (c.args.map a.eval).toList) hr hf (aS.2 ⟨_,_,rfl,hrv,hargs⟩);refine qq (m:=m) (h:=h) (w:=w) (v:=v) (h':=h') ?_ hn;simp only[execOp,Qp,resolve,hg,XP];have QU:=hd w;have: (#[]++ (⟨a.eval r:: (c.args.map a.eval).toList⟩:Array Value))=#[a.eval r]++c.args.map a.eval:=by
     apply ZX;simp
    simp only[Deferred.ofValue,this]at QU;cases QU;exact haf
   ·rename_i b hb;exfalso;unfold nS at RI
    repeat' split at RI
    all_goals first| (cases RI;done)| (simp only[Yx]at RI;obtain⟨z,_,hz⟩:=RI;split at hz<;>cases hz)
  | makeMap t r=>cases r<;>simp[dV,Qp]at hc
  | next x b=>
   cases b
   ·simp[dV,Qp]at hc
   ·simp[dV,Qp,XQ]at hc
  | slice t x lo hi mx=>
   cases mx with
   | some _=>simp[dV,Qp]at hc
   | none=>
    exfalso;simp only[dV,Qp]at hc
    repeat' split at hc
    all_goals first
     | (cases hc;done)
     | (simp[XQ]at hc;done)
  | _=>
   exfalso;simp only[dV,Qp]at hc
   repeat' split at hc
   all_goals first
    | (cases hc;done)
    | (simp[XQ,Yx]at hc;done)
    | (unfold Ho at hc;repeat' split at hc;all_goals first| (cases hc;done)| (simp[XQ]at hc;done))
 ·have Qo:mq k ρ h v h':=by
   cases k<;>first| exact hs| exact absurd ⟨_,_,rfl⟩ SH
  obtain⟨cv,w',m',he,h1,h2,h3⟩:=v7 (w:=w) hc hρ hcst hr Qo;rcases he with he| ⟨he,rfl⟩
  ·rw[he];exact hn cv m' w' h1 h2 h3
  ·rw[he];exact hn undef m' w' h1 h2 h3
def GV(P:Program)(m:bY):Prop:=∀g,g < P.globals.size→∃e,m g=some e∧e.cb=g∧e.d=0
def HR.gv(hr:HR P m h w):GV P m:=fun g hg=>by obtain⟨e,h1,h2,h3,_⟩:=hr.fN g hg;exact⟨e,h1,h2,h3⟩
def yt(hg:GV P m){ts:TS}{a:Act}{x:Operand}{x':cW}(hx:cQ x=some x')(hok:LX P x=true)(ht:∀t,x= .tmp t→VR m (ts.getD t aB) (a.tmps.getD t undef)):VR m (val ts x') (a.eval x):=by
 cases x with
 | tmp t=>cases hx;exact ht t rfl
 | const c=>
  simp only[cQ,XQ]at hx;obtain⟨y,hy,rfl⟩:=hx;exact qj m 4 _ _ hy
 | global g=>
  cases hx;simp only[LX,Yg]at hok;obtain⟨e,he,hcb,hd⟩:=hg g hok;exact⟨e,he,by rw[hcb,hd];rfl⟩
 | func f=>cases hx;exact⟨.func f,[],[],rfl,rfl,rfl,rfl⟩
def nv{ts:TS}{vs:Array Value}(h:cH m ts vs.toList)(t:Nat):VR m (ts.getD t aB) (vs.getD t undef):=by
 have hl:=h.length;by_cases ht:t < ts.length
 ·have hx:ts[t]? =some ts[t]:=Xw ht;obtain⟨y,hy,hr⟩:=h.get hx;have e1:ts.getD t aB=ts[t]:=by simp[List.getD,hx]
  have e2:vs.getD t undef=y:=by
   simp only[YS]at hy;simp[Yh,hy]
  rw[e1,e2];exact hr
 ·have e1:ts.getD t aB=aB:=by simp[List.getD,Zt (by omega:ts.length≤t)]
  have e2:vs.getD t undef=undef:=by
   have:vs.size≤t:=by simp at hl;omega
   simp[Yh,YW this]
  rw[e1,e2];exact jG m
def Dp{ts:TS}{a:Act}(h:cH m ts a.tmps.toList){x:AV}{cv:Value}(hx:VR m x cv)(d:Option Nat):cH m (put ts d x) (a.put d cv).tmps.toList:=by
 cases d with
 | none=>exact h
 | some d=>simp only[put,Act.put,Array.toList_setIfInBounds];exact h.set d hx
def put_defers(a:Act)(d:Option Nat)(cv:Value): (a.put d cv).defers=a.defers:=by cases d<;>rfl
def qp{ts:TS}{a:Act}{ops:Array Oper}{o:Oper}{g:Option (Nat×Bool)}(hg:tF ops o.guard=some g)
  (ht:∀t b,g=some (t,b)→(t < ts.length↔t < a.tmps.size)∧VR m (ts.getD t aB) (a.tmps.getD t undef)):Region.wanted o (yielded ops a.tmps)=true↔wanted g ts:=by
 unfold tF at hg;unfold Region.wanted wanted;cases TJ:o.guard with
 | none=>rw[TJ]at hg;cases hg;simp
 | some p=>
  obtain⟨j,b⟩:=p;rw[TJ]at hg;simp only[XQ]at hg;obtain⟨d,hd,rfl⟩:=hg;simp only[yielded,hd,Option.bind_some,beq_iff_eq];obtain⟨hlt,Qr⟩:=ht d b rfl;by_cases hdl:d < ts.length
  ·have TL:=hlt.1 hdl;have e1:ts.getD d aB=ts[d]:=by simp[List.getD,Xw hdl]
   have e2:a.tmps.getD d undef=a.tmps[d]:=by simp[Yh,Yl TL]
   rw[e1,e2]at Qr;rw[Yl TL,Xw hdl];generalize a.tmps[d]=cv at Qr;generalize ts[d]=av at Qr;cases av with
   | bool t=>rw[VR]at Qr;subst Qr;simp
   | int k n=>rw[VR]at Qr;subst Qr;simp
   | vT k n=>rw[VR]at Qr;obtain⟨_,rfl,_⟩:=Qr;simp
   | vF k x y=>rw[VR]at Qr;obtain⟨_,_,rfl,_⟩:=Qr;simp
   | str s=>rw[VR]at Qr;subst Qr;simp
   | ptr b o=>rw[VR]at Qr;obtain⟨_,_,rfl⟩:=Qr;simp
   | nilPtr=>rw[VR]at Qr;subst Qr;simp
   | slice b o n e=>rw[VR]at Qr;obtain⟨_,_,_,_,rfl,_⟩:=Qr;simp
   | af=>rw[VR]at Qr;subst Qr;simp
   | map r=>rw[VR]at Qr;obtain⟨_,_,rfl⟩:=Qr;simp
   | cR=>rw[VR]at Qr;subst Qr;simp
   | func f x y=>rw[VR]at Qr;obtain⟨_,_,_,rfl,_⟩:=Qr;simp
   | nilFunc=>rw[VR]at Qr;subst Qr;simp
   | agg l=>rw[VR]at Qr;obtain⟨_,rfl,_⟩:=Qr;simp
   | dJ l=>rw[VR]at Qr;obtain⟨_,rfl,_⟩:=Qr;simp
   | pW u l=>rw[VR]at Qr;obtain⟨_,rfl,_⟩:=Qr;simp
   | jY=>rw[VR]at Qr;subst Qr;simp
  ·have TL:¬d < a.tmps.size:=fun x=>hdl (hlt.2 x)
   rw[YW Om,Zt Om];simp
inductive dx (P:Program) (o:bJ) (ts:TS) (h:ah):TS→ah→Prop
 | run {v:AV} {h':ah} (hw:wanted o.gd ts) (hb:vS o.dst o.k ts.length) (hs:pn P o.k (val ts) h v h'):dx P o ts h (put ts o.dst v) h'
 | skip (hw:¬wanted o.gd ts):dx P o ts h (put ts o.dst aB) h
def xH(P:Program):List bJ→TS→ah→TS→ah→Prop
 | [],ts,h,ts',h'=>ts' =ts∧h' =h
 | o::r,ts,h,ts',h'=>∃RY h1,dx P o ts h RY h1∧(o.q=true→∃g,h1=h++g)∧xH P r RY h1 ts' h'
structure St(P:Program)(m:bY)(ts:TS)(h:ah)(a:Act)(w:World):Prop where
 hr:HR P m h w
 ts:cH m ts a.tmps.toList
def nW{ρ}:¬pn P .bad ρ h v h':=fun hs=>by
 have Qo:dt .bad ρ h=some (v,h'):=hs;simp[dt]at Qo
def fg{ops:Array Oper}{i:Nat}{o:Oper}(ho:ops[i]? =some o){q:Bool}{io:bJ}(hc:bQ P ops q o=some io){ts ts':TS}{a:Act}
  (hg:GV P m) (hr:HR P m h w) (hlen:a.tmps.size=ts.length)
  (ht:∀t,t∈o.looksAt ops→VR m (ts.getD t aB) (a.tmps.getD t undef)) (hs:dx P io ts h ts' h') (ro:Option Nat) (K:Act→World→Prop) (Q:Exit→Act→World→Prop)
  (hn:∀cv v m' w',ts' =put ts o.dst v→VR m' v cv→HR P m' h' w'→Grow m h w m' h' w'→K (a.put o.dst cv) w'):wpOpIn (Fd ro) 0 P ops Q i K a w:=by
 unfold bQ at hc;split at hc
 case h_2=>cases hc
 rename_i g TJ;cases hc;have hw:=qp (m:=m) (ts:=ts) (a:=a) TJ (fun t b Ty=>⟨Om,ht t (by
  unfold Oper.looksAt;refine List.mem_append_right _ ?_;unfold tF at TJ;cases hog:o.guard with
  | none=>rw[hog]at TJ;cases TJ;cases Ty
  | some p=>
   obtain⟨j,b'⟩:=p;rw[hog]at TJ;simp only[XQ]at TJ;obtain⟨d,hd,rfl⟩:=TJ;cases Ty;simp[hd])⟩)
 unfold wpOpIn;rw[ho];cases hs with
 | run hwa hb hs=>
  clear hb;simp only;rw[XI (hw.2 hwa)];simp only at hs;split at hs
  case isFalse=>exact absurd hs nW
  rename_i Xd;cases hk:dV P o with
  | none=>rw[hk]at hs;exact absurd hs nW
  | some k=>
   rw[hk]at hs;refine uI hk (fun x hx x' Qt=>?_) (fun z=>rfl) hr hs ro K Q (fun cv m' w' h1 h2 h3=>hn cv _ m' w' rfl h1 h2 h3);exact Pn
 | skip hwa=>
  simp only;rw[XG (fun x=>hwa (hw.1 x))];exact⟨fun _ _=>trivial,hn undef _ m w rfl (jG m) hr (Grow.refl m h w hr.cI)⟩
theorem fQ{α β:Type}{f:Nat→α→Option β}:∀{l:List α} {i:Nat} {r:List β},ep f l i=some r→r.length=l.length∧∀ (j:Nat) (x:α),l[j]? =some x→∃y,r[j]? =some y∧f (i+j) x=some y
 | [],i,r,h=>by cases h;exact⟨rfl,fun j x hx=>by simp at hx⟩
 | x::xs,i,r,h=>by
  unfold ep at h;split at h
  case h_2=>cases h
  rename_i y ys hy hys;cases h;obtain⟨h1,h2⟩:=fQ hys;refine⟨by simp[h1],fun j z hz=>?_⟩;cases j with
  | zero=>simp at hz;subst hz;exact⟨y,Si,hy⟩
  | succ j=>
   simp at hz;obtain⟨u,hu,hf⟩:=h2 j z hz;exact⟨u,by simpa using hu,by rw[show i+ (j+1)=i+1+j from by omega];exact hf⟩
structure Row(P:Program)(l:List bJ)(T:Nat→TS)(H:Nat→ah):Prop where
 step:∀i o,l[i]? =some o→dx P o (T i) (H i) (T (i+1)) (H (i+1))∧(o.q=true→∃g,H (i+1)=H i++g)
theorem xH.row:∀{l} {ts ts'} {h h'},xH P l ts h ts' h'→∃T H,T 0=ts∧H 0=h∧T l.length=ts'∧H l.length=h'∧Row P l T H
 | [],ts,ts',h,h',hs=>by
  obtain⟨rfl,rfl⟩:=hs;exact⟨fun _=>ts',fun _=>h',rfl,rfl,rfl,rfl,⟨fun i o ho=>by simp at ho⟩⟩
 | o::r,ts,ts',h,h',hs=>by
  obtain⟨RY,h1,bS,hq,hr⟩:=hs;obtain⟨T,H,hT,hH,RK,hH',hrow⟩:=hr.row;refine⟨fun i=>match i with| 0=>ts| i+1=>T i,fun i=>match i with| 0=>h| i+1=>H i,rfl,rfl,RK,hH',⟨fun i x hx=>?_⟩⟩;cases i with
  | zero=>
   simp at hx;subst hx;show dx P o ts h (T 0) (H 0)∧_;rw[hT,hH];exact⟨bS,fun q=>by show ∃g,H 0=h++g;rw[hH];exact hq q⟩
  | succ i=>exact hrow.step i x (by simpa using hx)
def mG(ts:TS)(d:Option Nat)(v:AV): (put ts d v).length=ts.length:=by cases d<;>simp[put]
theorem dx.put{o ts ts'}(hs:dx P o ts h ts' h'):∃v,ts' =put ts o.dst v:=by
 cases hs with
 | run=>exact⟨_,rfl⟩
 | skip=>exact⟨_,rfl⟩
def dm{ops q o io}(hc:bQ P ops q o=some io):io.dst=o.dst∧io.q=q:=by
 unfold bQ at hc;split at hc
 ·cases hc;exact⟨rfl,rfl⟩
 ·cases hc
def wJ{ops:Array Oper}{l:List bJ}(hc:cK P ops false=some l){ts ts':TS}{h h':ah}(hs:xH P l ts h ts' h'){m:bY}{a:Act}{w:World}(st:St P m ts h a w)(ro:Option Nat)
  (Q:Exit→Act→World→Prop) (hQ:∀m' a' w',St P m' ts' h' a' w'→Grow m h w m' h' w'→a'.defers=a.defers→Q .normal a' w') (id:Nat): (Code.region id ops false).wpIn (Fd ro) 0 P Q a w:=by
 refine wpIn_region ?_;obtain⟨T,H,rfl,rfl,rfl,rfl,hrow⟩:=hs.row;obtain⟨hlen,Qw⟩:=fQ (show ep (fun _ o=>bQ P ops false o) ops.toList 0=some l from hc);simp only[ZH]at hlen;have key:∀ (k j:Nat),j+k=ops.size→∀ (m1:bY) (a1:Act) (w1:World),St P m1 (T j) (H j) a1 w1→Grow m (H 0) w m1 (H j) w1→a1.defers=a.defers→
   wpOpsIn (Fd ro) 0 P ops Q (List.range' j k) a1 w1:=by
  intro k
  induction k with
  | zero=>
   intro j hj m1 a1 w1 s1 g1 hd;have:j=l.length:=Om
   subst this;exact hQ m1 a1 w1 s1 g1 hd
  | succ k ih=>
   intro j hj m1 a1 w1 s1 g1 hd;rw[List.range'_succ,wpOpsIn_cons];have W9:j < ops.size:=Om
   have ho:ops[j]? =some ops[j]:=Yl W9;obtain⟨io,hio,QA⟩:=Qw j ops[j] Si;obtain⟨bS,_⟩:=hrow.step j io hio;refine fg ho QA s1.hr.gv s1.hr (by simpa using s1.ts.length) (fun t _=>nv s1.ts t) bS ro _ Q ?_;intro cv v m' w' Qn h1 h2 h3;have hle:=h3.le s1.hr.cI;exact ih (j+1) Om m' _ w' ⟨h2,by rw[Qn];exact Dp (cH.mono hle _ _ s1.ts) h1 _⟩ (g1.trans h3 st.hr.cI) (by rw[put_defers];exact hd)
 have:=key ops.size 0 Om m a w st (Grow.refl m _ w st.hr.cI) rfl
 rwa [←List.range_eq_range']at this
end
end Go.Abs
