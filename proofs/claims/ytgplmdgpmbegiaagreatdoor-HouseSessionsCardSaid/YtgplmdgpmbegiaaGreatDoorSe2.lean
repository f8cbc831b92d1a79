/- A part of the proof that HouseSessions holds. No condition. -/
import Derived.Shelf.Strings.Builder1
import Derived.Shelf.Strings.Builder2
import Derived.Shelf.Strings.OnBuilder
import Derived.Test.YtgplmdgpmbegiaaGreatDoorProg
import Derived.Shelf.Strings.Repeat
import Derived.Tactics
import Derived.OrdersIn
import Derived.RangeFuncLeaves
import Derived.RangeFuncIn
import Derived.RangeFuncOwn
import Derived.Laws.Sem
import Derived.Laws.World
import Derived.Laws.Cells
import Derived.Laws.Entries
import Derived.Below
import Derived.MapKept
import Derived.Laws.Tables
import Derived.Laws.StructEq
import Derived.Test.YtgplmdgpmbegiaaGreatDoorSe0
set_option linter.all false
open Nat (reduceAdd reduceMul reduceLeDiff reduceEqDiff)
namespace Go.Proofs
open Go.Shelf
def Tryz.qw:Go.Shelf.Ren:=⟨λ| 156=>114| 165=>210| 166=>211| 169=>212| 240=>257| 241=>258| 276=>282| 277=>283|n=>n,λ| 31=>28| 9=>9| 3=>3| 4=>4| 0=>0| 20=>20| 72=>271| 76=>275| 70=>269| 37=>119| 75=>274| 127=>308| 164=>332| 5=>5| 80=>97|n=>n,λn=>n⟩
def Tryz.zP:Go.Proofs.Lays.n156 Tryz.prog Tryz.qw:={
 mixed:=by kernel_rfl
 f156:=Tryz.func114.trans (congrArg some (by kernel_rfl))
 f165:=Tryz.func210.trans (congrArg some (by kernel_rfl))
 f166:=Tryz.func211.trans (congrArg some (by kernel_rfl))
 f169:=Tryz.func212.trans (congrArg some (by kernel_rfl))
 f240:=Tryz.func257.trans (congrArg some (by kernel_rfl))
 f241:=Tryz.func258.trans (congrArg some (by kernel_rfl))
 f276:=Tryz.func282.trans (congrArg some (by kernel_rfl))
 f277:=Tryz.func283.trans (congrArg some (by kernel_rfl))
 t0:=Tryz.underlying0
 a0:=Tryz.isAgg0
 z0:=Tryz.sizeOf0
 v0:=Tryz.zeroValue0
 t3:=Tryz.underlying3
 a3:=Tryz.isAgg3
 z3:=Tryz.sizeOf3
 v3:=Tryz.zeroValue3
 t4:=Tryz.underlying4
 a4:=Tryz.isAgg4
 z4:=Tryz.sizeOf4
 v4:=Tryz.zeroValue4
 t9:=Tryz.underlying9
 a9:=Tryz.isAgg9
 z9:=Tryz.sizeOf9
 v9:=Tryz.zeroValue9
 t20:=Tryz.underlying20
 a20:=Tryz.isAgg20
 z20:=Tryz.sizeOf20
 v20:=Tryz.zeroValue20
 t31:=Tryz.underlying28
 a31:=Tryz.isAgg28
 z31:=Tryz.sizeOf28
 v31:=Tryz.zeroValue28
 t37:=Tryz.underlying119
 a37:=Tryz.isAgg119
 z37:=Tryz.sizeOf119
 v37:=Tryz.zeroValue119
 t70:=Tryz.underlying269
 a70:=Tryz.isAgg269
 z70:=Tryz.sizeOf269
 v70:=Tryz.zeroValue269
 t72:=Tryz.underlying271
 a72:=Tryz.isAgg271
 z72:=Tryz.sizeOf271
 v72:=Tryz.zeroValue271
 t75:=Tryz.underlying274
 a75:=Tryz.isAgg274
 z75:=Tryz.sizeOf274
 v75:=Tryz.zeroValue274
 t76:=Tryz.underlying275
 a76:=Tryz.isAgg275
 z76:=Tryz.sizeOf275
 v76:=Tryz.zeroValue275
 t127:=Tryz.underlying308
 a127:=Tryz.isAgg308
 z127:=Tryz.sizeOf308
 v127:=Tryz.zeroValue308
 t164:=Tryz.underlying332
 a164:=Tryz.isAgg332
 z164:=Tryz.sizeOf332
 v164:=Tryz.zeroValue332}
def Tryz.kv:Builder.Extra Tryz.prog Tryz.qw:={
 sizeBuilder:=by kernel_rfl
 liesBuilder:=by kernel_rfl
 t5:=Tryz.underlying5
 a5:=Tryz.isAgg5
 z5:=Tryz.sizeOf5
 v5:=Tryz.zeroValue5
 infoByte:=by kernel_rfl
 cellsByte:=by kernel_rfl
 sizeByte:=by kernel_rfl
 neB5:=by decide}
open Go.RowKit in
theorem Tryz.strings_Join_none(a:Option Addr)(c:Nat)(sep:ByteArray)(w:World):
  Calls Tryz.prog 114 #[.slice a 0 c,.string sep] w λe w'=>e=.returned (.string ⟨#[]⟩)/\w' =w:=Any.strings_Join_none Tryz.zP Tryz.kv a c sep w
open Go.RowKit in
theorem Tryz.strings_Join(bk o c:Nat)(xs:List ByteArray)(sep:ByteArray)(w:World)(hcells:∀(j:Nat) x,xs[j]? =some x->w.cell? ⟨bk,o+j,none⟩=some (.string x))(hbk:bk<w.heap.size)(hN:xs.length<=140737488355328)(hcap:xs.length<=c)(hlen:(Lib.join (xs.map (·.data.toList)) sep.data.toList).length<=140737488355328):
  Calls Tryz.prog 114 #[.slice (some ⟨bk,o,none⟩) xs.length c,.string sep] w λe w'=>e=.returned (.string ⟨(Lib.join (xs.map (·.data.toList)) sep.data.toList).toArray⟩)/\Below w.heap.size w w':=Any.strings_Join Tryz.zP Tryz.kv bk o c xs sep w hcells hbk hN hcap hlen
end Go.Proofs
namespace Go.Proofs
open Go.Shelf
def Tryz.qx:Go.Shelf.Ren:=⟨λ| 105=>252| 212=>267| 99=>270| 165=>210| 166=>211| 170=>271| 169=>212| 263=>285| 264=>286| 206=>287| 240=>257| 241=>258| 276=>282| 277=>283|n=>n,λ| 9=>9| 3=>3| 4=>4| 20=>20| 0=>0| 46=>319| 109=>320| 5=>5| 72=>271| 76=>275| 51=>335| 146=>336| 53=>327| 148=>338| 70=>269| 37=>119| 75=>274| 127=>308| 164=>332| 80=>97|n=>n,λn=>n⟩
def Tryz.E5:Go.Proofs.Lays.n105 Tryz.prog Tryz.qx:={
 mixed:=by kernel_rfl
 f99:=Tryz.func270.trans (congrArg some (by kernel_rfl))
 f105:=Tryz.func252.trans (congrArg some (by kernel_rfl))
 f165:=Tryz.func210.trans (congrArg some (by kernel_rfl))
 f166:=Tryz.func211.trans (congrArg some (by kernel_rfl))
 f169:=Tryz.func212.trans (congrArg some (by kernel_rfl))
 f170:=Tryz.func271.trans (congrArg some (by kernel_rfl))
 f206:=Tryz.func287.trans (congrArg some (by kernel_rfl))
 f212:=Tryz.func267.trans (congrArg some (by kernel_rfl))
 f240:=Tryz.func257.trans (congrArg some (by kernel_rfl))
 f241:=Tryz.func258.trans (congrArg some (by kernel_rfl))
 f263:=Tryz.func285.trans (congrArg some (by kernel_rfl))
 f264:=Tryz.func286.trans (congrArg some (by kernel_rfl))
 f276:=Tryz.func282.trans (congrArg some (by kernel_rfl))
 f277:=Tryz.func283.trans (congrArg some (by kernel_rfl))
 t0:=Tryz.underlying0
 a0:=Tryz.isAgg0
 z0:=Tryz.sizeOf0
 v0:=Tryz.zeroValue0
 t3:=Tryz.underlying3
 a3:=Tryz.isAgg3
 z3:=Tryz.sizeOf3
 v3:=Tryz.zeroValue3
 t4:=Tryz.underlying4
 a4:=Tryz.isAgg4
 z4:=Tryz.sizeOf4
 v4:=Tryz.zeroValue4
 t5:=Tryz.underlying5
 a5:=Tryz.isAgg5
 z5:=Tryz.sizeOf5
 v5:=Tryz.zeroValue5
 t9:=Tryz.underlying9
 a9:=Tryz.isAgg9
 z9:=Tryz.sizeOf9
 v9:=Tryz.zeroValue9
 t20:=Tryz.underlying20
 a20:=Tryz.isAgg20
 z20:=Tryz.sizeOf20
 v20:=Tryz.zeroValue20
 t37:=Tryz.underlying119
 a37:=Tryz.isAgg119
 z37:=Tryz.sizeOf119
 v37:=Tryz.zeroValue119
 t46:=Tryz.underlying319
 a46:=Tryz.isAgg319
 z46:=Tryz.sizeOf319
 v46:=Tryz.zeroValue319
 t51:=Tryz.underlying335
 a51:=Tryz.isAgg335
 z51:=Tryz.sizeOf335
 v51:=Tryz.zeroValue335
 t53:=Tryz.underlying327
 a53:=Tryz.isAgg327
 z53:=Tryz.sizeOf327
 v53:=Tryz.zeroValue327
 t70:=Tryz.underlying269
 a70:=Tryz.isAgg269
 z70:=Tryz.sizeOf269
 v70:=Tryz.zeroValue269
 t72:=Tryz.underlying271
 a72:=Tryz.isAgg271
 z72:=Tryz.sizeOf271
 v72:=Tryz.zeroValue271
 t75:=Tryz.underlying274
 a75:=Tryz.isAgg274
 z75:=Tryz.sizeOf274
 v75:=Tryz.zeroValue274
 t76:=Tryz.underlying275
 a76:=Tryz.isAgg275
 z76:=Tryz.sizeOf275
 v76:=Tryz.zeroValue275
 t109:=Tryz.underlying320
 a109:=Tryz.isAgg320
 z109:=Tryz.sizeOf320
 v109:=Tryz.zeroValue320
 t127:=Tryz.underlying308
 a127:=Tryz.isAgg308
 z127:=Tryz.sizeOf308
 v127:=Tryz.zeroValue308
 t146:=Tryz.underlying336
 a146:=Tryz.isAgg336
 z146:=Tryz.sizeOf336
 v146:=Tryz.zeroValue336
 t148:=Tryz.underlying338
 a148:=Tryz.isAgg338
 z148:=Tryz.sizeOf338
 v148:=Tryz.zeroValue338
 t164:=Tryz.underlying332
 a164:=Tryz.isAgg332
 z164:=Tryz.sizeOf332
 v164:=Tryz.zeroValue332}
def Tryz.pF:Builder.Extra Tryz.prog Tryz.qx:={
 sizeBuilder:=by kernel_rfl
 liesBuilder:=by kernel_rfl
 t5:=Tryz.underlying5
 a5:=Tryz.isAgg5
 z5:=Tryz.sizeOf5
 v5:=Tryz.zeroValue5
 infoByte:=by kernel_rfl
 cellsByte:=by kernel_rfl
 sizeByte:=by kernel_rfl
 neB5:=by decide}
end Go.Proofs
namespace Go.Abs
inductive AV where
 |bool (b:Bool)
 |int (k:IntKind) (n:Int)
 |yc (k:FloatKind) (b:Nat)
 |xP (k:FloatKind) (re im:Nat)
 |str (s:By)
 |ptr (b o:Nat)
 |nilPtr
 |slice (b o n e:Nat)
 |af
 |map (r:Nat)
 |dF
 |func (f:Fn) (a c:List AV)
 |nilFunc
 |agg (l:List AV)
 |dz (l:List AV)
 |vB (u:TypeId) (v:AV)
 |la
 deriving Inhabited
def aA:AV:=.dz []
def AV.cells:AV->List AV
 |.agg l=>l
 |v=>[v]
def AV.one:AV->Bool
 |.agg _=>false
 |.dz _=>false
 |.la=>false
 |_=>true
inductive dt where
 |t (i:Nat)
 |c (v:AV)
 |g (i:Nat)
 |f (i:Nat)
 deriving Inhabited
inductive CK where
 |b
 |i
 |s
 deriving DecidableEq,Inhabited
inductive Ke where
 |one (k:CK)
 |agg (ks:List CK)
 |EY
 |yJ
 |qP
 |Mm
 deriving Inhabited
inductive At where
 |MQ (k:IntKind)
 |OP
 |N3
 |same
 |PO (k:FloatKind)
 |P4 (k:IntKind)
 |P5 (k:FloatKind)
 |vB (u:TypeId)
 deriving Inhabited
inductive LK where
 |sl
 |st
 |mp
 deriving DecidableEq,Inhabited
inductive pE where
 |bY (x:dt)
 |pick (c a b:dt)
 |box (x:dt)
 |o8 (n:Nat) (x:dt)
 |build (z:List AV) (ps:List (Nat×Nat×dt))
 |bh (es:Nat) (n:Nat) (z:List AV) (ps:List (Nat×dt))
 |load (n:Option Nat) (a:dt)
 |store (n:Nat) (a x:dt)
 |bT (x:dt)
 |bin (op:BinOp) (x y:dt)
 |eqv (neg:Bool) (t:Ke) (x y:dt)
 |un (op:UnOp) (x:dt)
 |conv (k:At) (x:dt)
 |uP (f:Fn) (a c:List dt)
 |oD
 |wI (es w:Nat) (z:List AV) (l c:dt)
 |sl (es:Nat) (x:dt) (lo hi:Option dt)
 |HW (x:dt) (lo hi:Option dt)
 |NZ (n es:Nat) (x:dt) (lo hi:Option dt)
 |bp (off:Nat) (x:dt)
 |bo (es:Nat) (x i:dt)
 |te (len es:Nat) (x i:dt)
 |part (n:Option Nat) (off:Nat) (x:dt)
 |J6 (len es:Nat) (n:Option Nat) (x i:dt)
 |C5 (x i:dt)
 |look (kk:CK) (z:AV) (ok:Bool) (m k:dt)
 |gy (kk:CK) (m k x:dt)
 |Cq (x:dt)
 |rL (x:dt)
 |ext (x:dt) (i:Nat)
 |call (f:dt) (args:List dt)
 |len (lk:LK) (x:dt)
 |AR (n:Nat)
 |app (es w:Nat) (x y:dt)
 |Ae (es:Nat) (x y:dt)
 |mx (x:dt) (l:List dt)
 |mn (x:dt) (l:List dt)
 |bad
 deriving Inhabited
structure bN where
 dst:Option Nat
 k:pE
 gd:Option (Nat×Bool)
 q:Bool
 deriving Inhabited
def yL(d:Option Nat)(k:pE)(n:Nat):Prop:=
 match k,d with
 |.o8 _ _,some d=>d<n
 |_,_=>True
inductive ai where
 |skip
 |ops (l:List bN)
 |sX (l:List bN)
 |mR (l:List bN)
 |seq (a b:ai)
 |cond (c:dt) (a b:ai)
 |block (id:Nat) (a:ai)
 |loop (a:ai)
 |exit (id:Nat)
 |ret
 |gx (g:dt) (ps:List Nat) (asg body:ai)
 |bad
 deriving Inhabited
inductive Ex where
 |normal
 |exit (id:Nat)
 |ret
 deriving DecidableEq,Inhabited
def Ex.Dq:Ex->Exit
 |.normal=>.normal
 |.exit id=>.exit id
 |.ret=>.ret
def Ex.jump:Ex->Option Code
 |.normal=>none
 |.exit id=>some (.exit id)
 |.ret=>some .ret
inductive an where
 |cells (c:List AV) (mu tl:Bool)
 |dead
 |bu (es:List (AV×AV))
 |iter (s:By) (pos:Nat)
 |loop (st:LoopState) (ex:Ex) (ts:List AV) (ps:List Nat) (asg body:ai)
 deriving Inhabited
abbrev ah:=List an
abbrev TS:=List AV
structure tq where
 cb:Nat
 d:Nat
 sz:Nat
 own:Bool
abbrev cw:=Nat->Option tq
def cw.le(m m':cw):Prop:=∀b e,m b=some e->m' b=some e
def cw.le_trans{a b c:cw}(h:a.le b)(k:b.le c):a.le c:=λx e hx=>k x e (h x e hx)
def E0(k:FloatKind)(b:Nat):Bool:=(k.format.order b b).isNone
def FR(k:FloatKind)(b b':Nat):Prop:=b' =b\/(E0 k b=true/\E0 k b' =true)
def BC(m:cw):Fn->Fn->Prop
 |.yield l,g=>∃e,m l=some e/\g=.yield e.cb
 |f,g=>g=f
mutual
def VR(m:cw):AV->Value->Prop
 |.bool b,v=>v=.bool b
 |.int k n,v=>v=.int k n
 |.yc k b,v=>∃b',v=.float k b'/\FR k b b'
 |.xP k x y,v=>∃x' y',v=.complex k x' y'/\FR k x x'/\FR k y y'
 |.str s,v=>v=.string ⟨⟨s⟩⟩
 |.ptr b o,v=>∃e,m b=some e/\v=.pointer (some ⟨e.cb,o+e.d,none⟩)
 |.nilPtr,v=>v=.pointer none
 |.slice b o n es,v=>∃e ca cap,m b=some e/\v=.slice (some ca) n cap/\n<=cap/\(0<cap->ca=⟨e.cb,o+e.d,none⟩)/\o+e.d+cap*es<=e.sz
 |.af,v=>v=.slice none 0 0
 |.map r,v=>∃e,m r=some e/\v=.map (some e.cb)
 |.dF,v=>v=.map none
 |.func f a c,v=>∃f' a' c',v=.func f' ⟨a'⟩ ⟨c'⟩/\BC m f f'/\cQ m a a'/\cQ m c c'
 |.nilFunc,v=>v=.nilFunc
 |.agg l,v=>∃l',v=.agg ⟨l'⟩/\cQ m l l'
 |.dz l,v=>∃l',v=.tuple ⟨l'⟩/\cQ m l l'
 |.vB u a,v=>∃v',v=.iface u v'/\VR m a v'
 |.la,v=>v=.nilIface
def cQ(m:cw):List AV->List Value->Prop
 |[],vs=>vs=[]
 |x::xs,vs=>∃y ys,vs=y::ys/\VR m x y/\cQ m xs ys
end
def BC.mono{m m'}(h:m.le m'):∀{f g},BC m f g->BC m' f g:=by
 intro f g hf;cases f<;>simp only[BC]at hf ⊢<;>try exact hf
 obtain⟨e,he,hg⟩:=hf;exact⟨e,h _ _ he,hg⟩
mutual
theorem VR.mono{m m'}(h:m.le m'):∀(a:AV) (v:Value),VR m a v->VR m' a v
 |.bool _,v,hv=>hv
 |.int _ _,v,hv=>hv
 |.yc _ _,v,hv=>hv
 |.xP _ _ _,v,hv=>hv
 |.str _,v,hv=>hv
 |.ptr b o,v,hv=>by
  obtain⟨e,he,hv⟩:=(show ∃e,m b=some e/\v=.pointer (some ⟨e.cb,o+e.d,none⟩)from hv);exact⟨e,h _ _ he,hv⟩
 |.nilPtr,v,hv=>hv
 |.slice b o n es,v,hv=>by
  obtain⟨e,ca,cap,he,hr⟩:=(show ∃e ca cap,m b=some e/\v=.slice (some ca) n cap/\n<=cap/\(0<cap->ca=⟨e.cb,o+e.d,none⟩)/\o+e.d+cap*es<=e.sz from hv);exact⟨e,ca,cap,h _ _ he,hr⟩
 |.af,v,hv=>hv
 |.map r,v,hv=>by
  obtain⟨e,he,hv⟩:=(show ∃e,m r=some e/\v=.map (some e.cb)from hv);exact⟨e,h _ _ he,hv⟩
 |.dF,v,hv=>hv
 |.func f a c,v,hv=>by
  obtain⟨f',a',c',hv,hf,ha,hc⟩:=(show ∃f' a' c',v=.func f' ⟨a'⟩ ⟨c'⟩/\BC m f f'/\cQ m a a'/\cQ m c c' from hv);exact⟨f',a',c',hv,hf.mono h,cQ.mono h a a' ha,cQ.mono h c c' hc⟩
 |.nilFunc,v,hv=>hv
 |.agg l,v,hv=>by
  obtain⟨l',hv,hl⟩:=(show ∃l',v=.agg ⟨l'⟩/\cQ m l l' from hv);exact⟨l',hv,cQ.mono h l l' hl⟩
 |.dz l,v,hv=>by
  obtain⟨l',hv,hl⟩:=(show ∃l',v=.tuple ⟨l'⟩/\cQ m l l' from hv);exact⟨l',hv,cQ.mono h l l' hl⟩
 |.vB u a,v,hv=>by
  obtain⟨v',hv,ha⟩:=(show ∃v',v=.iface u v'/\VR m a v' from hv);exact⟨v',hv,VR.mono h a v' ha⟩
 |.la,v,hv=>hv
theorem cQ.mono{m m'}(h:m.le m'):∀(l:List AV) (vs:List Value),cQ m l vs->cQ m' l vs
 |[],_,hv=>hv
 |x::xs,vs,hv=>by
  obtain⟨y,ys,hv,hx,VG⟩:=(show ∃y ys,vs=y::ys/\VR m x y/\cQ m xs ys from hv);exact⟨y,ys,hv,VR.mono h x y hx,cQ.mono h xs ys VG⟩
end
def bE{m vs}:cQ m [] vs↔vs=[]:=Iff.rfl
def aT{m x xs vs}:cQ m (x::xs) vs↔∃y ys,vs=y::ys/\VR m x y/\cQ m xs ys:=Iff.rfl
theorem cQ.length{m}:∀{l}{vs},cQ m l vs->vs.length=l.length
 |[],_,h=>by rw[bE]at h;simp[h]
 |x::xs,vs,h=>by
  obtain⟨y,ys,rfl,_,VG⟩:=aT.1 h;simp[cQ.length VG]
theorem cQ.get{m:cw}:∀{l:List AV}{vs:List Value},cQ m l vs->∀{i:Nat}{x:AV},l[i]? =some x->∃y,vs[i]? =some y/\VR m x y
 |[],_,_,i,x,h=>by simp at h
 |z::zs,vs,h,i,x,hx=>by
  obtain⟨y,ys,rfl,hy,hys⟩:=aT.1 h;cases i with
  |zero=>simp at hx;subst hx;exact⟨y,Si,hy⟩
  |succ i=>simp at hx;simpa using cQ.get hys hx
theorem cQ.iV{m}:∀{l}{vs},vs.length=l.length->(∀(i:Nat) (x:AV),l[i]? =some x->∃y,vs[i]? =some y/\VR m x y)->cQ m l vs
 |[],vs,hl,_=>by rw[bE];exact aaO.1 (by simpa using hl)
 |x::xs,[],hl,_=>by simp at hl
 |x::xs,v::vs,hl,h=>by
  refine aT.2 ⟨v,vs,rfl,?_,cQ.iV (by simpa using hl) λi z hz=>?_⟩
  ·obtain⟨y,hy,hr⟩:=h 0 x Si;simp at hy;subst hy;exact hr
  ·obtain⟨y,hy,hr⟩:=h (i+1) z (by simpa using hz);exact⟨y,by simpa using hy,hr⟩
theorem cQ.append{m}:∀{a b}{va vb},cQ m a va->cQ m b vb->cQ m (a++b) (va++vb)
 |[],b,va,vb,ha,hb=>by rw[bE]at ha;subst ha;simpa using hb
 |x::xs,b,va,vb,ha,hb=>by
  obtain⟨y,ys,rfl,hy,hys⟩:=aT.1 ha;exact aT.2 ⟨y,ys++vb,Si,hy,cQ.append hys hb⟩
theorem cQ.set{m:cw}{l:List AV}{vs:List Value}(h:cQ m l vs)(i:Nat){x:AV}{v:Value}(hx:VR m x v):cQ m (l.set i x) (vs.set i v):=by
 refine cQ.iV (by simp[h.length]) λj z hz=>?_
 rw[List.getElem?_set]at hz ⊢;by_cases hij:i=j
 ·simp only[hij,Z7]at hz ⊢;split at hz
  ·simp only[aak]at hz;subst hz;rename_i hlt;exact⟨v,by simp[h.length,hlt],hx⟩
  ·simp at hz
 ·simp only[hij,Z3]at hz ⊢;exact h.get hz
theorem cQ.take{m}:∀{l}{vs}(n:Nat),cQ m l vs->cQ m (l.take n) (vs.take n)
 |[],vs,n,h=>by rw[bE]at h;subst h;simp[bE]
 |x::xs,vs,0,h=>by simp[bE]
 |x::xs,vs,n+1,h=>by
  obtain⟨y,ys,rfl,hy,hys⟩:=aT.1 h;exact aT.2 ⟨y,ys.take n,Si,hy,cQ.take n hys⟩
theorem cQ.drop{m}:∀{l}{vs}(n:Nat),cQ m l vs->cQ m (l.drop n) (vs.drop n)
 |[],vs,n,h=>by rw[bE]at h;subst h;simp[bE]
 |x::xs,vs,0,h=>by simpa using h
 |x::xs,vs,n+1,h=>by
  obtain⟨y,ys,rfl,hy,hys⟩:=aT.1 h
  simpa using cQ.drop n hys
theorem VR.one{m x v}(h:VR m x v)(hx:x.one=true):v.cells=#[v]:=by
 exact Ry
def VR.uI{m x v}(h:VR m x v)(hx:x.one=true):v.oneCell' =true:=by
 exact Ry
theorem VR.cells{m x v}(h:VR m x v):cQ m x.cells v.cells.toList:=by
 by_cases hx:x.one=true
 ·have hc:x.cells=[x]:=by cases x<;>first|rfl|cases hx
  rw[h.one hx,hc];exact aT.2 ⟨v,[],rfl,h,bE.2 rfl⟩
 ·cases x with
  |agg l=>rw[VR]at h;obtain⟨l',rfl,hl⟩:=h;exact hl
  |dz l=>exact aT.2 ⟨v,[],by rw[VR]at h;obtain⟨l',rfl,hl⟩:=h;rfl,h,bE.2 rfl⟩
  |la=>exact aT.2 ⟨v,[],by rw[VR]at h;subst h;rfl,h,bE.2 rfl⟩
  |_=>exact absurd rfl hx
def val(ts:TS):dt->AV
 |.t i=>ts.getD i aA
 |.c v=>v
 |.g i=>.ptr i 0
 |.f i=>.func (.func i) [] []
def put(ts:TS)(d:Option Nat)(v:AV):TS:=
 match d with
 |some d=>ts.set d v
 |none=>ts
def wanted(g:Option (Nat×Bool))(ts:TS):Prop:=
 match g with
 |none=>True
 |some (t,b)=>ts[t]? =some (.bool b)
def fk(h:ah)(b:Nat):Bool:=
 match h[b]? with
 |some (.cells _ _ tl)=>tl
 |_=>false
def mT:Nat->Value->Option AV
 | 0,_=>none
 |n+1,v=>
  match v with
  |.bool b=>some (.bool b)
  |.int k i=>some (.int k i)
  |.float k b=>some (.yc k b)
  |.complex k x y=>some (.xP k x y)
  |.string s=>some (.str s.data.toList)
  |.pointer none=>some .nilPtr
  |.slice none 0 0=>some .af
  |.map none=>some .dF
  |.nilFunc=>some .nilFunc
  |.agg cs=>(cs.toList.mapM (mT n)).map .agg
  |.tuple cs=>(cs.toList.mapM (mT n)).map .dz
  |_=>none
def dh:Operand->Option dt
 |.tmp t=>some (.t t)
 |.const v=>(mT 4 v).map .c
 |.global g=>some (.g g)
 |.func f=>some (.f f)
def EU:Operand->Option dt
 |.global _=>none
 |x=>dh x
def zI(l:Array Operand):Option (List dt):=l.toList.mapM dh
def wu:Option Operand->Option (Option dt)
 |none=>some none
 |some x=>(dh x).map some
def kC:TypeDesc->Bool
 |.struct _=>true
 |.array _ _=>true
 |_=>false
def BH(P:Program)(t:TypeId):Option (Option Nat):=
 match P.underlying t with
 |some d=>if kC d then(P.info? t).map λi=>some i.size else some none
 |none=>none
def eQ(P:Program)(t:TypeId):Option Nat:=(P.info? t).map (·.size)
def kg(P:Program)(t:TypeId):Option AV:=(P.info? t).bind λi=>i.zero.bind (mT 4)
def xE(P:Program)(F:TypeId->Option (List CK)):List Field->Nat->Option (List CK)
 |[],_=>some []
 |f::fs,off=>
  match F f.type,P.info? f.type with
  |some ks,some i=>
   if f.name≠ "_"/\f.offset=off/\i.size=ks.length/\0<ks.length then
    match xE P F fs (off+ks.length)with
    |some r=>some (ks++r)
    |none=>none
   else none
  |_,_=>none
def flat(P:Program):Nat->TypeId->Option (List CK)
 | 0,_=>none
 |d+1,t=>
  match P.underlying t with
  |some .bool=>some [.b]
  |some (.int _)=>some [.i]
  |some .string=>some [.s]
  |some (.struct fs)=>if P.stoodInHeld t=false then xE P (flat P d) fs.toList 0 else none
  |some (.array len e)=>
   match flat P d e,P.info? e with
   |some ks,some i=>if i.size=ks.length/\0<ks.length then some (List.replicate len ks).flatten else none
   |_,_=>none
  |_=>none
def Jb(P:Program)(neg:Bool)(t:TypeId)(x y:dt):Option pE:=
 match P.underlying t with
 |some (.int _)=>some (.bin (if neg then .neq else .eql) x y)
 |some .string=>some (.bin (if neg then .neq else .eql) x y)
 |some (.float _)=>some (.bin (if neg then .neq else .eql) x y)
 |some .bool=>some (.eqv neg (.one .b) x y)
 |some (.struct _)=>if P.eqGuardType P.depth t=false then(flat P 20 t).map λks=>.eqv neg (.agg ks) x y else none
 |some (.array _ _)=>if P.eqGuardType P.depth t=false then(flat P 20 t).map λks=>.eqv neg (.agg ks) x y else none
 |some (.slice _)=>some (.eqv neg .EY x y)
 |some (.pointer _)=>some (.eqv neg .yJ x y)
 |some (.func _ _ _)=>some (.eqv neg .qP x y)
 |some (.map _ _)=>some (.eqv neg .Mm x y)
 |_=>none
def Fg(P:Program)(e:TypeId):Bool:=
 match P.underlying e with
 |some (.int .u8)=>true
 |_=>false
def Dp(P:Program)(s d:TypeId):Option At:=
 match P.underlying s,P.underlying d with
 |some (.int _),some (.int k)=>some (.MQ k)
 |some (.int _),some (.float k)=>some (.PO k)
 |some (.float _),some (.int k)=>some (.P4 k)
 |some (.float _),some (.float k)=>some (.P5 k)
 |some .string,some .string=>some .same
 |some .string,some (.slice e)=>if Fg P e=true then some .OP else none
 |some (.slice e),some .string=>if Fg P e=true then some .N3 else none
 |_,_=>none
def fieldAt(P:Program)(t:TypeId)(i:Nat):Option Field:=
 match P.underlying t with
 |some (.struct fs)=>fs[i]?
 |_=>none
def kj(P:Program)(t:TypeId)(i:Nat):Option (Nat×Nat):=
 match P.underlying t with
 |some (.struct fs)=>
  match fs.toList.mapM (λf=>(P.info? f.type).map λi=>(f.offset,i.size))with
  |some places=>places[i]?
  |none=>none
 |some (.array _ e)=>(P.info? e).map λie=>(i*ie.size,ie.size)
 |_=>none
def oa(P:Program)(t:TypeId):Bool:=
 match P.underlying t with
 |some (.struct fs)=>(fs.toList.mapM (λf=>(P.info? f.type).map λi=>(f.offset,i.size))).isSome
 |some (.array _ e)=>(P.info? e).isSome
 |_=>false
def mM(P:Program)(t:TypeId):List (Nat×Operand)->Option (List (Nat×Nat×dt))
 |[]=>some []
 |(i,x)::r=>
  match kj P t i,dh x,mM P t r with
  |some (off,n),some y,some r=>some ((off,n,y)::r)
  |_,_,_=>none
def eT(P:Program)(t:TypeId):Option (TypeId×TypeInfo):=
 match P.underlying t with
 |some (.slice e)=>(P.info? e).map λi=>(e,i)
 |_=>none
def o6(P:Program)(b:Builtin)(ts:Array TypeId)(args:List dt):Option pE:=
 match b,args with
 |.len,[x]=>
  match (ts[0]?).bind P.underlying with
  |some (.slice _)=>some (.len .sl x)
  |some .string=>some (.len .st x)
  |some (.map _ _)=>some (.len .mp x)
  |some (.array n _)=>some (.AR n)
  |_=>none
 |.append,[x,y]=>
  match (ts[0]?).bind (eT P),(ts[1]?).bind P.underlying with
  |some (_,i),some (.slice _)=>if 0<i.size/\0<i.bytes/\i.bytes<=2^20 then(i.zero.bind (mT 4)).bind λz=>if z.cells.length=i.size then some (.app i.size i.bytes x y)else none else none
  |some (_,i),some .string=>if 0<i.size/\0<i.bytes/\i.bytes<=2^20 then(i.zero.bind (mT 4)).bind λz=>if z.cells.length=i.size then some (.app i.size i.bytes x y)else none else none
  |_,_=>none
 |.copy,[x,y]=>
  match (ts[0]?).bind (eT P)with
  |some (_,i)=>if 0<i.size then some (.Ae i.size x y)else none
  |_=>none
 |.max,x::l=>some (.mx x l)
 |.min,x::l=>some (.mn x l)
 |_,_=>none
def yK(P:Program)(t:TypeId):Option CK:=
 match P.underlying t with
 |some (.int _)=>some .i
 |some .string=>some .s
 |some .bool=>some .b
 |_=>none
def CO:Fn->Bool
 |.yield _=>false
 |_=>true
def fc(P:Program)(o:Oper):Option pE:=
 match o.op with
 |.move x=>(dh x).map .bY
 |.assign x=>(dh x).map .bY
 |.pick c a b=>
  match dh c,dh a,dh b with
  |some c,some a,some b=>some (.pick c a b)
  |_,_,_=>none
 |.alloc e=>
  match kg P e with
  |some z=>if z.cells.all AV.one then some (.box (.c z))else none
  |none=>none
 |.box _ x=>(dh x).map .box
 |.build t ps=>
  match kg P t,mM P t ps.toList with
  |some z,some l=>if oa P t=true then some (.build z.cells l)else none
  |_,_=>none
 |.buildSlice t n ps=>
  match eT P t with
  |some (e,i)=>
   match kg P e,ps.toList.mapM λp=>(dh p.2).map λy=>(p.1*i.size,y)with
   |some z,some l=>if 0<i.size/\z.cells.length=i.size/\z.cells.all AV.one/\n*i.size<=2^24 then some (.bh i.size n z.cells l)else none
   |_,_=>none
  |none=>none
 |.load t a=>
  match BH P t,dh a with
  |some n,some a=>some (.load n a)
  |_,_=>none
 |.store t a x=>
  match eQ P t,dh a,dh x with
  |some n,some a,some x=>some (.store n a x)
  |_,_,_=>none
 |.nilCheck x=>(dh x).map .bT
 |.binOp op t x y _=>
  match dh x,dh y with
  |some x,some y=>
   match op with
   |.eql=>Jb P false t x y
   |.neq=>Jb P true t x y
   |_=>some (.bin op x y)
  |_,_=>none
 |.unOp op _ x=>(dh x).map (.un op)
 |.convert s d x=>
  match Dp P s d,dh x with
  |some k,some x=>some (.conv k x)
  |_,_=>none
 |.makeInterface t x=>
  match P.underlying t,dh x with
  |some (.interface _),_=>none
  |some _,some x=>some (.conv (.vB t) x)
  |_,_=>none
 |.makeFunc fn a c=>
  if CO fn=true then
   match zI a,zI c with
   |some a,some c=>some (.uP fn a c)
   |_,_=>none
  else none
 |.makeMap _ none=>some .oD
 |.makeSlice t l c=>
  match eT P t,dh l,dh c with
  |some (e,i),some l,some c=>
   match kg P e with
   |some z=>if 0<i.size/\z.cells.length=i.size/\z.cells.all AV.one then some (.wI i.size i.bytes z.cells l c)else none
   |none=>none
  |_,_,_=>none
 |.slice t x lo hi none=>
  match dh x,wu lo,wu hi with
  |some x,some lo,some hi=>
   match P.underlying t with
   |some .string=>some (.HW x lo hi)
   |some (.slice e)=>(eQ P e).map λn=>.sl n x lo hi
   |some (.array k e)=>(eQ P e).map λn=>.NZ k n x lo hi
   |_=>none
  |_,_,_=>none
 |.fieldAddr t x i=>
  match fieldAt P t i,dh x with
  |some f,some x=>
   match eQ P f.type with
   |some n=>if 0<n then some (.bp f.offset x)else none
   |none=>none
  |_,_=>none
 |.indexAddr t x i=>
  match dh x,dh i with
  |some x,some i=>
   match P.underlying t with
   |some (.slice e)=>(eQ P e).map λn=>.bo n x i
   |some (.array k e)=>(eQ P e).map λn=>.te k n x i
   |_=>none
  |_,_=>none
 |.field t x i=>
  match fieldAt P t i,dh x with
  |some f,some x=>(BH P f.type).map λn=>.part n f.offset x
  |_,_=>none
 |.index t x i=>
  match dh x,dh i with
  |some x,some i=>
   match P.underlying t with
   |some .string=>some (.C5 x i)
   |some (.array k e)=>
    match eQ P e,BH P e with
    |some n,some q=>some (.J6 k n q x i)
    |_,_=>none
   |_=>none
  |_,_=>none
 |.lookup t m k ok=>
  match P.underlying t,dh m,dh k with
  |some (.map kt e),some m,some k=>
   match yK P kt,kg P e with
   |some kk,some z=>some (.look kk z ok m k)
   |_,_=>none
  |_,_,_=>none
 |.mapUpdate t m k x=>
  match P.underlying t,dh m,dh k,dh x with
  |some (.map kt _),some m,some k,some x=>(yK P kt).map λkk=>.gy kk m k x
  |_,_,_,_=>none
 |.insert t m k x=>
  match P.underlying t,dh m,dh k,dh x with
  |some (.map kt _),some m,some k,some x=>(yK P kt).map λkk=>.gy kk m k x
  |_,_,_,_=>none
 |.range t x=>
  match P.underlying t with
  |some .string=>(dh x).map .Cq
  |_=>none
 |.next x true=>(dh x).map .rL
 |.extract x i=>(dh x).map λx=>.ext x i
 |.call c=>
  match zI c.args with
  |some l=>
   match c.callee with
   |.value f=>(dh f).map λf=>.call f l
   |.invoke r name=>(dh r).map λr=>.call (.c (.func (.method name) [] [])) (r::l)
   |.builtin b=>o6 P b c.argTypes l
  |none=>none
 |_=>none
def uS(ops:Array Oper)(g:Option (Nat×Bool)):Option (Option (Nat×Bool)):=
 match g with
 |none=>some none
 |some (j,b)=>((ops[j]?).bind (·.dst)).map λd=>some (d,b)
def N2(P:Program):Operand->Bool
 |.global g=>decide (g<P.globals.size)
 |_=>true
def bV(P:Program)(ops:Array Oper)(q:Bool)(o:Oper):Option bN:=
 match uS ops o.guard with
 |some g=>some {dst:=o.dst,k:=if o.op.operands.toList.all (N2 P)then(fc P o).getD .bad else .bad,gd:=g,q:=q}
 |none=>none
def ahead(M:Array Nat)(i j:Nat):Bool:=(M.getD j 0).testBit i
def lz(M:Array Nat)(ops:Array Oper):Bool:=
 (List.range ops.size).all λj=>
  match ops[j]? with
  |none=>true
  |some o=>
   (o.after.toList.all λe=>!Region.binds .any e||decide (e.on<j)) &&
   ((List.range ops.size).all λi=>!ahead M i j||o.after.toList.any λe=>Region.binds .any e&&(e.on==i||ahead M i e.on))
def mC(M:Array Nat)(ops:Array Oper):Bool:=
 (List.range ops.size).all λj=>
  (List.range j).all λi=>
   match ops[i]?,ops[j]? with
   |some x,some y=>
    (match x.dst with
     |some d=>y.dst !=some d&&(!(y.looksAt ops).contains d||ahead M i j)
     |none=>true) &&
    (match y.dst with
     |some d=>!(x.looksAt ops).contains d||ahead M i j
     |none=>true)
   |_,_=>true
def iF(M:Array Nat)(n j:Nat):Bool:=
 (List.range n).all λi=>i==j||(if i<j then ahead M i j else ahead M j i)
def fA{α β:Type}(f:Nat->α->Option β):List α->Nat->Option (List β)
 |[],_=>some []
 |x::xs,i=>
  match f i x,fA f xs (i+1)with
  |some y,some ys=>some (y::ys)
  |_,_=>none
def yU:AV->Bool
 |.bool _=>true
 |.int _ _=>true
 |.yc _ _=>true
 |.xP _ _ _=>true
 |.str _=>true
 |.nilPtr=>true
 |.af=>true
 |.dF=>true
 |.nilFunc=>true
 |_=>false
def mz(o:bN):Option (Nat×Nat×dt):=
 match o.dst,o.k,o.gd,o.q with
 |none,.store n (.t t) x,none,true=>some (n,t,x)
 |_,_,_,_=>none
def uj(o:bN):Option (Nat×AV):=
 match o.dst,o.k,o.gd,o.q with
 |some t,.box (.c z),none,true=>some (t,z)
 |_,_,_,_=>none
def fZ(ops:Array Oper)(j t:Nat):Bool:=
 match ops[j]? with
 |some o=>(o.looksAt ops).contains t
 |none=>false
def pP(ops:Array Oper)(l:List bN)(k s:Nat):Bool:=
 match (l[k]?).bind uj,(l[s]?).bind mz with
 |some (t,z),some (n,t',x)=>
  t==t'&&z.cells.length==n&&z.cells.all yU&&(match x with|.t u=>u !=t&&fZ ops s u|_=>true)&&fZ ops s t&&(List.range ops.size).all λj=>j==s || !fZ ops j t
 |_,_=>false
def PM(ops:Array Oper)(l:List bN)(s:Nat):Option Nat:=(List.range s).find? λk=>pP ops l k s
def ON(ops:Array Oper)(l:List bN)(k:Nat):Option Nat:=(List.range l.length).find? λs=>decide (k<s)&&pP ops l k s
def ud(ops:Array Oper)(l:List bN)(j:Nat)(o:bN):bN:=
 match mz o with
 |some (n,t,x)=>
  match PM ops l j with
  |some _=>{dst:=some t,k:=.o8 n x,gd:=none,q:=true}
  |none=>o
 |none=>
  match uj o with
  |some _=>
   match ON ops l j with
   |some _=>{dst:=none,k:=.bY (.c (.bool false)),gd:=none,q:=true}
   |none=>o
  |none=>o
def qA(ops:Array Oper)(l:List bN):Nat->List bN->List bN
 |_,[]=>[]
 |j,o::r=>ud ops l j o::qA ops l (j+1) r
def cV(P:Program)(ops:Array Oper)(draw:Bool):Option (List bN):=
 if draw then
  let M:=Region.before ops
  if lz M ops&&mC M ops then
   (fA (λi o=>bV P ops (!iF M ops.size i) o) ops.toList 0).map λl=>qA ops l 0 l
  else none
 else fA (λ_ o=>bV P ops false o) ops.toList 0
def fW:pE->Bool
 |.bY _=>true
 |.pick _ _ _=>true
 |.bin _ _ _=>true
 |.eqv _ _ _ _=>true
 |.un _ _=>true
 |.conv (.MQ _) _=>true
 |.bp _ _=>true
 |.te _ _ _ _=>true
 |.bo _ _ _=>true
 |.part _ _ _=>true
 |.J6 _ _ _ _ _=>true
 |.C5 _ _=>true
 |.ext _ _=>true
 |.bT _=>true
 |.mx _ _=>true
 |.mn _ _=>true
 |.build _ _=>true
 |.HW _ _ _=>true
 |.sl _ _ _ _=>true
 |.AR _=>true
 |.uP _ _ _=>true
 |.len .sl _=>true
 |.len .st _=>true
 |_=>false
def cI:pE->Bool
 |.load _ _=>true
 |k=>fW k
def DN:pE->Bool
 |.box _=>true
 |.bh _ _ _ _=>true
 |.oD=>true
 |_=>false
def Fj:pE->Bool
 |.call _ _=>true
 |_=>false
def lE(o:bN):Bool:=DN o.k||(o.q&&Fj o.k)
def Fi(o:Oper):Bool:=
 match o.op with
 |.call c=>
  match c.callee with
  |.builtin _=>false
  |_=>true
 |_=>false
def Fh(o:Oper):Bool:=
 o.guard.isNone&&match o.op with
 |.load _ _=>true
 |_=>false
def td(c:Nat)(o:Oper):Bool:=(decide (1<=c)&&Fi o)||(decide (2<=c)&&Fh o)
def mZ(o:bN):Bool:=
 o.q&&match o.k with
 |.load _ _=>true
 |_=>false
def oE(M:Array Nat)(l:List bN):Bool:=
 (List.range l.length).all λj=>
  (List.range j).all λi=>
   match l[i]?,l[j]? with
   |some x,some y=>fW x.k||fW y.k||mZ x||mZ y||(cI x.k&&(cI y.k||lE y))||(lE x&&cI y.k)||ahead M i j
   |_,_=>true
def zE(o:bN):Bool:=
 o.q&&match o.k with
  |.store _ _ _=>true
  |_=>false
def MX(o:bN):Bool:=
 o.q&&match o.k with
  |.store _ _ _=>true
  |.app _ _ _ _=>true
  |.Ae _ _ _=>true
  |.gy _ _ _ _=>true
  |_=>false
def C0(o:bN):Bool:=fW o.k||match o.k with
 |.store _ _ _=>true
 |_=>false
def MN(o:bN):Bool:=match o.k with
 |.store _ _ _=>true
 |_=>false
def lh(l:List bN):Bool:=l.all C0&&decide ((l.filter MN).length<=2)
def dZ:List bN->Nat
 |[]=>0
 |o::r=>if lh (o::r)=true then 0 else dZ r+1
def nH(M:Array Nat)(l:List bN):Bool:=
 (List.range l.length).all λi=>
  match l[i]? with
  |some x=>!mZ x||(List.range l.length).all λj=>
    match l[j]? with
    |some y=>cI y.k||decide (j<dZ l)||ahead M i j
    |none=>true
  |none=>true
def rN(M:Array Nat)(l:List bN)(f:Nat):Bool:=
 (List.range l.length).all λj=>
  (List.range j).all λi=>
   match l[i]?,l[j]? with
   |some x,some y=>fW x.k||fW y.k||mZ x||mZ y||decide (j=f)||ahead M i j
   |_,_=>true
def xD(ops:Array Oper)(l:List bN)(f:Nat):Bool:=
 match l[f]? with
 |some {dst:=some d,k:=.bh _ _ z ps,gd:=none,q:=_}=>z.all yU&&ps.all (λp=>match p.2 with|.t u=>fZ ops f u|_=>false)&&(List.range l.length).all λj=>
   match l[j]? with
   |some o=>!cI o.k||((fW o.k||mZ o) && !fZ ops j d)
   |none=>true
 |_=>false
def Hg(M:Array Nat)(ops:Array Oper)(l:List bN):Option Nat:=(List.range l.length).find? λf=>xD ops l f&&rN M l f
def Nu(l:List bN):Bool:=l.any λo=>o.q&&match o.k with
 |.app _ _ (.t d) _=>l.any λp=>p.dst==some d&&match p.k with
  |.app _ _ _ _=>true
  |_=>false
 |_=>false
def nJ(P:Program)(ops:Array Oper)(draw:Bool):Option ai:=
 match cV P ops draw with
 |none=>none
 |some l=>
  if l.any MX=true/\draw=true then
   match fA (λ_ o=>bV P ops (td 0 o) o) ops.toList 0,fA (λ_ o=>bV P ops (td 1 o) o) ops.toList 0,fA (λ_ o=>bV P ops (td 2 o) o) ops.toList 0 with
   |some l',some l2,some l3=>if(oE (Region.before ops) l' && !l'.any mZ)=true then some (.ops l')else if(oE (Region.before ops) l2 && !l2.any mZ)=true then some (.ops l2)else if(l.any zE&&(Hg (Region.before ops) ops l3).isSome&&nH (Region.before ops) l3)=true then some (.mR l3)else if l.any zE=true then(if(decide (2<(l.filter MN).length)&&oE (Region.before ops) l3&&nH (Region.before ops) l3)=true then some (.mR l3)else some (.sX l'))else if(oE (Region.before ops) l3&&nH (Region.before ops) l3)=true then some (.mR l3)else if(Nu l&&(Hg (Region.before ops) ops l3).isSome&&nH (Region.before ops) l3)=true then some (.mR l3)else some (.ops l)
   |_,_,_=>none
  else some (.ops l)
def compile(P:Program):Code->Option ai
 |.skip=>some .skip
 |.region _ ops draw=>nJ P ops draw
 |.seq a b=>
  match compile P a,compile P b with
  |some x,some y=>some (.seq x y)
  |_,_=>none
 |.cond c a b=>
  match EU c,compile P a,compile P b with
  |some c,some x,some y=>some (.cond c x y)
  |_,_,_=>none
 |.block id a=>(compile P a).map (.block id)
 |.loop a=>(compile P a).map .loop
 |.exit id=>some (.exit id)
 |.ret=>some .ret
 |.label _=>some .skip
 |.scope a=>compile P a
 |.rangeFunc g ps asg body=>
  match EU g,compile P asg,compile P body with
  |some g,some x,some y=>some (.gx g ps.toList x y)
  |_,_,_=>none
 |.goto _=>some .bad
 |.refuse _=>some .bad
structure au where
 nt:Nat
 np:Nat
 rs:List (Nat×Option (Option Nat))
 body:ai
def uF(P:Program):ResultVar->Option (Nat×Option (Option Nat))
 |.tmp t=>some (t,none)
 |.cell a t=>(BH P t).map λn=>(a,some n)
def bU(P:Program)(f:FuncId):Option au:=
 match P.funcs[f]? with
 |none=>none
 |some fn=>
  match fn.body with
  |none=>none
  |some c=>
   match compile P c,fn.results.toList.mapM (uF P)with
   |some b,some rs=>if fn.name == "runtime.NumGoroutine" then none else some {nt:=fn.ntmps,np:=fn.params.size,rs:=rs,body:=b}
   |_,_=>none
def Fm(P:Program)(g:Nat):Nat:=
 match P.globals[g]? with
 |some G=>
  match P.info? G.type with
  |some i=>i.size
  |none=>0
 |none=>0
def BR(P:Program)(m:cw)(w:World)(e:tq):an->Prop
 |.cells c mu tl=>∃cc el fz,w.heap[e.cb]? =some (.cells cc el fz)/\(e.d+c.length<=cc.size/\e.d+c.length<=e.sz/\cc.size=e.sz)/\
   (∀(i:Nat) (x:AV),c[i]? =some x->x.one=true/\∃v,cc[e.d+i]? =some v/\VR m x v)/\
   (e.own=true->cc.size=e.sz/\∀i,i<cc.size->¬(fz.1<=i/\i<fz.2))/\((mu=true\/tl=true)->e.own=true/\(tl=false->e.sz=e.d+c.length))
 |.dead=>True
 |.bu es=>e.own=true/\∃UH clock,w.heap[e.cb]? =some (.map UH clock)/\UH.size=es.length/\
   ∀(i:Nat) (p:AV×AV),es[i]? =some p->∃q,UH[i]? =some q/\VR m p.1 q.key/\VR m p.2 q.val
 |.iter s pos=>e.own=true/\e.d=0/\w.heap[e.cb]? =some (.stringIter ⟨⟨s⟩⟩ pos)
 |.loop st ex ts ps asg body=>e.own=true/\∃fn tmps TD S0 df,w.heap[e.cb]? =some (.loop {state:=st,pending:=ex.jump,fn:=fn,tmps:=tmps,params:=⟨ps⟩,assign:=TD,body:=S0,defers:=df})/\
   cQ m ts tmps.toList/\compile P TD=some asg/\compile P S0=some body
def an.live:an->Bool
 |.dead=>false
 |_=>true
def ql(e1 e2:tq):an->an->Prop
 |.cells c1 mu1 tl1,.cells c2 mu2 tl2=>mu1=false/\mu2=false/\(tl1=true->tl2=false/\e2.d+c2.length<=e1.d+c1.length)
 |.dead,_=>True
 |_,.dead=>True
 |_,_=>False
structure HR(P:Program)(m:cw)(h:ah)(w:World):Prop where
 cT:∀b e,m b=some e->b<h.length
 eO:∀b e k,m b=some e->h[b]? =some k->BR P m w e k
 sep:∀b1 b2 e1 e2 k1 k2,b1≠b2->m b1=some e1->m b2=some e2->h[b1]? =some k1->h[b2]? =some k2->e1.cb=e2.cb->ql e1 e2 k1 k2
 gS:∀g,g<P.globals.size->∃e,m g=some e/\e.cb=g/\e.d=0/\e.own=false/\e.sz=Fm P g
 lt:∀b e,m b=some e->e.cb<w.heap.size
structure Grow(m:cw)(h:ah)(w:World)(m':cw)(h':ah)(w':World):Prop where
 ext:∀b,b<h.length->m' b=m b
 len:h.length<=h'.length
 new:∀b e,h.length<=b->m' b=some e->e.own=true/\(w.heap.size<=e.cb\/∃b0 e0,m b0=some e0/\e0.cb=e.cb/\e0.own=true/\fk h b0=true/\fk h' b0=false)
 tl:∀b,b<h.length->fk h' b=true->fk h b=true
 size:w.heap.size<=w'.heap.size
 os:w'.os=w.os
 out:w'.output=w.output
 tape:w'.tape=w.tape
 frame:∀i,i<w.heap.size->(∀b e,m b=some e->e.own=true->e.cb≠i)->w'.heap[i]? =w.heap[i]?
def Grow.refl(m:cw)(h:ah)(w:World)(hd:∀b e,m b=some e->b<h.length):Grow m h w m h w where
 ext:=λ_ _=>rfl
 len:=Z0 _
 new:=λb e hb he=>absurd (hd b e he) Om
 tl:=λ_ _ h=>h
 size:=Z0 _
 os:=rfl
 out:=rfl
 tape:=rfl
 frame:=λ_ _ _=>rfl
theorem Grow.le{m m' h h' w w'}(g:Grow m h w m' h' w')(hd:∀b e,m b=some e->b<h.length):m.le m':=
 λb e he=>by rw[g.ext b (hd b e he)];exact he
theorem Grow.trans{m m1 m2 h h1 h2 w w1 w2}(a:Grow m h w m1 h1 w1)(b:Grow m1 h1 w1 m2 h2 w2)
  (hd:∀b e,m b=some e->b<h.length):Grow m h w m2 h2 w2 where
 ext:=λi hi=>(b.ext i (aaG hi a.len)).trans (a.ext i hi)
 len:=aaz a.len b.len
 new:=by
  intro i e hi he;by_cases h1i:h1.length<=i
  ·obtain⟨ho,hc⟩:=b.new i e h1i he;refine⟨ho,?_⟩;rcases hc with hc|⟨b0,e0,TR,hcb,ho0,UL,XH⟩
   ·exact .inl (aaz a.size hc)
   ·by_cases hb:h.length<=b0
    ·obtain⟨_,hc0⟩:=a.new b0 e0 hb TR;rcases hc0 with hc0|⟨b00,e00,hb00,ZC,ho00,ht00,Ye⟩
     ·exact .inl (hcb▸hc0)
     ·refine .inr ⟨b00,e00,hb00,ZC.trans hcb,ho00,ht00,?_⟩;cases hx:fk h2 b00 with
      |false=>rfl
      |true=>
       have hlt:=hd _ _ hb00;rw[b.tl b00 (aaG hlt a.len) hx]at Ye;cases Ye
    ·have hlt:b0<h.length:=Om
     rw[a.ext b0 hlt]at TR;exact .inr ⟨b0,e0,TR,hcb,ho0,a.tl b0 hlt UL,XH⟩
  ·have hi1:i<h1.length:=Om
   rw[b.ext i hi1]at he;obtain⟨ho,hc⟩:=a.new i e hi he;refine⟨ho,?_⟩;rcases hc with hc|⟨b0,e0,TR,hcb,ho0,UL,XH⟩
   ·exact .inl hc
   ·refine .inr ⟨b0,e0,TR,hcb,ho0,UL,?_⟩;cases hx:fk h2 b0 with
    |false=>rfl
    |true=>
     have hlt:=hd _ _ TR;rw[b.tl b0 (aaG hlt a.len) hx]at XH;cases XH
 tl:=λi hi ht=>a.tl i hi (b.tl i (aaG hi a.len) ht)
 size:=aaz a.size b.size
 os:=b.os.trans a.os
 out:=b.out.trans a.out
 tape:=b.tape.trans a.tape
 frame:=by
  intro i hi hno;refine(b.frame i (aaG hi a.size) ?_).trans (a.frame i hi hno);intro j e he ho hcb;by_cases hj:h.length<=j
  ·obtain⟨_,hc⟩:=a.new j e hj he;rcases hc with hc|⟨b0,e0,TR,ZC,ho0,_,_⟩
   ·omega
   ·exact hno b0 e0 TR ho0 (ZC.trans hcb)
  ·rw[a.ext j Om]at he;exact hno j e he ho hcb
theorem BR.heap{P m w w' e k}(h:BR P m w e k)(hw:w'.heap[e.cb]? =w.heap[e.cb]?):BR P m w' e k:=by
 cases k<;>simp only[BR,hw]at h ⊢<;>exact h
theorem BR.mono{P m m' w e k}(hm:m.le m')(h:BR P m w e k):BR P m' w e k:=by
 cases k with
 |cells c mu tl=>
  obtain⟨cc,el,fz,h1,h2,h3,h4⟩:=h;exact⟨cc,el,fz,h1,h2,λi x hx=>by obtain⟨ho,v,hv,hr⟩:=h3 i x hx;exact⟨ho,v,hv,VR.mono hm _ _ hr⟩,h4⟩
 |dead=>trivial
 |bu es=>
  obtain⟨ho,UH,clock,h1,h2,h3⟩:=h;exact⟨ho,UH,clock,h1,h2,λi p hp=>by obtain⟨q,hq,ha,hb⟩:=h3 i p hp;exact⟨q,hq,VR.mono hm _ _ ha,VR.mono hm _ _ hb⟩⟩
 |iter s pos=>exact h
 |loop st ex ts ps asg body=>
  obtain⟨ho,fn,tmps,TD,S0,df,h1,h2,h3,h4⟩:=h;exact⟨ho,fn,tmps,TD,S0,df,h1,cQ.mono hm _ _ h2,h3,h4⟩
theorem HR.drew{P m h w}(hr:HR P m h w):HR P m h w.drew where
 cT:=hr.cT
 eO:=λb e k hb hk=>(hr.eO b e k hb hk).heap rfl
 sep:=hr.sep
 gS:=hr.gS
 lt:=hr.lt
theorem Grow.drew{m h w m' h' w'}(g:Grow m h w m' h' w'):Grow m h w m' h' w'.drew:=
 ⟨g.ext,g.len,g.new,g.tl,g.size,g.os,g.out,g.tape,g.frame⟩
def Grow.Dj{m h w m' h' w'}(g:Grow m h w.drew m' h' w'):Grow m h w m' h' w':=
 ⟨g.ext,g.len,g.new,g.tl,g.size,g.os,g.out,g.tape,g.frame⟩
def BR.lt{P m w e k}(h:BR P m w e k)(hl:k.live=true):e.cb<w.heap.size:=by
 cases k with
 |cells c mu tl=>obtain⟨cc,el,fz,h1,_⟩:=h;exact(aaa.1 h1).1
 |dead=>cases hl
 |bu es=>obtain⟨_,UH,clock,h1,_⟩:=h;exact(aaa.1 h1).1
 |iter s pos=>exact(aaa.1 h.2.2).1
 |loop st ex ts ps asg body=>obtain⟨_,fn,tmps,TD,S0,df,h1,_⟩:=h;exact(aaa.1 h1).1
def cw.add(m:cw)(b:Nat)(e:tq):cw:=λx=>if x=b then some e else m x
def cw.sH{m:cw}{b:Nat}(e:tq)(h:m b=none):m.le (m.add b e):=by
 intro x y hx;unfold cw.add;by_cases hb:x=b
 ·subst hb;rw[h]at hx;cases hx
 ·rw[ZW hb];exact hx
def gg{h k b}(hb:b<h.length):fk (h++[k]) b=fk h b:=by
 unfold fk;rw[ZQ hb]
def kZ{P:Program}{m:cw}{h:ah}{w:World}(hr:HR P m h w)(o:Obj)(k:an)(e:tq)(he:e.cb=w.heap.size)(ho:e.own=true)
  (hk:∀m':cw,m.le m'->BR P m' (w.alloc o) e k):
  HR P (m.add h.length e) (h++[k]) (w.alloc o)/\Grow m h w (m.add h.length e) (h++[k]) (w.alloc o):=by
 have TI:m h.length=none:=by
  exact NT
 have hle:=cw.sH e TI;have hold:∀b x,m b=some x->(m.add h.length e) b=some x:=hle;have hheap:∀i,i<w.heap.size->(w.alloc o).heap[i]? =w.heap[i]? :=λi hi=>Go.RowKit.Below.heap_alloc w o i hi
 have WD:∀b x k',m b=some x->h[b]? =some k'->k'.live=true->x.cb<w.heap.size:=λb x k' hb hk' hl=>(hr.eO b x k' hb hk').lt hl
 refine⟨⟨?_,?_,?_,?_,?_⟩,⟨?_,Si,?_,?_,Si,rfl,rfl,rfl,λi hi _=>hheap i hi⟩⟩
 ·intro b x hb;unfold cw.add at hb;by_cases hbl:b=h.length
  ·subst hbl;simp
  ·rw[ZW hbl]at hb;have:=hr.cT _ _ hb;simp;omega
 ·intro b x k' hb hk';unfold cw.add at hb;by_cases hbl:b=h.length
  ·subst hbl;rw[ZY rfl]at hb;cases hb;simp at hk';subst hk';exact hk _ hle
  ·rw[ZW hbl]at hb;have hlt:=hr.cT _ _ hb;rw[ZQ hlt]at hk';have h0:=hr.eO b x k' hb hk';by_cases hl:k'.live=true
   ·exact(h0.mono hle).heap (hheap _ (h0.lt hl))
   ·cases k'<;>first|trivial|exact absurd rfl hl
 ·intro b1 b2 e1 e2 k1 k2 hne h1 h2 hk1 Sy hcb;unfold cw.add at h1 h2;by_cases Ta:b1=h.length
  ·subst Ta;rw[ZY rfl]at h1;cases h1;have To:b2≠h.length:=λx=>hne x.symm
   rw[ZW To]at h2;have hlt:=hr.cT _ _ h2;rw[ZQ hlt]at Sy;by_cases hl:k2.live=true
   ·have:=WD _ _ _ h2 Sy hl;omega
   ·cases k2<;>first|(cases k1<;>trivial)|exact absurd rfl hl
  ·rw[ZW Ta]at h1;have hlt1:=hr.cT _ _ h1;rw[ZQ hlt1]at hk1;by_cases To:b2=h.length
   ·subst To;rw[ZY rfl]at h2;cases h2;by_cases hl:k1.live=true
    ·have:=WD _ _ _ h1 hk1 hl;omega
    ·cases k1<;>first|trivial|exact absurd rfl hl
   ·rw[ZW To]at h2;have TK:=hr.cT _ _ h2;rw[ZQ TK]at Sy;exact hr.sep b1 b2 e1 e2 k1 k2 hne h1 h2 hk1 Sy hcb
 ·intro g hg;obtain⟨x,hx,h1⟩:=hr.gS g hg;exact⟨x,hold _ _ hx,h1⟩
 ·intro b x hb;unfold cw.add at hb;simp only[World.size_alloc];by_cases hbl:b=h.length
  ·rw[ZY hbl]at hb;cases hb;omega
  ·rw[ZW hbl]at hb;have:=hr.lt _ _ hb;omega
 ·intro b hb;unfold cw.add;rw[ZW Om]
 ·intro b x hb hx;unfold cw.add at hx;by_cases hbl:b=h.length
  ·rw[ZY hbl]at hx;cases hx;exact⟨ho,.inl Om⟩
  ·rw[ZW hbl]at hx;exact absurd (hr.cT _ _ hx) Om
 ·intro b hb ht
  rwa [gg hb]at ht
def vA{P:Program}{m:cw}{w:World}{c:List AV}{vs:List Value}(hc:cQ m c vs)(h1:c.all AV.one=true)(el:TypeId)(mu tl:Bool)(m':cw)(hm:m.le m'):
  BR P m' (w.alloc (.cells ⟨vs⟩ el)) ⟨w.heap.size,0,vs.length,true⟩ (.cells c mu tl):=by
 refine⟨⟨vs⟩,el,(0,0),World.alloc_heap_new w _,⟨by simp[hc.length],by simp[hc.length]⟩,?_,?_,λ_=>⟨rfl,λ_=>by simp[hc.length]⟩⟩
 ·intro i x hx;obtain⟨v,hv,hr⟩:=hc.get hx;exact⟨aas.1 h1 x (aaK hx),v,by simpa using hv,VR.mono hm _ _ hr⟩
 ·intro _;exact⟨Si,λi _=>by simp⟩
def mv{P m h w}(hr:HR P m h w){c vs}(hc:cQ m c vs)(h1:c.all AV.one=true)(el:TypeId)(mu tl:Bool):
  ∃m',m' h.length=some ⟨w.heap.size,0,vs.length,true⟩/\HR P m' (h++[.cells c mu tl]) (w.alloc (.cells ⟨vs⟩ el))/\Grow m h w m' (h++[.cells c mu tl]) (w.alloc (.cells ⟨vs⟩ el)):=
 ⟨_,by simp[cw.add],kZ hr (.cells ⟨vs⟩ el) (.cells c mu tl) ⟨w.heap.size,0,vs.length,true⟩ rfl rfl (λm' hm=>vA hc h1 el mu tl m' hm)⟩
def iG(b o n:Nat):(⟨b,o,none⟩:Addr).add n=⟨b,o+n,none⟩:=by
 unfold Addr.add;by_cases h:n=0
 ·simp[h]
 ·simp[h]
def cell_of{P m h w}(hr:HR P m h w){b e c mu tl}(he:m b=some e)(hb:h[b]? =some (.cells c mu tl))
  {i}{x}(hx:c[i]? =some x):x.one=true/\∃v,w.cell? ⟨e.cb,i+e.d,none⟩=some v/\VR m x v:=by
 obtain⟨cc,el,fz,h1,_,h3,_⟩:=hr.eO b e _ he hb;obtain⟨ho,v,hv,Sz⟩:=h3 i x hx;exact⟨ho,v,by simp only[World.cell?,h1];rw[Nat.add_comm];simpa using hv,Sz⟩
def nF{P m h w}(hr:HR P m h w){b e c mu tl}(he:m b=some e)(hb:h[b]? =some (.cells c mu tl))
  (o n:Nat) (hn:o+n<=c.length):∃vs,(loadCells ⟨e.cb,o+e.d,none⟩ n).run P w=.ok ⟨vs⟩ w/\cQ m ((c.drop o).take n) vs/\((c.drop o).take n).all AV.one=true:=by
 have SG:∀j,j<n->∃x,c[o+j]? =some x:=λj hj=>⟨c[o+j],ZS Om⟩
 have Tu:∀j,j<n->∃v,w.cell? ⟨e.cb,o+e.d+j,none⟩=some v/\∃x,c[o+j]? =some x/\VR m x v:=by
  intro j hj;obtain⟨x,hx⟩:=SG j hj;obtain⟨_,v,hv,Sz⟩:=cell_of hr he hb hx;exact⟨v,by rw[show o+e.d+j=o+j+e.d from by omega];exact hv,x,hx,Sz⟩
 obtain⟨f,hf⟩:∃f:Nat->Value,∀j,j<n->w.cell? ⟨e.cb,o+e.d+j,none⟩=some (f j):=
  ⟨λj=>(w.cell? ⟨e.cb,o+e.d+j,none⟩).getD default,λj hj=>by obtain⟨v,hv,_⟩:=Tu j hj;simp[hv]⟩
 have SU:cQ m ((c.drop o).take n) ((List.range n).map f):=by
  refine cQ.iV (by simp;omega) λi x hx=>?_
  have hi:i<n:=by
   have:=(ZM.1 hx).1;simp at this;omega
  rw[abR hi,ab2]at hx;obtain⟨v,hv,y,hy,Sz⟩:=Tu i hi;rw[hx]at hy;cases hy;refine⟨f i,by simp[hi],?_⟩;have:=hf i hi;rw[hv]at this;cases this;exact Sz
 refine⟨(List.range n).map f,?_,SU,?_⟩
 ·have:=run_loadCells_list (P:=P) (w:=w) ⟨e.cb,o+e.d,none⟩ ((List.range n).map f) (λj v hj=>by
   have hi:j<n:=by
    have:=(ZM.1 hj).1
    simpa using this
   rw[iG];simp[hi]at hj;rw[<-hj];exact hf j hi)
  simpa using this
 ·rw[aas];intro x hx;have SA:x∈c:=List.mem_of_mem_drop (aaP hx);obtain⟨i,hi,rfl⟩:=abV SA;exact(cell_of hr he hb (ZS hi)).1
def gu(c:List AV)(o:Nat):List AV->List AV
 |[]=>c
 |x::xs=>gu (c.set o x) (o+1) xs
def bJ(h:ah)(b b':Nat)(k:an)(hb:b<h.length):(h.set b k)[b']? =if b' =b then some k else h[b']? :=by
 rw[List.getElem?_set];by_cases e:b=b'
 ·subst e;simp[hb]
 ·have e':¬b' =b:=λx=>e x.symm
  rw[ZW e,ZW e']
def oS{w:World}{cb i:Nat}{cc:Array Value}{el:TypeId}{fz:Nat×Nat}(h1:w.heap[cb]? =some (.cells cc el fz))(h:¬(fz.1<=i/\i<fz.2)):w.frozen? ⟨cb,i,none⟩=false:=by
 obtain⟨lo,hi⟩:=fz;simp only[World.frozen?,h1];simp only[Bool.and_eq_false_iff,abv];simp only at h;omega
def heap_setCell_same{w:World}{cb i:Nat}{cc:Array Value}{el:TypeId}{fz:Nat×Nat}(h1:w.heap[cb]? =some (.cells cc el fz))(v:Value):
  (w.setCell ⟨cb,i,none⟩ v).heap[cb]? =some (.cells (cc.setIfInBounds i v) el fz):=by
 obtain⟨hlt,hk⟩:=aaa.1 h1;simp only[World.setCell];rw[aaF (by rw[Array.size_modify];exact hlt),Array.getElem_modify_self,hk];simp
def Az{P:Program}{m:cw}{h:ah}{w:World}(hr:HR P m h w){b:Nat}{e:tq}{c:List AV}{tl:Bool}(he:m b=some e)(hb:h[b]? =some (.cells c true tl))
  {i:Nat}(hi:i<c.length) {x:AV}{v:Value}(hx:x.one=true) (hv:VR m x v):
  (store ⟨e.cb,i+e.d,none⟩ v).run P w=.ok () (w.setCell ⟨e.cb,i+e.d,none⟩ v)/\
  HR P m (h.set b (.cells (c.set i x) true tl)) (w.setCell ⟨e.cb,i+e.d,none⟩ v)/\Grow m h w m (h.set b (.cells (c.set i x) true tl)) (w.setCell ⟨e.cb,i+e.d,none⟩ v):=by
 obtain⟨cc,el,fz,h1,⟨h2,h2'⟩,h3,h4,h5⟩:=hr.eO b e _ he hb;have hown:e.own=true:=(h5 (.inl rfl)).1;obtain⟨fj,hfz⟩:=h4 hown;have hbl:b<h.length:=hr.cT _ _ he;have Tu:∃u,w.cell? ⟨e.cb,i+e.d,none⟩=some u:=⟨cc[i+e.d]'Om,by simp only[World.cell?,h1];exact aaF Om⟩;obtain⟨u,hu⟩:=Tu;have hfr:w.frozen? ⟨e.cb,i+e.d,none⟩=false:=oS h1 (hfz _ Om);have hother:∀k,k≠e.cb->(w.setCell ⟨e.cb,i+e.d,none⟩ v).heap[k]? =w.heap[k]? :=λk hk=>Go.RowKit.Below.heap_setCell w _ v k hk
 have Wo:=heap_setCell_same (i:=i+e.d) h1 v;refine⟨?_,⟨?_,?_,?_,hr.gS,λb' e' hb'=>by simpa using hr.lt b' e' hb'⟩,⟨λ_ _=>rfl,Si,?_,?_,Si,rfl,rfl,rfl,?_⟩⟩
 ·rw[run_store P w _ v .plain (hv.uI hx),hu];simp[hfr]
 ·intro b' e' hb';simpa using hr.cT b' e' hb'
 ·intro b' e' k TG hk;rw[bJ h b b' _ hbl]at hk;by_cases hbb:b' =b
  ·subst hbb;rw[ZY rfl]at hk;cases hk;rw[he]at TG;cases TG;refine⟨_,el,fz,Wo,⟨by simpa using h2,by simpa using h2'⟩,?_,λho=>⟨by simpa using fj,λj hj=>hfz j (by simpa using hj)⟩,λz=>⟨hown,λy=>by rw[aax];exact(h5 (.inl rfl)).2 y⟩⟩;intro j y hy;rw[List.getElem?_set]at hy;by_cases hij:i=j
   ·subst hij;rw[ZY rfl,ZY hi]at hy;cases hy;refine⟨hx,v,?_,hv⟩;rw[show e.d+i=i+e.d from by omega];rw[aa4 Om]
   ·rw[ZW hij]at hy;obtain⟨ho,u',Wl,hr'⟩:=h3 j y hy;refine⟨ho,u',?_,hr'⟩;rw[aby Om];exact Wl
  ·rw[ZW hbb]at hk;have h0:=hr.eO b' e' k TG hk;by_cases hl:k.live=true
   ·refine h0.heap (hother _ ?_);intro hcb;have:=hr.sep b b' e e' _ k (λx=>hbb x.symm) he TG hb hk hcb.symm;cases k<;>first|(cases hl;done)|exact absurd this.1 Si|exact this
   ·cases k<;>first|trivial|exact absurd rfl hl
 ·intro b1 b2 e1 e2 k1 k2 hne T0 SJ hk1 Sy hcb;rw[bJ h b _ _ hbl]at hk1 Sy;by_cases Ta:b1=b
  ·subst Ta;rw[ZY rfl]at hk1;cases hk1;rw[ZW (λx=>hne x.symm)]at Sy;have:=hr.sep b1 b2 e1 e2 _ k2 hne T0 SJ hb Sy hcb;cases k2<;>first|trivial|exact absurd this.1 Si|exact this.elim
  ·rw[ZW Ta]at hk1;by_cases To:b2=b
   ·subst To;rw[ZY rfl]at Sy;cases Sy;have:=hr.sep b1 b2 e1 e2 k1 _ hne T0 SJ hk1 hb hcb;cases k1<;>first|trivial|exact absurd this.2.1 Si|exact this.elim
   ·exact NS
 ·intro b' e' hb' TG;exact absurd (hr.cT _ _ TG) Om
 ·intro b' hb' ht;unfold fk at ht ⊢;rw[bJ h b b' _ hbl]at ht;by_cases hbb:b' =b
  ·subst hbb;rw[ZY rfl]at ht;rw[hb];exact ht
  ·exact Eb
 ·intro k hk hno;exact hother k (λhcb=>hno b e he hown hcb.symm)
theorem pL{P m}:∀(xs:List AV) (vs:List Value) {h}{w}(_:HR P m h w) {b}{e}{c}{tl}(_:m b=some e) (_:h[b]? =some (.cells c true tl))
  (a j:Nat) (_:a+j+xs.length<=c.length) (_:xs.all AV.one=true) (_:cQ m xs vs),
  ∃w',(storeCells ⟨e.cb,a+e.d,none⟩ vs j).run P w=.ok () w'/\HR P m (h.set b (.cells (gu c (a+j) xs) true tl)) w'/\Grow m h w m (h.set b (.cells (gu c (a+j) xs) true tl)) w'
 |[],vs,h,w,hr,b,e,c,tl,he,hb,a,j,hlen,h1,hv=>by
  rw[bE]at hv;subst hv;have hbl:b<h.length:=hr.cT _ _ he;have aR:h.set b (.cells (gu c (a+j) []) true tl)=h:=by
   simp only[gu]
   apply ab7
   intro i;rw[bJ h b i _ hbl];by_cases hi:i=b
   ·subst hi;simp[hb]
   ·simp[hi]
  exact⟨w,rfl,by rw[aR];exact hr,by rw[aR];exact Grow.refl m h w hr.cT⟩
 |x::xs,vs,h,w,hr,b,e,c,tl,he,hb,a,j,hlen,h1,hv=>by
  obtain⟨v,vs',rfl,hxv,SU⟩:=aT.1 hv;simp only[abp,aaq]at h1;simp only[ZP]at hlen;obtain⟨SB,hr1,hg1⟩:=Az hr he hb (i:=a+j) Om h1.1 hxv;have hbl:b<h.length:=hr.cT _ _ he;have Ta:(h.set b (.cells (c.set (a+j) x) true tl))[b]? =some (.cells (c.set (a+j) x) true tl):=by rw[bJ h b b _ hbl,ZY rfl]
  obtain⟨w',hrun',hr',SX⟩:=pL xs vs' hr1 he Ta a (j+1) (by simp;omega) h1.2 SU;have aR:(h.set b (.cells (c.set (a+j) x) true tl)).set b (.cells (gu (c.set (a+j) x) (a+(j+1)) xs) true tl)=h.set b (.cells (gu c (a+j) (x::xs)) true tl):=by
   rw[List.set_set];rfl
  rw[aR]at hr' SX;refine⟨w',?_,hr',Grow.trans hg1 SX hr.cT⟩;simp only[storeCells,aae];rw[iG,show a+e.d+j=a+j+e.d from by omega,SB];exact hrun'
def gB(op:BinOp)(k:IntKind)(a b:Int):Option AV:=
 match op with
 |.add=>some (.int k (k.wrap (a+b)))
 |.sub=>some (.int k (k.wrap (a-b)))
 |.mul=>some (.int k (k.wrap (a*b)))
 |.quo=>if b=0 then none else some (.int k (k.wrap (a.tdiv b)))
 |.rem=>if b=0 then none else some (.int k (a.tmod b))
 |.and=>some (.int k (k.wrap (BitVec.ofInt k.bits a &&& BitVec.ofInt k.bits b).toNat))
 |.or=>some (.int k (k.wrap (BitVec.ofInt k.bits a |||BitVec.ofInt k.bits b).toNat))
 |.xor=>some (.int k (k.wrap (BitVec.ofInt k.bits a^^^BitVec.ofInt k.bits b).toNat))
 |.andNot=>some (.int k (k.wrap (BitVec.ofInt k.bits a &&& ~~~ (BitVec.ofInt k.bits b)).toNat))
 |.eql=>some (.bool (a==b))
 |.neq=>some (.bool (a !=b))
 |.lss=>some (.bool (decide (a<b)))
 |.leq=>some (.bool (decide (a<=b)))
 |.gtr=>some (.bool (decide (a > b)))
 |.geq=>some (.bool (decide (a>=b)))
 |_=>none
def rv(op:BinOp)(x y:By):Option AV:=
 match op with
 |.add=>if x.length+y.length<2^62 then some (.str (x++y))else none
 |.eql=>some (.bool (x==y))
 |.neq=>some (.bool !(x==y))
 |.lss=>some (.bool (Op.bytesLess x y))
 |.leq=>some (.bool (Op.bytesLess x y||x==y))
 |.gtr=>some (.bool !(Op.bytesLess x y||x==y))
 |.geq=>some (.bool !(Op.bytesLess x y))
 |_=>none
def yk(op:BinOp)(k:IntKind)(a b:Int):Option AV:=
 if b<0 then none
 else match op with
  |.shl=>some (.int k (k.wrap (a*2^(min b.toNat k.bits))))
  |.shr=>some (.int k (a.fdiv (2^(min b.toNat k.bits))))
  |_=>none
def fC:BinOp->Bool
 |.shl=>true
 |.shr=>true
 |_=>false
def fe(op:BinOp):AV->AV->Option AV
 |.int k a,.int k' b=>if fC op then yk op k a b else if k=k' then gB op k a b else none
 |.str a,.str b=>rv op a b
 |_,_=>none
def yf(op:UnOp):AV->Option AV
 |.int k n=>
  match op with
  |.neg=>some (.int k (k.wrap (0-n)))
  |.xor=>gB .xor k (if k.signed then -1 else k.max) n
  |_=>none
 |.bool b=>
  match op with
  |.not=>some (.bool !b)
  |_=>none
 |_=>none
def dJ:CK->AV->AV->Option Bool
 |.b,.bool a,.bool b=>some (a==b)
 |.i,.int k a,.int k' b=>if k=k' then some (a==b)else none
 |.s,.str a,.str b=>some (a==b)
 |_,_,_=>none
def dV:List CK->List AV->List AV->Option Bool
 |[],[],[]=>some true
 |k::ks,x::xs,y::ys=>
  match dJ k x y with
  |some true=>dV ks xs ys
  |some false=>some false
  |none=>none
 |_,_,_=>none
def zZ(ks:List CK):AV->AV->Option Bool
 |.agg xs,.agg ys=>if xs.length=ks.length/\ys.length=ks.length then dV ks xs ys else none
 |_,_=>none
def P6:AV->AV->Option Bool
 |.af,.af=>some true
 |.af,.slice _ _ _ _=>some false
 |.slice _ _ _ _,.af=>some false
 |_,_=>none
def P7:AV->AV->Option Bool
 |.nilPtr,.nilPtr=>some true
 |.nilPtr,.ptr _ _=>some false
 |.ptr _ _,.nilPtr=>some false
 |_,_=>none
def P9:AV->AV->Option Bool
 |.nilFunc,.nilFunc=>some true
 |.nilFunc,.func _ _ _=>some false
 |.func _ _ _,.nilFunc=>some false
 |_,_=>none
def P8:AV->AV->Option Bool
 |.dF,.dF=>some true
 |.dF,.map _=>some false
 |.map _,.dF=>some false
 |_,_=>none
def mS(t:Ke)(x y:AV):Option Bool:=
 match t with
 |.one k=>dJ k x y
 |.agg ks=>zZ ks x y
 |.EY=>P6 x y
 |.yJ=>P7 x y
 |.qP=>P9 x y
 |.Mm=>P8 x y
def byteOf:AV->Option UInt8
 |.int .u8 n=>some (UInt8.ofNat n.toNat)
 |_=>none
def cellsIn(es:Nat)(h:ah):AV->Option (List AV×Nat)
 |.af=>some ([],0)
 |.slice b o n es'=>
  if es' =es then
   match h[b]? with
   |some (.cells c _ _)=>if o+n*es<=c.length then some ((c.drop o).take (n*es),n)else none
   |_=>none
  else none
 |.str s=>if es=1 then some (s.map λb=>.int .u8 b.toNat,s.length)else none
 |_=>none
def kX(k:At)(x:AV)(h:ah):Option (AV×ah):=
 match k with
 |.MQ k=>
  match x with
  |.int _ n=>some (.int k (k.wrap n),h)
  |_=>none
 |.same=>
  match x with
  |.str s=>some (.str s,h)
  |_=>none
 |.PO k=>
  match x with
  |.int _ n=>some (.yc k (k.nearest n),h)
  |_=>none
 |.P4 k=>
  match x with
  |.yc s b=>
   match (s.decode b).toInt .zero with
   |some n=>if E0 s b=false/\k.min<=n/\n<=k.max then some (.int k n,h)else none
   |none=>none
  |_=>none
 |.P5 k=>
  match x with
  |.yc s b=>if s=k then some (.yc k b,h)else none
  |_=>none
 |.vB u=>some (.vB u x,h)
 |.N3=>
  match x with
  |.af=>some (.str [],h)
  |.slice b o n es=>
   match cellsIn 1 h (.slice b o n es)with
   |some (l,_)=>
    match l.mapM byteOf with
    |some r=>some (.str r,h)
    |none=>none
   |none=>none
  |_=>none
 |.OP=>
  match x with
  |.str s=>some (.slice h.length 0 s.length 1,h++[.cells (s.map λb=>.int .u8 b.toNat) true true])
  |_=>none
def eC(n:Nat)(z:List AV):List AV:=(List.replicate n z).flatten
def fy(c:List AV):List (Nat×Nat×AV)->Option (List AV)
 |[]=>some c
 |(off,n,v)::r=>if v.cells.length=n/\off+n<=c.length then fy (gu c off v.cells) r else none
def G8:Option AV->Option Int
 |none=>some 0
 |some (.int _ i)=>some i
 |_=>none
def Fk(n:Nat):Option AV->Option Int
 |none=>some n
 |some (.int _ i)=>some i
 |_=>none
def ja(lo hi:Option AV)(n:Nat):Option (Nat×Nat):=
 match G8 lo,Fk n hi with
 |some l,some h=>if 0<=l/\l<=h/\h<=n then some (l.toNat,h.toNat)else none
 |_,_=>none
def jW(kk:CK)(k:AV):List (AV×AV)->Option (Option AV)
 |[]=>some none
 |(a,v)::r=>
  match dJ kk k a with
  |some true=>some (some v)
  |some false=>jW kk k r
  |none=>none
def pK(kk:CK)(k v:AV):List (AV×AV)->Option (List (AV×AV))
 |[]=>some [(k,v)]
 |(a,u)::r=>
  match dJ kk k a with
  |some true=>some ((k,v)::r)
  |some false=>(pK kk k v r).map ((a,u)::·)
  |none=>none
def qv:AV->AV->Option AV
 |.int k a,.int k' b=>if k=k' then some (.int k (if b > a then b else a))else none
 |_,_=>none
def qu:AV->AV->Option AV
 |.int k a,.int k' b=>if k=k' then some (.int k (if b<a then b else a))else none
 |_,_=>none
def jm(f:AV->AV->Option AV):AV->List AV->Option AV
 |x,[]=>some x
 |x,y::r=>
  match f x y with
  |some z=>jm f z r
  |none=>none
def AS(lk:LK)(h:ah):AV->Option Nat
 |.str s=>if lk=.st then some s.length else none
 |.slice _ _ n _=>if lk=.sl then some n else none
 |.af=>if lk=.sl then some 0 else none
 |.map r=>
  match h[r]? with
  |some (.bu es)=>if lk=.mp then some es.length else none
  |_=>none
 |.dF=>if lk=.mp then some 0 else none
 |_=>none
def dP(k:pE)(ρ:dt->AV)(h:ah):Option (AV×ah):=
 match k with
 |.bY x=>some (ρ x,h)
 |.pick c a b=>
  match ρ c with
  |.bool t=>some (if t then ρ a else ρ b,h)
  |_=>none
 |.box x=>if(ρ x).cells.all AV.one then some (.ptr h.length 0,h++[.cells (ρ x).cells true false])else none
 |.o8 n x=>if(ρ x).cells.all AV.one=true/\(ρ x).cells.length=n then some (.ptr h.length 0,h++[.cells (ρ x).cells true false])else none
 |.build z ps=>
  match fy z (ps.map λp=>(p.1,p.2.1,ρ p.2.2))with
  |some c=>some (.agg c,h)
  |none=>none
 |.load n a=>
  match ρ a with
  |.ptr b o=>
   match h[b]? with
   |some (.cells c _ _)=>
    match n with
    |none=>
     match c[o]? with
     |some x=>some (x,h)
     |none=>none
    |some n=>if o+n<=c.length then some (.agg ((c.drop o).take n),h)else none
   |_=>none
  |_=>none
 |.store n a x=>
  match ρ a with
  |.ptr b o=>
   match h[b]? with
   |some (.cells c true tl)=>
    if(ρ x).cells.length=n/\(ρ x).cells.all AV.one=true/\o+n<=c.length then some (aA,h.set b (.cells (gu c o (ρ x).cells) true tl))else none
   |_=>none
  |_=>none
 |.bT x=>
  match ρ x with
  |.ptr b o=>some (.ptr b o,h)
  |.func (.func f) a c=>some (.func (.func f) a c,h)
  |.func (.yield f) a c=>some (.func (.yield f) a c,h)
  |.func (.methodOf t n) a c=>some (.func (.methodOf t n) a c,h)
  |.func (.via t p f q) a c=>some (.func (.via t p f q) a c,h)
  |_=>none
 |.bin op x y=>
  match fe op (ρ x) (ρ y)with
  |some v=>some (v,h)
  |none=>none
 |.eqv neg t x y=>
  match mS t (ρ x) (ρ y)with
  |some b=>some (.bool (if neg then !b else b),h)
  |none=>none
 |.un op x=>
  match yf op (ρ x)with
  |some v=>some (v,h)
  |none=>none
 |.conv k x=>kX k (ρ x) h
 |.uP f a c=>some (.func f (a.map ρ) (c.map ρ),h)
 |.oD=>some (.map h.length,h++[.bu []])
 |.wI es w z l c=>
  match ρ l,ρ c with
  |.int _ l,.int _ c=>
   if 0<=l/\l<=c/\(w:Int)*c<=2^48/\c<2^63 then some (.slice h.length 0 l.toNat es,h++[.cells (eC l.toNat z) true true])else none
  |_,_=>none
 |.sl es x lo hi=>
  match ρ x with
  |.slice b o n es'=>
   if es' =es then
    match ja (lo.map ρ) (hi.map ρ) n with
    |some (l,h')=>some (.slice b (o+l*es) (h'-l) es,h)
    |none=>none
   else none
  |.af=>
   match ja (lo.map ρ) (hi.map ρ) 0 with
   |some _=>some (.af,h)
   |none=>none
  |_=>none
 |.HW x lo hi=>
  match ρ x with
  |.str s=>
   match ja (lo.map ρ) (hi.map ρ) s.length with
   |some (l,h')=>some (.str ((s.drop l).take (h'-l)),h)
   |none=>none
  |_=>none
 |.NZ k es x lo hi=>
  match ρ x with
  |.ptr b o=>
   match h[b]? with
   |some (.cells c _ _)=>
    if o+k*es<=c.length then
     match ja (lo.map ρ) (hi.map ρ) k with
     |some (l,h')=>some (.slice b (o+l*es) (h'-l) es,h)
     |none=>none
    else none
   |_=>none
  |_=>none
 |.bp off x=>
  match ρ x with
  |.ptr b o=>some (.ptr b (o+off),h)
  |_=>none
 |.bo es x i=>
  match ρ x,ρ i with
  |.slice b o n es',.int _ i=>if es' =es/\0<=i/\i<n then some (.ptr b (o+i.toNat*es),h)else none
  |_,_=>none
 |.te len es x i=>
  match ρ x,ρ i with
  |.ptr b o,.int _ i=>if 0<=i/\i<len then some (.ptr b (o+i.toNat*es),h)else none
  |_,_=>none
 |.part n off x=>
  match ρ x with
  |.agg cs=>
   match n with
   |none=>
    match cs[off]? with
    |some v=>some (v,h)
    |none=>none
   |some n=>some (.agg ((cs.drop off).take n),h)
  |_=>none
 |.J6 len es n x i=>
  match ρ x,ρ i with
  |.agg cs,.int _ i=>
   if 0<=i/\i<len then
    match n with
    |none=>
     match cs[i.toNat*es]? with
     |some v=>some (v,h)
     |none=>none
    |some n=>some (.agg ((cs.drop (i.toNat*es)).take n),h)
   else none
  |_,_=>none
 |.C5 x i=>
  match ρ x,ρ i with
  |.str s,.int _ i=>
   if 0<=i then
    match s[i.toNat]? with
    |some b=>some (.int .u8 b.toNat,h)
    |none=>none
   else none
  |_,_=>none
 |.look kk z ok m k=>
  match ρ m with
  |.dF=>some (if ok then .dz [z,.bool false]else z,h)
  |.map r=>
   match h[r]? with
   |some (.bu es)=>
    match jW kk (ρ k) es with
    |some (some v)=>some (if ok then .dz [v,.bool true]else v,h)
    |some none=>some (if ok then .dz [z,.bool false]else z,h)
    |none=>none
   |_=>none
  |_=>none
 |.gy kk m k x=>
  match ρ m with
  |.map r=>
   match h[r]? with
   |some (.bu es)=>
    match pK kk (ρ k) (ρ x) es with
    |some es'=>some (aA,h.set r (.bu es'))
    |none=>none
   |_=>none
  |_=>none
 |.Cq x=>
  match ρ x with
  |.str s=>some (.ptr h.length 0,h++[.iter s 0])
  |_=>none
 |.rL x=>
  match ρ x with
  |.ptr b 0=>
   match h[b]? with
   |some (.iter s pos)=>
    if pos<s.length then
     let d:=Utf8.decode ⟨⟨s⟩⟩ pos
     some (.dz [.bool true,.int .i64 pos,.int .i32 d.1],h.set b (.iter s (pos+d.2)))
    else some (.dz [.bool false],h)
   |_=>none
  |_=>none
 |.ext x i=>
  match ρ x with
  |.dz l=>
   match l[i]? with
   |some v=>some (v,h)
   |none=>none
  |_=>none
 |.len lk x=>
  match AS lk h (ρ x)with
  |some n=>some (.int .i64 n,h)
  |none=>none
 |.AR n=>some (.int .i64 n,h)
 |.Ae es x y=>
  match ρ x,cellsIn es h (ρ y)with
  |.slice b o n es',some (ys,k)=>
   if es' =es then
    if min k n=0 then some (.int .i64 0,h)
    else
     match h[b]? with
     |some (.cells c true tl)=>if o+min k n*es<=c.length then some (.int .i64 (min k n:Nat),h.set b (.cells (gu c o (ys.take (min k n*es))) true tl))else none
     |_=>none
   else none
  |.af,some _=>some (.int .i64 0,h)
  |_,_=>none
 |.mx x l=>
  match jm qv (ρ x) (l.map ρ)with
  |some v=>some (v,h)
  |none=>none
 |.mn x l=>
  match jm qu (ρ x) (l.map ρ)with
  |some v=>some (v,h)
  |none=>none
 |_=>none
inductive ya (es w:Nat) (s y:AV) (h:ah):AV->ah->Prop
 |none (hy:cellsIn es h y=some ([],0)) (hs:s=.af\/∃b o n,s=.slice b o n es):ya es w s y h s h
 |new (ys:List AV) (k:Nat) (mu:Bool) (hy:cellsIn es h y=some (ys,k)) (hk:0<k) (hb:k*w<=2^46) (hs:s=.af):
   ya es w s y h (.slice h.length 0 k es) (h++[.cells ys mu true])
 |on (ys:List AV) (k b o n:Nat) (c:List AV) (mu:Bool) (hy:cellsIn es h y=some (ys,k)) (hk:0<k) (hb:(n+k)*w<=2^46) (hs:s=.slice b o n es)
   (hc:h[b]? =some (.cells c mu true)) (hl:o+n*es=c.length):
   ya es w s y h (.slice h.length 0 (n+k) es) (h.set b (.cells c false false)++[.cells (c.drop o++ys) false true])
 |over (ys:List AV) (k b o n:Nat) (c:List AV) (mu:Bool) (hy:cellsIn es h y=some (ys,k)) (hk:0<k) (hb:(n+k)*w<=2^46) (hs:s=.slice b o n es)
   (hc:h[b]? =some (.cells c true true)) (hl:o+n*es<=c.length):
   ya es w s y h (.slice h.length 0 (n+k) es) (h.set b .dead++[.cells ((c.drop o).take (n*es)++ys) mu true])
 |full (ys:List AV) (k b o n:Nat) (c:List AV) (hy:cellsIn es h y=some (ys,k)) (hk:0<k) (hb:(n+k)*w<=2^46) (hs:s=.slice b o n es)
   (hc:h[b]? =some (.cells c true false)) (hl:o+n*es=c.length):
   ya es w s y h (.slice h.length 0 (n+k) es) (h++[.cells (c.drop o++ys) true true])
def wrap64{n}(h0:-9223372036854775808<=n)(h1:n<9223372036854775808):IntKind.i64.wrap n=n:=by
 show(if(true&&decide (n%(18446744073709551616:Int)>=(9223372036854775808:Int)))=true then n%(18446744073709551616:Int)-18446744073709551616 else n%(18446744073709551616:Int))=n;simp only[abJ,aaA];split<;>omega
def BN{n}(h0:0<=n)(h1:n<256):IntKind.u8.wrap n=n:=by
 show(if(false&&decide (n%(256:Int)>=(128:Int)))=true then n%(256:Int)-256 else n%(256:Int))=n;exact Ko
def zb{n}(h0:0<=n)(h1:n<18446744073709551616):IntKind.u64.wrap n=n:=by
 show(if(false&&decide (n%(18446744073709551616:Int)>=(9223372036854775808:Int)))=true then n%(18446744073709551616:Int)-18446744073709551616 else n%(18446744073709551616:Int))=n;exact Ko
def fE(P:Program)(m:cw)(h:ah)(w:World)(v:AV)(h':ah)(r:Result Next):Prop:=
 ∃cv w' m',(r=.ok (.value cv) w'\/(r=.ok .skip w'/\cv=undef))/\VR m' v cv/\HR P m' h' w'/\Grow m h w m' h' w'
def fE.same{P m h w v cv r}(hr:HR P m h w)(hv:VR m v cv)(e:r=.ok (.value cv) w):fE P m h w v h r:=
 ⟨cv,w,m,.inl e,hv,hr,Grow.refl m h w hr.cT⟩
def kL(m:cw):VR m aA undef:=⟨[],rfl,rfl⟩
theorem wK(m:cw)(n:Nat)(ih:∀v a,mT n v=some a->VR m a v):∀(l:List Value) (r:List AV),l.mapM (mT n)=some r->cQ m r l
 |[],r,h=>by simp at h;subst h;exact bE.2 rfl
 |v::l,r,h=>by
  simp only[aca,abW,ack]at h;cases hv:mT n v with
  |none=>simp[hv]at h
  |some a=>
   cases hl:l.mapM (mT n)with
   |none=>simp[hv,hl]at h
   |some r'=>
    simp[hv,hl]at h;subst h;exact aT.2 ⟨v,l,rfl,ih v a hv,wK m n ih l r' hl⟩
def qZ(m:cw):∀(n:Nat) (v:Value) (a:AV),mT n v=some a->VR m a v
 | 0,v,a,h=>by simp[mT]at h
 |n+1,v,a,h=>by
  unfold mT at h;split at h
  ·cases h;rfl
  ·cases h;rfl
  ·cases h;exact⟨_,rfl,.inl rfl⟩
  ·cases h;exact⟨_,_,rfl,.inl rfl,.inl rfl⟩
  ·cases h;rfl
  ·cases h;rfl
  ·cases h;rfl
  ·cases h;rfl
  ·cases h;rfl
  ·exact z85
  ·exact z85
  ·cases h
def cB{P}{t:TypeId}{n}(h:eQ P t=some n)(w:World):(sizeOf t).run P w=.ok n w:=by
 unfold eQ at h;cases hi:P.info? t with
 |none=>simp[hi]at h
 |some i=>simp[hi]at h;subst h;simp[sizeOf,typeInfo,hi]
def mD{P}{t:TypeId}{d:TypeDesc}(h:P.underlying t=some d)(w:World):(isAgg t).run P w=.ok (kC d) w:=by
 cases d<;>simp[isAgg,aab h,kC]
def wF{P}{t:TypeId}{n}(h:BH P t=some (some n))(w:World):(isAgg t).run P w=.ok true w/\eQ P t=some n:=by
 unfold BH at h;split at h
 case h_2=>cases h
 rename_i d hu;split at h
 case isFalse=>simp at h
 rename_i hd;refine⟨by rw[mD hu,hd],?_⟩;cases hi:P.info? t with
 |none=>simp[hi]at h
 |some i=>simp[hi]at h;simp[eQ,hi,h]
def wG{P}{t:TypeId}(h:BH P t=some none)(w:World):(isAgg t).run P w=.ok false w:=by
 unfold BH at h;split at h
 case h_2=>cases h
 rename_i d hu;split at h
 case isTrue=>cases hi:P.info? t<;>simp[hi]at h
 rename_i hd;rw[mD hu];simp at hd;rw[hd]
def kK{P}{t:TypeId}{z}(h:kg P t=some z)(w:World)(m:cw):∃cz,(zeroValue t).run P w=.ok cz w/\VR m z cz:=by
 unfold kg at h;cases hi:P.info? t with
 |none=>simp[hi]at h
 |some i=>
  cases hz:i.zero with
  |none=>simp[hi,hz]at h
  |some cz=>
   simp[hi,hz]at h;exact⟨cz,by simp[zeroValue,typeInfo,hi,hz],qZ m 4 cz z h⟩
section
variable {P:Program}{m:cw}{h h':ah}{w:World}{v:AV}{ρ:dt->AV}{hr:HR P m h w}
def tS(hr:HR P m h w){x cx}(hx:VR m x cx)(h1:x.cells.all AV.one=true)(t:TypeId)(mu tl:Bool):
  ∃m',(newVar t cx).run P w=.ok ⟨w.heap.size,0,none⟩ (w.alloc (.cells cx.cells t))/\VR m' (.ptr h.length 0) (.pointer (some ⟨w.heap.size,0,none⟩))/\
   HR P m' (h++[.cells x.cells mu tl]) (w.alloc (.cells cx.cells t))/\Grow m h w m' (h++[.cells x.cells mu tl]) (w.alloc (.cells cx.cells t)):=by
 obtain⟨m',h0,h2,h3⟩:=mv hr hx.cells h1 t mu tl;refine⟨m',by simp[newVar,newRow],⟨_,h0,rfl⟩,h2,h3⟩
def Cl{t:TypeId}{n a ca}(hn:BH P t=some n)(hr:HR P m h w)(ha:VR m (ρ a) ca)(hf:dP (.load n a) ρ h=some (v,h')):
  ∃cv,(Instr.loadAt t ca).run P w=.ok cv w/\VR m v cv/\h' =h:=by
 simp only[dP]at hf;split at hf
 case h_2=>cases hf
 rename_i b o hρ;rw[hρ]at ha;obtain⟨e,he,rfl⟩:=ha;split at hf
 case h_2=>cases hf
 rename_i c mu tl hb;cases n with
 |none=>
  simp only at hf;split at hf
  case h_2=>cases hf
  rename_i x hx;cases hf;obtain⟨_,cv,UD,Sz⟩:=cell_of hr he hb hx;exact⟨cv,by simp[Instr.loadAt,Instr.sureAddr,loadVar,wG hn,UD],Sz,rfl⟩
 |some n=>
  simp only at hf;split at hf
  case isFalse=>cases hf
  rename_i hle;cases hf;obtain⟨hagg,fj⟩:=wF hn w;obtain⟨vs,SB,SU,_⟩:=nF hr he hb o n hle;exact⟨.agg ⟨vs⟩,by simp[Instr.loadAt,Instr.sureAddr,loadVar,hagg,cB fj,SB],⟨vs,rfl,SU⟩,rfl⟩
def Ez{t:TypeId}{n a x ca cx}(hn:eQ P t=some n)(hr:HR P m h w)(ha:VR m (ρ a) ca)(hx:VR m (ρ x) cx)(hf:dP (.store n a x) ρ h=some (v,h')):
  ∃w',(Instr.storeAt t ca cx).run P w=.ok () w'/\v=aA/\HR P m h' w'/\Grow m h w m h' w':=by
 simp only[dP]at hf;split at hf
 case h_2=>cases hf
 rename_i b o hρ;rw[hρ]at ha;obtain⟨e,he,rfl⟩:=ha;split at hf
 case h_2=>cases hf
 rename_i c tl hb;split at hf
 case isFalse=>cases hf
 rename_i hc;cases hf;obtain⟨h1,h2,h3⟩:=hc;have hcl:=hx.cells;obtain⟨w',SB,hr',SX⟩:=pL (ρ x).cells cx.cells.toList hr he hb o 0 Om h2 hcl;have hlen:cx.cells.size=n:=by have:=hcl.length;simp at this;omega
 refine⟨w',?_,rfl,hr',SX⟩;simp only[Instr.storeAt,Instr.sureAddr,storeVar,aae,aat,Z2,cB hn];simp[hlen,SB]
def vQ(c:List Value)(o:Nat):List Value->List Value
 |[]=>c
 |x::xs=>vQ (c.set o x) (o+1) xs
theorem tD{m}:∀{xs}{vs},cQ m xs vs->∀{c}{cv}(o:Nat),cQ m c cv->cQ m (gu c o xs) (vQ cv o vs)
 |[],vs,hx,c,cv,o,hc=>by rw[bE]at hx;subst hx;exact hc
 |x::xs,vs,hx,c,cv,o,hc=>by
  obtain⟨v,vs',rfl,hv,SU⟩:=aT.1 hx;exact tD SU (o+1) (hc.set o hv)
theorem uf(off:Nat):∀(xs:List Value) (k:Nat) (cs:Array Value),(List.foldl (λcs (p:Value×Nat)=>cs.setIfInBounds (off+p.2) p.1) cs (xs.zipIdx k)).toList=vQ cs.toList (off+k) xs
 |[],k,cs=>rfl
 |x::xs,k,cs=>by
  simp only[List.zipIdx_cons,ab4,vQ];rw[uf off xs (k+1)];simp[Nat.add_assoc]
theorem qW{m}(place:Nat->Option (Nat×Nat)):∀(ps:List (Nat×Value)) (qs:List (Nat×Nat×AV)) (c:List AV) (cc:Array Value) (c':List AV),
  ps.length=qs.length->(∀(i:Nat) p q,ps[i]? =some p->qs[i]? =some q->place p.1=some (q.1,q.2.1)/\VR m q.2.2 p.2)->cQ m c cc.toList->fy c qs=some c'->
  ∃Tm,Instr.fill place cc ps=some Tm/\cQ m c' Tm.toList
 |[],[],c,cc,c',_,_,hc,hf=>by simp[fy]at hf;subst hf;exact⟨cc,rfl,hc⟩
 |[],q::qs,c,cc,c',hl,_,_,_=>by simp at hl
 |p::ps,[],c,cc,c',hl,_,_,_=>by simp at hl
 |(i,x)::ps,(off,n,y)::qs,c,cc,c',hl,hp,hc,hf=>by
  obtain⟨Vv,hxy⟩:=hp 0 (i,x) (off,n,y) Si Si;simp only at Vv hxy;simp only[fy]at hf;split at hf
  case isFalse=>cases hf
  rename_i SR;obtain⟨hlen,hle⟩:=SR;have hcells:=hxy.cells;have fj:x.cells.size=n:=by have:=hcells.length;simp at this;omega
  have U3:cc.size=c.length:=by have:=hc.length;simpa using this
  have hfold:(x.cells.zipIdx.foldl (λcs (p:Value×Nat)=>cs.setIfInBounds (off+p.2) p.1) cc).toList=vQ cc.toList off x.cells.toList:=by
   rw[<-Array.foldl_toList];have:=uf off x.cells.toList 0 cc
   simpa using this
  obtain⟨Tm,h1,h2⟩:=qW place ps qs (gu c off y.cells) (x.cells.zipIdx.foldl (λcs (p:Value×Nat)=>cs.setIfInBounds (off+p.2) p.1) cc) c' (by simpa using hl)
   (λj p q hj hq=>hp (j+1) p q (by simpa using hj) (by simpa using hq)) (by rw[hfold];exact tD hcells off hc) hf
  refine⟨Tm,?_,h2⟩;simp only[Instr.fill,Vv];rw[ZW (by simp;omega)];exact h1
theorem qI{P}{t:TypeId}:∀{ps}{l},mM P t ps=some l->ps.length=l.length/\
  ∀(i:Nat) p q,ps[i]? =some p->l[i]? =some q->kj P t p.1=some (q.1,q.2.1)/\dh p.2=some q.2.2
 |[],l,h=>by simp[mM]at h;subst h;exact⟨rfl,λi p q hp=>by simp at hp⟩
 |(i,x)::ps,l,h=>by
  simp only[mM]at h;split at h
  case h_2=>cases h
  rename_i off n y r h1 h2 h3;cases h;obtain⟨hl,hp⟩:=qI h3;refine⟨by simp[hl],λj p q hj hq=>?_⟩;cases j with
  |zero=>simp at hj hq;subst hj;subst hq;exact⟨h1,h2⟩
  |succ j=>exact hp j p q (by simpa using hj) (by simpa using hq)
def Ds{t:TypeId}{z:AV}{ps:List (Nat×Value)}{cz:Value}{Tm:Array Value}(hz:(P.info? t).bind (·.zero)=some cz)(hp:oa P t=true)(hf:Instr.fill (kj P t) cz.cells ps=some Tm):
  P.built t ps=some Tm:=by
 unfold Program.built;cases hi:P.info? t with
 |none=>simp[hi]at hz
 |some it=>
  simp[hi]at hz;unfold oa at hp;split at hp
  ·rename_i fs hu;obtain⟨places,hpls⟩:=Option.isSome_iff_exists.1 hp;have Vv:kj P t=λi=>places[i]? :=by
    funext i;simp only[kj,hu,hpls]
   rw[Vv]at hf;simp only[hu,hz,hpls]
   simpa using hf
  ·rename_i n e hu;obtain⟨ie,hie⟩:=Option.isSome_iff_exists.1 hp;have Vv:kj P t=λi=>some (i*ie.size,ie.size):=by
    funext i;simp only[kj,hu,hie];rfl
   rw[Vv]at hf;simp only[hu,hz,hie];exact hf
  ·cases hp
def EC{t:TypeId}{z:AV}{ps:Array (Nat×Operand)}{l:List (Nat×Nat×dt)}{σ:Operand->Value}(hz:kg P t=some z)(hl:mM P t ps.toList=some l)(hp:oa P t=true)
  (hρ:∀p∈ps.toList,∀y,dh p.2=some y->VR m (ρ y) (σ p.2)) (hf:dP (.build z.cells l) ρ h=some (v,h')):
  ∃cv,(Instr.build t (ps.map λ(i,x)=>(i,σ x))).run P w=.ok cv w/\VR m v cv/\h' =h:=by
 simp only[dP]at hf;split at hf
 case h_2=>cases hf
 rename_i c hc;cases hf;obtain⟨hlen,hpq⟩:=qI hl;have Y6:∃cz,(P.info? t).bind (·.zero)=some cz/\VR m z cz:=by
  unfold kg at hz;cases hi:P.info? t with
  |none=>simp[hi]at hz
  |some i=>
   cases hzz:i.zero with
   |none=>simp[hi,hzz]at hz
   |some cz=>simp[hi,hzz]at hz;exact⟨cz,by simp[hzz],qZ m 4 cz z hz⟩
 obtain⟨cz,Vj,VY⟩:=Y6;obtain⟨Tm,TT,SU⟩:=qW (m:=m) (kj P t) (ps.toList.map λp=>(p.1,σ p.2)) (l.map λp=>(p.1,p.2.1,ρ p.2.2)) z.cells cz.cells c (by simp[hlen])
  (λi p q Yk hq=>by
   simp only[aa8,aag]at Yk hq;obtain⟨p0,hp0,rfl⟩:=Yk;obtain⟨q0,hq0,rfl⟩:=hq;obtain⟨h1,h2⟩:=hpq i p0 q0 hp0 hq0;exact⟨h1,hρ p0 (aaK hp0) _ h2⟩) VY.cells hc
 refine⟨.agg Tm,run_build w t _ Tm ?_,⟨Tm.toList,rfl,SU⟩,rfl⟩;have:=Ds (z:=z) Vj hp TT
 simpa using this
def Ck{t:TypeId}{n off l l'}(hn:BH P t=some n)(hl:cQ m l l')
  (hf:(match n with|none=>(match l[off]? with|some v=>some (v,h)|none=>none)|some n=>some (.agg ((l.drop off).take n),h))=some (v,h')):
  ∃cv,(part t ⟨l'⟩ off).run P w=.ok cv w/\VR m v cv/\h' =h:=by
 cases n with
 |none=>
  simp only at hf;split at hf
  case h_2=>cases hf
  rename_i x hx;cases hf;obtain⟨cv,UD,Sz⟩:=hl.get hx;exact⟨cv,by simp[part,wG hn,UD],Sz,rfl⟩
 |some n=>
  cases hf;obtain⟨h1,h2⟩:=wF hn w;refine⟨.agg ⟨(l'.drop off).take n⟩,?_,⟨_,rfl,(hl.drop off).take n⟩,rfl⟩;simp only[part,aae,h1,Z2,Z7,cB h2,aat];simp[List.extract_eq_take_drop]
end
section
variable {P:Program}{m:cw}{h h':ah}{w:World}
def yp{op k a b v}(hs:fC op=false)(hf:gB op k a b=some v)(t:TypeId):
  ∃cv,(binOp op t (.int k a) (.int k b)).run P w=.ok cv w/\VR m v cv:=by
 cases op<;>simp only[gB,fC]at hf hs<;>first
  |(cases hs;done)
  |(cases hf;done)
  |skip
 all_goals first
  |(cases hf;exact⟨_,by simp[binOp,Op.intArith,Op.intBits,Op.intCmp],rfl⟩)
  |(split at hf
    ·cases hf
    ·rename_i hb;cases hf;exact⟨_,by simp[binOp,Op.intDiv,hb],rfl⟩)
def yn{op k k' a b v}(hs:fC op=true)(hf:yk op k a b=some v)(t:TypeId):
  ∃cv,(binOp op t (.int k a) (.int k' b)).run P w=.ok cv w/\VR m v cv:=by
 unfold yk at hf;split at hf
 ·cases hf
 ·rename_i hb;cases op<;>first
   |(cases hs;done)
   |(cases hf;exact⟨_,by simp[binOp,Op.shift,hb],rfl⟩)
def toList_mk(l:By):(⟨⟨l⟩⟩:ByteArray).toList=l:=by rw[ByteArray.toList_eq]
def Bq(a b:By):(⟨⟨a⟩⟩:ByteArray)++⟨⟨b⟩⟩=⟨⟨a++b⟩⟩:=by
 apply ByteArray.ext
 rw[ByteArray.data_append];simp
def ym{op a b v}(hf:rv op a b=some v)(t:TypeId):
  ∃cv,(binOp op t (.string ⟨⟨a⟩⟩) (.string ⟨⟨b⟩⟩)).run P w=.ok cv w/\VR m v cv:=by
 cases op<;>simp only[rv]at hf<;>first
  |(cases hf;done)
  |skip
 all_goals first
  |(cases hf;exact⟨_,by simp[binOp,Op.stringOp,toList_mk],rfl⟩)
  |(split at hf
    ·rename_i hlen;cases hf;refine⟨.string ⟨⟨a++b⟩⟩,?_,rfl⟩;have hn:¬(IntKind.i64.max<(((⟨⟨a⟩⟩:ByteArray).size+(⟨⟨b⟩⟩:ByteArray).size:Nat):Int)):=by
      show ¬((9223372036854775807:Int)<((a.length+b.length:Nat):Int));omega
     simp only[binOp,Op.stringOp,GT.gt,ZW hn,Bq,aat]
    ·cases hf)
def ED{op x v cx}(hx:VR m x cx)(hf:yf op x=some v):∃cv,(Op.unary op cx).run P w=.ok cv w/\VR m v cv:=by
 cases x with
 |int k n=>
  rw[VR]at hx;subst hx;cases op with
  |neg=>simp only[yf,aak]at hf;subst hf;exact⟨_,rfl,rfl⟩
  |xor=>simp only[yf,gB,aak]at hf;subst hf;exact⟨_,rfl,rfl⟩
  |not=>simp[yf]at hf
  |plus=>simp[yf]at hf
 |bool b=>
  rw[VR]at hx;subst hx;cases op<;>simp only[yf]at hf<;>first
   |(cases hf;done)
   |(cases hf;exact⟨_,by simp[Op.unary],rfl⟩)
 |_=>cases op<;>simp[yf]at hf
def rE{t:TypeId}{k}(ht:match k with|.b=>P.underlying t=some .bool|.i=>∃k,P.underlying t=some (.int k)|.s=>P.underlying t=some .string)
  {x y}{cx cy}{b}(hx:VR m x cx) (hy:VR m y cy) (hf:dJ k x y=some b) (d:Nat):(Op.equalIn (d+1) t cx cy).run P w=.ok b w:=by
 unfold dJ at hf;split at hf
 ·rw[VR]at hx hy;subst hx;subst hy;cases hf;exact run_equalIn_bool' w d t _ _ ht
 ·split at hf
  ·rename_i hk;rw[VR]at hx hy;subst hx;subst hy;subst hk;cases hf;obtain⟨k',hu⟩:=ht;exact run_equalIn_int w d t _ k' _ _ hu
  ·cases hf
 ·rw[VR]at hx hy;subst hx;subst hy;cases hf;rw[run_equalIn_string w d t _ _ ht,toList_mk,toList_mk]
 ·cases hf
theorem jZ:∀(ks ks':List CK) (xs ys xs' ys':List AV) (b:Bool),xs.length=ks.length->ys.length=ks.length->dV (ks++ks') (xs++xs') (ys++ys')=some b->
  (∃c,dV ks xs ys=some c/\((c=true/\dV ks' xs' ys' =some b)\/(c=false/\b=false)))
 |[],ks',[],[],xs',ys',b,_,_,h=>⟨true,rfl,.inl ⟨rfl,h⟩⟩
 |k::ks,ks',x::xs,y::ys,xs',ys',b,hx,hy,h=>by
  simp only[aaX,dV]at h ⊢;cases hc:dJ k x y with
  |none=>simp[hc]at h
  |some c=>
   cases c with
   |false=>simp[hc]at h;subst h;exact⟨false,Si,.inr ⟨rfl,rfl⟩⟩
   |true=>
    simp only[hc]at h;obtain⟨c,h1,h2⟩:=jZ ks ks' xs ys xs' ys' b (by simpa using hx) (by simpa using hy) h;exact⟨c,by simpa using h1,h2⟩
 |[],_,_::_,_,_,_,_,h,_,_=>by simp at h
 |[],_,_,_::_,_,_,_,_,h,_=>by simp at h
 |_::_,_,[],_,_,_,_,h,_,_=>by simp at h
 |_::_,_,_,[],_,_,_,_,h,_=>by simp at h
def jF(d:TypeDesc)(l:List Value):Value:=if kC d then .agg ⟨l⟩else l.headD default
def nY{t:TypeId}{d:TypeDesc}{n}(hd:P.underlying t=some d)(hn:eQ P t=some n)(h1:kC d=false->n=1){l off}(hl:off+n<=l.length):
  (part t ⟨l⟩ off).run P w=.ok (jF d ((l.drop off).take n)) w:=by
 unfold jF;cases ha:kC d with
 |true=>
  simp only[part,aae,mD hd,ha,Z2,Z7,cB hn,aat];simp[List.extract_eq_take_drop]
 |false=>
  have:=h1 ha;subst this;have hlt:off<l.length:=Om
  simp only[part,aae,mD hd,ha,Z2];have e:(l.drop off).take 1=[l[off]]:=by
   rw[abb hlt,abq,abD]
  simp[e,hlt]
def ug{d}{t:TypeId}{ks}(hf:flat P d t=some ks):∃ds,P.underlying t=some ds/\(kC ds=false->ks.length=1):=by
 cases d with
 |zero=>simp[flat]at hf
 |succ d=>
  unfold flat at hf;split at hf
  ·exact z139
  ·exact z139
  ·exact z139
  ·rename_i hu;exact⟨_,hu,λh=>by cases h⟩
  ·rename_i hu;exact⟨_,hu,λh=>by cases h⟩
  ·cases hf
def qD{t:TypeId}{fs}(hu:P.underlying t=some (.struct fs)):P.fieldsOf t=fs:=by simp[Program.fieldsOf,hu]
def Cn:∀(d:Nat) (t:TypeId) (ks:List CK),flat P d t=some ks->∀(D:Nat),d<=D->∀(ds:TypeDesc),P.underlying t=some ds->
  ∀(xs ys:List AV) (vx vy:List Value) (b:Bool),xs.length=ks.length->ys.length=ks.length->cQ m xs vx->cQ m ys vy->dV ks xs ys=some b->
  ∀w:World,(Op.equalIn D t (jF ds vx) (jF ds vy)).run P w=.ok b w:=by
 intro d
 induction d with
 |zero=>intro t ks hf;simp[flat]at hf
 |succ d ih=>
  intro t ks hf D hD ds V9 xs ys vx vy b Vx Vw hx hy he w;obtain⟨D,rfl⟩:∃D',D=D'+1:=⟨D-1,Om⟩;have hone:∀{k:CK},ks=[k]->kC ds=false->(match k with|.b=>P.underlying t=some .bool|.i=>∃k,P.underlying t=some (.int k)|.s=>P.underlying t=some .string)->(Op.equalIn (D+1) t (jF ds vx) (jF ds vy)).run P w=.ok b w:=by
   intro k hk hd ht;subst hk
   match xs,ys,Vx,Vw with
   |[x],[y],_,_=>
    obtain⟨cx,_,rfl,XY,h2⟩:=aT.1 hx;obtain⟨cy,_,rfl,hcy,h3⟩:=aT.1 hy;rw[bE]at h2 h3;subst h2;subst h3;simp only[dV]at he;have TG:dJ k x y=some b:=by
     cases hc:dJ k x y with
     |none=>simp[hc]at he
     |some c=>cases c<;>simp[hc]at he<;>simp[he]
    simp only[jF,hd,List.headD_cons,aaC,Z3];exact rE ht XY hcy TG D
  unfold flat at hf;split at hf
  ·exact KA
  ·rename_i hu;rw[hu]at V9;cases V9;cases hf;exact hone rfl rfl ⟨_,hu⟩
  ·exact KA
  ·rename_i fs hu;rw[hu]at V9;cases V9;split at hf
   case isFalse=>cases hf
   rename_i bP;simp only[jF,kC,Z7];rw[run_equalIn_struct w D t ⟨vx⟩ ⟨vy⟩ (by rw[qD hu];exact hu) bP,qD hu];have key:∀(fl:List Field) (off:Nat) (ks:List CK) (xs ys:List AV) (b:Bool),xE P (flat P d) fl off=some ks->xs.length=ks.length->ys.length=ks.length->
     cQ m xs (vx.drop off)->cQ m ys (vy.drop off)->dV ks xs ys=some b->(Op.eqFields D ⟨vx⟩ ⟨vy⟩ fl).run P w=.ok b w:=by
    intro fl
    induction fl with
    |nil=>
     intro off ks xs ys b Tc Vx Vw hx hy he;simp only[xE,aak]at Tc;subst Tc
     match xs,ys,Vx,Vw with
     |[],[],_,_=>cases he;rfl
    |cons f fl ihf=>
     intro off ks xs ys b Tc Vx Vw hx hy he;simp only[xE]at Tc;split at Tc
     case h_2=>cases Tc
     rename_i k1 i hk1 hi;split at Tc
     case isFalse=>cases Tc
     rename_i SR;obtain⟨hname,hoff,fj,hpos⟩:=SR;split at Tc
     case h_2=>cases Tc
     rename_i k2 Sy;cases Tc;subst hoff;obtain⟨ds',Vh,h1'⟩:=ug hk1;have SY:eQ P f.type=some k1.length:=by simp[eQ,hi,fj]
     have Zq:xs=xs.take k1.length++xs.drop k1.length:=(aaL _ _).symm;have Zp:ys=ys.take k1.length++ys.drop k1.length:=(aaL _ _).symm;simp only[ZL]at Vx Vw;rw[Zq,Zp]at he;obtain⟨c,hc1,Yv⟩:=jZ k1 k2 _ _ _ _ b (by simp;omega) (by simp;omega) he;have VI:f.offset+k1.length<=vx.length:=by have:=hx.length;simp at this;omega
     have hvy:f.offset+k1.length<=vy.length:=by have:=hy.length;simp at this;omega
     simp only[Op.eqFields,ZY hname,aae,nY Vh SY (λh=>h1' h) VI,nY Vh SY (λh=>h1' h) hvy,Z2];rw[ih f.type k1 hk1 D Om ds' Vh _ _ _ _ c (by simp;omega) (by simp;omega) (hx.take k1.length) (hy.take k1.length) hc1 w];rcases Yv with⟨rfl,hr⟩|⟨rfl,rfl⟩
     ·simp only[Z2,aad,aaC,Z3];exact ihf (f.offset+k1.length) k2 _ _ b Sy (by simp;omega) (by simp;omega) (by have:=hx.drop k1.length;rwa [abk]at this) (by have:=hy.drop k1.length;rwa [abk]at this) hr
     ·simp
   exact key fs.toList 0 ks xs ys b hf Vx Vw (by simpa using hx) (by simpa using hy) he
  ·rename_i len e hu;rw[hu]at V9;cases V9;split at hf
   case h_2=>cases hf
   rename_i k1 i hk1 hi;split at hf
   case isFalse=>cases hf
   rename_i SR;obtain⟨fj,hpos⟩:=SR;cases hf;obtain⟨ds',Vh,h1'⟩:=ug hk1;have SY:eQ P e=some k1.length:=by simp[eQ,hi,fj]
   simp only[jF,kC,Z7];have key:∀(n j:Nat) (xs ys:List AV) (b:Bool),j+n=len->xs.length=(List.replicate n k1).flatten.length->ys.length=(List.replicate n k1).flatten.length->
     cQ m xs (vx.drop (j*k1.length))->cQ m ys (vy.drop (j*k1.length))->dV (List.replicate n k1).flatten xs ys=some b->
     (forIn (m:=Sem) (List.range' j n) ((none,()):Option Bool×Unit) λ(i:Nat) (_:Option Bool×Unit)=>do
      let a <-part e ⟨vx⟩ (i*k1.length)
      let c <-part e ⟨vy⟩ (i*k1.length)
      let r <-Op.equalIn D e a c
      if(!r)=true then pure (ForInStep.done (some false,()))else pure (ForInStep.yield (none,()))).run P w=.ok (if b then(none,())else(some false,())) w:=by
    intro n
    induction n with
    |zero=>
     intro j xs ys b _ Vx Vw _ _ he;simp only[ace,List.flatten_nil,ZT]at Vx Vw he
     match xs,ys,Vx,Vw with
     |[],[],_,_=>cases he;rfl
    |succ n ihn=>
     intro j xs ys b hj Vx Vw hx hy he;simp only[abr,aa0,ZL]at Vx Vw he;have Zq:xs=xs.take k1.length++xs.drop k1.length:=(aaL _ _).symm;have Zp:ys=ys.take k1.length++ys.drop k1.length:=(aaL _ _).symm;rw[Zq,Zp]at he;obtain⟨c,hc1,Yv⟩:=jZ k1 _ _ _ _ _ b (by simp;omega) (by simp;omega) he;have VI:j*k1.length+k1.length<=vx.length:=by have:=hx.length;simp at this;omega
     have hvy:j*k1.length+k1.length<=vy.length:=by have:=hy.length;simp at this;omega
     simp only[List.range'_succ,List.forIn_cons,aae,nY Vh SY (λh=>h1' h) VI,nY Vh SY (λh=>h1' h) hvy,Z2];rw[ih e k1 hk1 D Om ds' Vh _ _ _ _ c (by simp;omega) (by simp;omega) (hx.take k1.length) (hy.take k1.length) hc1 w];rcases Yv with⟨rfl,hr⟩|⟨rfl,rfl⟩
     ·simp only[Z2,aad,aaC,Z3,aat];exact ihn (j+1) _ _ b Om (by rw[aa7];omega) (by rw[aa7];omega) (by have:=hx.drop k1.length;rw[abk]at this;rwa [aa5]) (by have:=hy.drop k1.length;rw[abk]at this;rwa [aa5]) hr
     ·simp
   have hk:=key len 0 xs ys b Om Vx Vw (by simpa using hx) (by simpa using hy) he;simp only[Op.equalIn,aae,aab hu,Z2,cB SY,Std.Legacy.Range.forIn_eq_forIn_range',Std.Legacy.Range.size];simp only[Nat.sub_zero,Nat.add_one_sub_one,Nat.div_one];rw[hk];cases b<;>rfl
  ·cases hf
end
def pD(m:cw)(ρ:dt->AV):Option dt->Option Value->Prop
 |none,none=>True
 |some x,some cx=>VR m (ρ x) cx
 |_,_=>False
section
variable {P:Program}{m:cw}{h h':ah}{w:World}{ρ:dt->AV}{v:AV}
def fT{t e:TypeId}{i:TypeInfo}(hs:eT P t=some (e,i)):P.underlying t=some (.slice e)/\P.info? e=some i:=by
 unfold eT at hs;split at hs
 ·rename_i e' hu;cases hi:P.info? e' with
  |none=>simp[hi]at hs
  |some i'=>simp[hi]at hs;obtain⟨rfl,rfl⟩:=hs;exact⟨hu,hi⟩
 ·cases hs
def kf(n:Nat)(z:List AV):(eC n z).length=n*z.length:=by simp[eC]
def tr{z:List AV}{cz:Array Value}(hz:cQ m z cz.toList)(hpos:0<z.length)(n k:Nat)(hk:k<=n):
  cQ m (eC k z) (((Array.range (n*cz.size)).map (cz[·% cz.size]!)).toList.take (k*z.length)):=by
 have fj:cz.size=z.length:=by have:=hz.length;simpa using this
 refine cQ.iV ?_ ?_
 ·rw[kf];simp[fj,abE hk]
 ·intro i x hx;have hi:i<k*z.length:=by have:=(ZM.1 hx).1;rw[kf]at this;exact this
  have hmod:i%z.length<z.length:=Nat.mod_lt _ hpos;have SG:(eC k z)[i]? =z[i%z.length]? :=by
   clear hx hk;unfold eC
   induction k generalizing i with
   |zero=>omega
   |succ k ih=>
    rw[abr,aa0];by_cases hlt:i<z.length
    ·rw[ZQ hlt,Nat.mod_eq_of_lt hlt]
    ·rw[Z1 Om,ih (i-z.length) (by rw[aa5]at hi;omega) (Nat.mod_lt _ hpos)];congr 1;rw[<-Nat.mod_eq_sub_mod Om]
  rw[SG]at hx;obtain⟨y,hy,hr⟩:=hz.get hx;refine⟨y,?_,hr⟩;have hin:i<n*z.length:=aaG hi (aaU _ hk);rw[abR hi,abh,Array.getElem?_map,Array.getElem?_range,fj,ZY hin];simp only[abF,aak];rw[getElem!_pos cz _ Om];have:=(ZM.1 hy).2
  simpa using this
def BL{z}(hz:z.all AV.one=true)(n:Nat):(eC n z).all AV.one=true:=by
 rw[aas]at hz ⊢;intro x hx;simp only[eC,List.mem_flatten,List.mem_replicate]at hx;obtain⟨l,⟨_,rfl⟩,hx⟩:=hx;exact hz x hx
def H7{t e:TypeId}{i:TypeInfo}{z:AV}{l c:dt}{cl cc:Value}(hs:eT P t=some (e,i))(hz:kg P e=some z)(hpos:0<i.size)(hzl:z.cells.length=i.size)(h1:z.cells.all AV.one=true)
  (hr:HR P m h w) (hl:VR m (ρ l) cl) (hc:VR m (ρ c) cc) (hf:dP (.wI i.size i.bytes z.cells l c) ρ h=some (v,h')):
  ∃cv w' m',(Instr.makeSlice t cl cc).run P w=.ok cv w'/\VR m' v cv/\HR P m' h' w'/\Grow m h w m' h' w':=by
 obtain⟨hu,hi⟩:=fT hs;simp only[dP]at hf;split at hf
 case h_2=>cases hf
 rename_i kl l' kc c' hρl hρc;rw[hρl,VR]at hl;rw[hρc,VR]at hc;subst hl;subst hc;split at hf
 case isFalse=>cases hf
 rename_i SR;obtain⟨h0,hlc,hb,hc63⟩:=SR;cases hf;obtain⟨cz,Vj,VY⟩:=kK hz w m;have hzc:=VY.cells;obtain⟨n,rfl⟩:=Int.eq_ofNat_of_zero_le (Int.le_trans h0 hlc);obtain⟨k,rfl⟩:=Int.eq_ofNat_of_zero_le h0;have hkn:k<=n:=Om
 have hwl:IntKind.i64.wrap (k:Int)=k:=wrap64 Om Om;have hwc:IntKind.i64.wrap (n:Int)=n:=wrap64 Om Om;have fj:cz.cells.size=z.cells.length:=by have:=hzc.length;simpa using this
 let row:Array Value:=(Array.range (n*cz.cells.size)).map (cz.cells[·% cz.cells.size]!)
 have hrow:cQ m (eC k z.cells) (row.toList.take (k*z.cells.length)):=tr hzc Om n k hkn;have hrs:row.size=n*i.size:=by simp[row,fj,hzl]
 let e':tq:=⟨w.heap.size,0,row.size,true⟩
 have Xc:=kZ hr (.cells row e) (.cells (eC k z.cells) true true) e' rfl rfl (λm' hm=>by
  refine⟨row,e,(0,0),World.alloc_heap_new w _,⟨?_,?_,rfl⟩,?_,λ_=>⟨rfl,λi _=>by simp⟩,λ_=>⟨rfl,λx=>by cases x⟩⟩
  ·exact La
  ·exact La
  ·intro j x hx;obtain⟨y,hy,Sz⟩:=hrow.get hx;have hj:j<k*z.cells.length:=by have:=(ZM.1 hx).1;rw[kf]at this;exact this
   rw[abR hj]at hy;refine⟨aas.1 (BL h1 k) x (aaK hx),y,?_,VR.mono hm _ _ Sz⟩;show row[0+j]? =some y;rw[aaD,<-abh];exact hy)
 refine⟨.slice (some ⟨w.heap.size,0,none⟩) k n,w.alloc (.cells row e),m.add h.length e',?_,⟨e',⟨w.heap.size,0,none⟩,n,by simp[cw.add],rfl,hkn,λ_=>rfl,?_⟩,Xc.1,Xc.2⟩
 ·have SP:(sizeOf e).run P w=.ok i.size w:=cB (by simp[eQ,hi]) w;have Us:¬((i.bytes:Int)*n > 2^48):=Om
  have WJ:(typeInfo e).run P w=.ok i w:=by simp[typeInfo,hi]
  have Xs:¬((n:Int)<0):=Om
  have hk0:¬((k:Int)<0):=Om
  have hkn':¬((k:Int)> (n:Int)):=Om
  simp only[Instr.makeSlice,aae,aab hu,Z2,asInt,asIntOf,aat,WJ,hwl,hwc,Xs,hk0,hkn',Us];simp only[aac,Bool.or_self,aaC,Z3,run_askRoom,Z2,SP,Int.toNat_natCast,aae,Sem.run_ite,aat,Vj];by_cases Y6:n*i.size=0
  ·simp only[Y6,Z7,Z2,newRow,run_newObj,aae,aat];have:row=#[]:=by apply Array.eq_empty_of_size_eq_zero;omega
   have e0:(Array.range 0).map (λx=>(#[] :Array Value)[x%(#[] :Array Value).size]!)=#[]:=Si
   rw[this,e0];rfl
  ·simp only[Y6,Z3,Z2,newRow,run_newObj,aae,aat];have:row=(Array.range (n*i.size)).map (cz.cells[·% cz.cells.size]!):=by show(Array.range (n*cz.cells.size)).map _=_;rw[fj,hzl]
   rw[this];rfl
 ·show 0+0+n*i.size<=row.size;omega
def mN{lo hi}{n l u:Nat}(hb:ja lo hi n=some (l,u)):l<=u/\u<=n/\G8 lo=some (l:Int)/\Fk n hi=some (u:Int):=by
 unfold ja at hb;split at hb
 case h_2=>cases hb
 rename_i a b ha hb';split at hb
 case isFalse=>cases hb
 rename_i hc;obtain⟨h0,h1,h2⟩:=hc;simp only[aak,ab6]at hb;obtain⟨rfl,rfl⟩:=hb;exact⟨Om,Om,by rw[ha];congr 1;omega,by rw[hb'];congr 1;omega⟩
def gL{lo hi VU Vq}(hlo:pD m ρ lo VU)
  (hhi:pD m ρ hi Vq) {n l u}(hb:ja (lo.map ρ) (hi.map ρ) n=some (l,u)) (isSlice:Bool) (cap:Nat) (hcap:n<=cap):
  (Instr.sliceBounds isSlice n cap VU Vq none).run P w=.ok (l,u,cap) w:=by
 obtain⟨XQ,hun,h1,h2⟩:=mN hb;have hh:∀(x:dt) (cx:Value),VR m (ρ x) cx->Fk n (some (ρ x))=some (u:Int)->∃k,cx=.int k u:=by
  intro x cx hx hu;cases hρ:ρ x<;>simp[Fk,hρ]at hu;subst hu;rw[hρ,VR]at hx;exact⟨_,hx⟩
 have hl:∀(x:dt) (cx:Value),VR m (ρ x) cx->G8 (some (ρ x))=some (l:Int)->∃k,cx=.int k l:=by
  intro x cx hx hu;cases hρ:ρ x<;>simp[G8,hρ]at hu;subst hu;rw[hρ,VR]at hx;exact⟨_,hx⟩
 have hcu:(u:Int)<=cap:=Om
 have hlu':(l:Int)<=u:=Om
 have hbu:∀(k:IntKind) (code:BoundsCode) (w:World),(Instr.sliceBound (.int k u) cap code).run P w=.ok u w:=by
  intro k code w;simp[Instr.sliceBound,asIntOf,hcu]<;>omega
 have hbl:∀(k:IntKind) (code:BoundsCode) (w:World),(Instr.sliceBound (.int k l) u code).run P w=.ok l w:=by
  intro k code w;simp[Instr.sliceBound,asIntOf]<;>omega
 cases lo with
 |none=>
  cases VU with
  |some _=>exact hlo.elim
  |none=>
   simp only[ab5,G8,aak]at h1;cases hi with
   |none=>
    cases Vq with
    |some _=>exact hhi.elim
    |none=>
     simp only[ab5,Fk,aak]at h2;have hn:u=n:=Om
     have XT:l=0:=Om
     subst hn;subst XT;simp[Instr.sliceBounds]
   |some y=>
    cases Vq with
    |none=>exact hhi.elim
    |some cy=>
     obtain⟨k,rfl⟩:=hh y cy hhi h2;have XT:l=0:=Om
     subst XT;simp[Instr.sliceBounds,hbu]
 |some x=>
  cases VU with
  |none=>exact hlo.elim
  |some cx=>
   obtain⟨kx,rfl⟩:=hl x cx hlo h1;cases hi with
   |none=>
    cases Vq with
    |some _=>exact hhi.elim
    |none=>
     simp only[ab5,Fk,aak]at h2;have hn:u=n:=Om
     subst hn;simp[Instr.sliceBounds,hbl]
   |some y=>
    cases Vq with
    |none=>exact hhi.elim
    |some cy=>
     obtain⟨k,rfl⟩:=hh y cy hhi h2;simp[Instr.sliceBounds,hbu,hbl]
def extract_mk(s:By)(l u:Nat):(⟨⟨s⟩⟩:ByteArray).extract l u=⟨⟨(s.drop l).take (u-l)⟩⟩:=by
 apply ByteArray.ext
 simp[ByteArray.data_extract,List.extract_eq_take_drop]
def OM{t:TypeId}{es x lo hi cx VU Vq}{e:TypeId}(hu:P.underlying t=some (.slice e))(hes:eQ P e=some es)
  (hx:VR m (ρ x) cx) (hlo:pD m ρ lo VU)
  (hhi:pD m ρ hi Vq) (hf:dP (.sl es x lo hi) ρ h=some (v,h')):
  ∃cv,(Instr.sliceAt t cx VU Vq none).run P w=.ok cv w/\VR m v cv/\h' =h:=by
 simp only[dP]at hf;split at hf
 ·rename_i b o n es' hρ;rw[hρ]at hx;obtain⟨en,ca,cap,Ti,rfl,SZ,Tl,hroom⟩:=hx;split at hf
  case isFalse=>cases hf
  rename_i hees;subst hees;split at hf
  case h_2=>cases hf
  rename_i l u hb;cases hf;obtain⟨XQ,hun,_,_⟩:=mN hb;refine⟨.slice (some (if cap=l then ca else ca.add (l*es'))) (u-l) (cap-l),?_,⟨en,_,cap-l,Ti,rfl,Om,?_,?_⟩,rfl⟩
  ·simp only[Instr.sliceAt,aae,aab hu,Z2,Instr.slice,gL hlo hhi hb true cap SZ,cB hes,aat];by_cases hcl:cap=l<;>simp[hcl]
  ·intro hpos;rw[ZW Om,Tl Om,iG];simp only[Addr.mk.injEq,aco,and_true];omega
  ·have:cap=l+(cap-l):=Om
   rw[this,ab3]at hroom;omega
 ·rename_i hρ;rw[hρ,VR]at hx;subst hx;split at hf
  case h_2=>cases hf
  rename_i p hb;obtain⟨l,u⟩:=p;cases hf;obtain⟨XQ,hun,_,_⟩:=mN hb;have XT:l=0:=Om
  have Vt:u=0:=Om
  subst XT;subst Vt;refine⟨.slice none 0 0,?_,rfl,rfl⟩;simp only[Instr.sliceAt,aae,aab hu,Z2,Instr.slice,gL hlo hhi hb true 0 (Z0 _),cB hes,aat];simp
 ·cases hf
def LR{t:TypeId}{x lo hi cx VU Vq}(hu:P.underlying t=some .string)
  (hx:VR m (ρ x) cx) (hlo:pD m ρ lo VU)
  (hhi:pD m ρ hi Vq) (hf:dP (.HW x lo hi) ρ h=some (v,h')):
  ∃cv,(Instr.sliceAt t cx VU Vq none).run P w=.ok cv w/\VR m v cv/\h' =h:=by
 simp only[dP]at hf;split at hf
 case h_2=>cases hf
 rename_i s hρ;rw[hρ,VR]at hx;subst hx;split at hf
 case h_2=>cases hf
 rename_i l u hb;cases hf;refine⟨.string ((⟨⟨s⟩⟩:ByteArray).extract l u),?_,by rw[extract_mk];rfl,rfl⟩;have hs:(⟨⟨s⟩⟩:ByteArray).size=s.length:=rfl;simp only[Instr.sliceAt,aae,aab hu,Z2,Instr.slice];simp[hs,gL hlo hhi hb false s.length (Z0 _)]
def LS{t:TypeId}{k es x lo hi cx VU Vq}{e:TypeId}(hu:P.underlying t=some (.array k e))(hes:eQ P e=some es)(hr:HR P m h w)
  (hx:VR m (ρ x) cx) (hlo:pD m ρ lo VU)
  (hhi:pD m ρ hi Vq) (hf:dP (.NZ k es x lo hi) ρ h=some (v,h')):
  ∃cv,(Instr.sliceAt t cx VU Vq none).run P w=.ok cv w/\VR m v cv/\h' =h:=by
 simp only[dP]at hf;split at hf
 case h_2=>cases hf
 rename_i b o hρ;rw[hρ]at hx;obtain⟨en,Ti,rfl⟩:=hx;split at hf
 case h_2=>cases hf
 rename_i c mu tl hbk;split at hf
 case isFalse=>cases hf
 rename_i hle;split at hf
 case h_2=>cases hf
 rename_i l u hb;cases hf;obtain⟨XQ,hun,_,_⟩:=mN hb;obtain⟨_,_,_,_,⟨_,fj⟩,_⟩:=hr.eO b en _ Ti hbk;refine⟨.slice (some (if k=l then⟨en.cb,o+en.d,none⟩else(⟨en.cb,o+en.d,none⟩:Addr).add (l*es))) (u-l) (k-l),?_,⟨en,_,k-l,Ti,rfl,Om,?_,?_⟩,rfl⟩
 ·simp only[Instr.sliceAt,aae,aab hu,Z2,Instr.sureAddr,aat,gL hlo hhi hb false k (Z0 _),cB hes]
 ·intro hpos;rw[ZW Om,iG];simp only[Addr.mk.injEq,aco,and_true];omega
 ·have:k=l+(k-l):=Om
  rw[this,ab3]at hle;omega
def rD{a f n}(hn:eQ P f.type=some n)(hpos:0<n):(fieldPlace a f).run P w=.ok (a.add f.offset) w:=by
 have:n≠0:=Om
 simp[fieldPlace,cB hn,this]
def Ib{t:TypeId}{i n f x cx}(hfa:fieldAt P t i=some f)(hn:eQ P f.type=some n)(hpos:0<n)(hx:VR m (ρ x) cx)(hf:dP (.bp f.offset x) ρ h=some (v,h')):
  ∃cv,(Instr.fieldAt t cx i).run P w=.ok cv w/\VR m v cv/\h' =h:=by
 unfold Abs.fieldAt at hfa;split at hfa
 case h_2=>cases hfa
 rename_i fs hu;simp only[dP]at hf;split at hf
 case h_2=>cases hf
 rename_i b o hρ;cases hf;rw[hρ]at hx;obtain⟨e,he,rfl⟩:=hx;refine⟨_,?_,⟨e,he,rfl⟩,rfl⟩;simp only[Instr.fieldAt,aae,aab hu,Z2,hfa,Instr.sureAddr,aat,rD hn hpos,iG];rw[Nat.add_right_comm]
def H9{t e:TypeId}{es x i cx ci}(hu:P.underlying t=some (.slice e))(hes:eQ P e=some es)(hx:VR m (ρ x) cx)(hi:VR m (ρ i) ci)(hf:dP (.bo es x i) ρ h=some (v,h')):
  ∃cv,(Instr.indexAt t cx ci).run P w=.ok cv w/\VR m v cv/\h' =h:=by
 simp only[dP]at hf;split at hf
 case h_2=>cases hf
 rename_i b o n es' k j Tx U6;rw[Tx]at hx;rw[U6,VR]at hi;subst hi;obtain⟨en,ca,cap,Ti,rfl,SZ,Tl,hroom⟩:=hx;split at hf
 case isFalse=>cases hf
 rename_i hc;obtain⟨rfl,h0,h1⟩:=hc;cases hf;refine⟨_,?_,⟨en,Ti,rfl⟩,rfl⟩;simp only[Instr.indexAt,asIntOf,aae,aat,Z2,aab hu];rw[ZY ⟨h0,h1⟩];simp only[aae,cB hes,Z2,aat,Tl Om,iG];rw[Nat.add_right_comm]
def Ia{t e:TypeId}{len es x i cx ci}(hu:P.underlying t=some (.array len e))(hes:eQ P e=some es)(hx:VR m (ρ x) cx)(hi:VR m (ρ i) ci)(hf:dP (.te len es x i) ρ h=some (v,h')):
  ∃cv,(Instr.indexAt t cx ci).run P w=.ok cv w/\VR m v cv/\h' =h:=by
 simp only[dP]at hf;split at hf
 case h_2=>cases hf
 rename_i b o k j Tx U6;rw[Tx]at hx;rw[U6,VR]at hi;subst hi;obtain⟨en,Ti,rfl⟩:=hx;split at hf
 case isFalse=>cases hf
 rename_i hc;obtain⟨h0,h1⟩:=hc;cases hf;refine⟨_,?_,⟨en,Ti,rfl⟩,rfl⟩;simp only[Instr.indexAt,asIntOf,aae,aat,Z2,aab hu,Instr.sureAddr];rw[ZY ⟨h0,h1⟩];simp only[aae,cB hes,Z2,aat,iG];rw[Nat.add_right_comm]
def EA{t:TypeId}{i f n x cx}(hfa:fieldAt P t i=some f)(hn:BH P f.type=some n)(hx:VR m (ρ x) cx)(hf:dP (.part n f.offset x) ρ h=some (v,h')):
  ∃cv,(Instr.field t cx i).run P w=.ok cv w/\VR m v cv/\h' =h:=by
 unfold Abs.fieldAt at hfa;split at hfa
 case h_2=>cases hfa
 rename_i fs hu;simp only[dP]at hf;split at hf
 case h_2=>cases hf
 rename_i cs hρ;rw[hρ]at hx;obtain⟨l',rfl,hl⟩:=hx;obtain⟨cv,h1,h2,h3⟩:=Ck (w:=w) hn hl (by cases n<;>exact hf);exact⟨cv,by simp only[Instr.field,aae,aab hu,Z2,hfa,asAgg,aat,h1],h2,h3⟩
def LV{t e:TypeId}{len es n x i cx ci}(hu:P.underlying t=some (.array len e))(hes:eQ P e=some es)(hn:BH P e=some n)(hx:VR m (ρ x) cx)(hi:VR m (ρ i) ci)
  (hf:dP (.J6 len es n x i) ρ h=some (v,h')):∃cv,(Instr.index t cx ci).run P w=.ok cv w/\VR m v cv/\h' =h:=by
 simp only[dP]at hf;split at hf
 case h_2=>cases hf
 rename_i cs k j Tx U6;rw[Tx]at hx;rw[U6,VR]at hi;subst hi;obtain⟨l',rfl,hl⟩:=hx;split at hf
 case isFalse=>cases hf
 rename_i hc;obtain⟨cv,h1,h2,h3⟩:=Ck (w:=w) (off:=j.toNat*es) hn hl (by cases n<;>exact hf);refine⟨cv,?_,h2,h3⟩;simp only[Instr.index,asIntOf,aae,aat,Z2,aab hu];rw[ZY hc];simp only[aae,cB hes,Z2,h1]
def LU{t:TypeId}{x i cx ci}(hu:P.underlying t=some .string)(hx:VR m (ρ x) cx)(hi:VR m (ρ i) ci)
  (hf:dP (.C5 x i) ρ h=some (v,h')):∃cv,(Instr.index t cx ci).run P w=.ok cv w/\VR m v cv/\h' =h:=by
 simp only[dP]at hf;split at hf
 case h_2=>cases hf
 rename_i s k j Tx U6;rw[Tx,VR]at hx;rw[U6,VR]at hi;subst hi;subst hx;split at hf
 case isFalse=>cases hf
 rename_i h0;split at hf
 case h_2=>cases hf
 rename_i b hb;cases hf;refine⟨.int .u8 b.toNat,?_,rfl,rfl⟩;have hb':(⟨⟨s⟩⟩:ByteArray)[j.toNat]? =some b:=by
  show(if h:j.toNat<s.length then some (s[j.toNat])else none)=some b;obtain⟨hlt,he⟩:=ZM.1 hb;rw[dif_pos hlt,he]
 simp only[Instr.index,asIntOf,aae,aat,Z2,aab hu,ZY h0,hb']
end
def an.isObj:an->Bool
 |.bu _=>true
 |.iter _ _=>true
 |.loop _ _ _ _ _ _=>true
 |_=>false
section
variable {P:Program}{m:cw}{h h':ah}{w:World}{ρ:dt->AV}{v:AV}
def kP(hr:HR P m h w){b e k k' o}(he:m b=some e)(hb:h[b]? =some k)(hk:k.isObj=true)(hk':k'.isObj=true\/k' =.dead)
  (hnew:BR P m (w.putObj e.cb o) e k'):HR P m (h.set b k') (w.putObj e.cb o)/\Grow m h w m (h.set b k') (w.putObj e.cb o):=by
 have hbl:b<h.length:=hr.cT _ _ he;have WD:k.live=true:=by cases k<;>first|rfl|cases hk
 have hown:e.own=true:=by
  have:=hr.eO b e k he hb;cases k<;>first|exact this.1|(cases hk;done)
 have hother:∀i,i≠e.cb->(w.putObj e.cb o).heap[i]? =w.heap[i]? :=λi hi=>World.putObj_heap_other hi
 have hsep:∀b' e' k2,b'≠b->m b' =some e'->h[b']? =some k2->k2.live=true->e'.cb≠e.cb:=by
  intro b' e' k2 hne TG Sy hl hcb;have:=hr.sep b' b e' e k2 k hne TG he Sy hb hcb;cases k<;>cases k2<;>first|exact this|(cases hk;done)|(cases hl;done)
 refine⟨⟨?_,?_,?_,hr.gS,λb' e' hb'=>by simpa using hr.lt b' e' hb'⟩,⟨λ_ _=>rfl,Si,?_,?_,Si,rfl,rfl,rfl,?_⟩⟩
 ·intro b' e' hb';simpa using hr.cT b' e' hb'
 ·intro b' e' k2 TG Sy;rw[bJ h b b' _ hbl]at Sy;by_cases hbb:b' =b
  ·subst hbb;rw[ZY rfl]at Sy;cases Sy;rw[he]at TG;cases TG;exact hnew
  ·rw[ZW hbb]at Sy;have h0:=hr.eO b' e' k2 TG Sy;by_cases hl:k2.live=true
   ·exact h0.heap (hother _ (hsep b' e' k2 hbb TG Sy hl))
   ·exact z152
 ·intro b1 b2 e1 e2 k1 k2 hne T0 SJ hk1 Sy hcb;rw[bJ h b _ _ hbl]at hk1 Sy;by_cases Ta:b1=b
  ·subst Ta;rw[ZY rfl]at hk1;cases hk1;rw[ZW (λx=>hne x.symm)]at Sy;rw[he]at T0;cases T0;by_cases hl:k2.live=true
   ·exact absurd hcb.symm (hsep b2 e2 k2 (λx=>hne x.symm) SJ Sy hl)
   ·cases k2<;>first|(cases k'<;>trivial)|exact absurd rfl hl
  ·rw[ZW Ta]at hk1;by_cases To:b2=b
   ·subst To;rw[ZY rfl]at Sy;cases Sy;rw[he]at SJ;cases SJ;by_cases hl:k1.live=true
    ·exact absurd hcb (hsep b1 e1 k1 hne T0 hk1 hl)
    ·cases k1<;>first|trivial|exact absurd rfl hl
   ·exact NS
 ·intro b' e' hb' TG;exact absurd (hr.cT _ _ TG) Om
 ·intro b' hb' ht;unfold fk at ht ⊢;rw[bJ h b b' _ hbl]at ht;by_cases hbb:b' =b
  ·subst hbb;rw[ZY rfl]at ht;rcases hk' with hk'|hk'
   ·cases k'<;>first|(cases hk';done)|(cases ht;done)
   ·subst hk';cases ht
  ·exact Eb
 ·intro i hi hno;exact hother i (λhcb=>hno b e he hown hcb.symm)
def k8{r o}(ho:w.heap[r]? =some o)(hc:o.isCells=false):(getObj r).run P w=.ok o w:=by
 cases o<;>first|(cases hc;done)|simp[getObj,Sem.run,ho]
def nB{r o o'}(ho:w.heap[r]? =some o)(hc:o.isCells=false):(setObj r o').run P w=.ok () (w.putObj r o'):=by
 cases o<;>first|(cases hc;done)|simp[setObj,Sem.run,ho,World.putObj]
def H5{t:TypeId}{x cx}(hu:P.underlying t=some .string)(hr:HR P m h w)(hx:VR m (ρ x) cx)(hf:dP (.Cq x) ρ h=some (v,h')):
  ∃cv w' m',(Instr.range t cx).run P w=.ok cv w'/\VR m' v cv/\HR P m' h' w'/\Grow m h w m' h' w':=by
 simp only[dP]at hf;split at hf
 case h_2=>cases hf
 rename_i s hρ;rw[hρ,VR]at hx;subst hx;cases hf;have Xc:=kZ hr (.stringIter ⟨⟨s⟩⟩ 0) (.iter s 0) ⟨w.heap.size,0,0,true⟩ rfl rfl (λm' _=>⟨rfl,rfl,World.alloc_heap_new w _⟩);exact⟨.pointer (some ⟨w.heap.size,0,none⟩),_,_,by simp[Instr.range,aab hu],⟨⟨w.heap.size,0,0,true⟩,by simp[cw.add],rfl⟩,Xc.1,Xc.2⟩
def EB{t:TypeId}{x cx}(hr:HR P m h w)(hx:VR m (ρ x) cx)(hf:dP (.rL x) ρ h=some (v,h')):
  ∃cv w' m',(Instr.next cx true t).run P w=.ok cv w'/\VR m' v cv/\HR P m' h' w'/\Grow m h w m' h' w':=by
 simp only[dP]at hf;split at hf
 case h_2=>cases hf
 rename_i b hρ;rw[hρ]at hx;obtain⟨e,he,rfl⟩:=hx;split at hf
 case h_2=>cases hf
 rename_i s pos hb;obtain⟨hown,hd0,hheap⟩:=hr.eO b e _ he hb;have hg:=k8 (P:=P) hheap rfl;have fj:(⟨⟨s⟩⟩:ByteArray).size=s.length:=rfl;split at hf
 ·rename_i hlt;cases hf;have hbl:e.cb<w.heap.size:=(aaa.1 hheap).1;obtain⟨h1,h2⟩:=kP hr he hb rfl (k':=.iter s (pos+(Utf8.decode ⟨⟨s⟩⟩ pos).2)) (o:=.stringIter ⟨⟨s⟩⟩ (pos+(Utf8.decode ⟨⟨s⟩⟩ pos).2)) (.inl rfl) ⟨hown,hd0,World.putObj_heap_same hbl⟩;refine⟨.tuple #[.bool true,goInt pos,.int .i32 (Utf8.decode ⟨⟨s⟩⟩ pos).1],_,m,?_,⟨_,rfl,?_⟩,h1,h2⟩
  ·simp[Instr.next,hd0,hg,fj,hlt,nB hheap rfl]
  ·exact⟨_,_,rfl,rfl,_,_,rfl,rfl,_,_,rfl,rfl,rfl⟩
 ·rename_i hlt;cases hf;refine⟨.tuple #[.bool false],w,m,?_,⟨_,rfl,_,_,rfl,rfl,rfl⟩,hr,Grow.refl m h w hr.cT⟩;simp[Instr.next,hd0,hg,fj,hlt]
def AU(kk:CK)(d:TypeDesc):Prop:=
 match kk with
 |.b=>d=.bool
 |.i=>∃i,d=.int i
 |.s=>d=.string
def tZ{t:TypeId}{kk}(hk:yK P t=some kk):∃d,P.underlying t=some d/\AU kk d:=by
 unfold yK at hk;split at hk
 ·rename_i k hu;cases hk;exact⟨_,hu,k,rfl⟩
 ·rename_i hu;cases hk;exact⟨_,hu,rfl⟩
 ·rename_i hu;cases hk;exact⟨_,hu,rfl⟩
 ·cases hk
def zR{kk}{d:TypeDesc}(hd:AU kk d){k k' ck ck' b}(hk:VR m k ck)(hk':VR m k' ck')(he:dJ kk k k' =some b):
  Instr.sameNow d ck ck' =some b:=by
 unfold dJ at he;split at he
 ·rw[VR]at hk hk';subst hk;subst hk';cases hd;cases he;rfl
 ·split at he
  ·rename_i hkk;rw[VR]at hk hk';subst hk;subst hk';subst hkk;obtain⟨i,rfl⟩:=hd;cases he;simp[Instr.sameNow]
  ·cases he
 ·rw[VR]at hk hk';subst hk;subst hk';cases hd;cases he;simp[Instr.sameNow,toList_mk,beq_toListBytes]
 ·cases he
def mU(m:cw):List (AV×AV)->List MapEntry->Prop
 |[],l=>l=[]
 |p::r,l=>∃q s,l=q::s/\VR m p.1 q.key/\VR m p.2 q.val/\mU m r s
theorem mU.iV:∀{es}{l},l.length=es.length->(∀(i:Nat) (p:AV×AV),es[i]? =some p->∃q,l[i]? =some q/\VR m p.1 q.key/\VR m p.2 q.val)->mU m es l
 |[],l,hl,_=>aaO.1 (by simpa using hl)
 |p::r,[],hl,_=>by simp at hl
 |p::r,q::s,hl,h=>by
  obtain⟨q',hq,h1,h2⟩:=h 0 p Si;simp at hq;subst hq;exact⟨q,s,rfl,h1,h2,mU.iV (by simpa using hl) λi p hp=>by simpa using h (i+1) p (by simpa using hp)⟩
theorem mU.get:∀{es}{l},mU m es l->l.length=es.length/\∀(i:Nat) (p:AV×AV),es[i]? =some p->∃q,l[i]? =some q/\VR m p.1 q.key/\VR m p.2 q.val
 |[],l,h=>by cases h;exact⟨rfl,λi p hp=>by simp at hp⟩
 |p::r,l,h=>by
  obtain⟨q,s,rfl,h1,h2,h3⟩:=h;obtain⟨hl,hg⟩:=mU.get h3;refine⟨by simp[hl],λi p' hp=>?_⟩;cases i with
  |zero=>simp at hp;subst hp;exact⟨q,Si,h1,h2⟩
  |succ i=>simpa using hg i p' (by simpa using hp)
theorem sd{kk}{d:TypeDesc}(hd:AU kk d){k ck}(hk:VR m k ck):∀{es}{l}{r}(i:Nat),mU m es l->jW kk k es=some r->
  ∃cr,Instr.findNow d ck l i=some cr/\(match r,cr with|none,none=>True|some v,some (_,cv)=>VR m v cv|_,_=>False)
 |[],l,r,i,h,hf=>by cases h;cases hf;exact⟨none,rfl,trivial⟩
 |(a,v)::es,l,r,i,h,hf=>by
  obtain⟨q,s,rfl,h1,h2,h3⟩:=h;simp only[jW]at hf;cases he:dJ kk k a with
  |none=>simp[he]at hf
  |some b=>
   have hs:=zR hd hk h1 he;cases b with
   |true=>
    simp[he]at hf;subst hf;exact⟨some (i,q.val),by simp[Instr.findNow,hs],h2⟩
   |false=>
    simp only[he]at hf;obtain⟨cr,hcr,hm⟩:=sd hd hk (i+1) h3 hf;exact⟨cr,by simp[Instr.findNow,hs,hcr],hm⟩
def sV{t:TypeId}{d:TypeDesc}{kk}(hu:P.underlying t=some d)(hd:AU kk d)(b:Bool)(v:Value)(n:Nat):(Instr.checkKey b (n+1) t v).run P w=.ok () w:=by
 cases kk with
 |b=>cases hd;cases v<;>simp[Instr.checkKey,aab hu]
 |i=>obtain⟨i,rfl⟩:=hd;cases v<;>simp[Instr.checkKey,aab hu]
 |s=>cases hd;cases v<;>simp[Instr.checkKey,aab hu]
def run_checkKey{t:TypeId}{d:TypeDesc}{kk}(hu:P.underlying t=some d)(hd:AU kk d)(b:Bool)(v:Value):(Instr.checkKey b 10000 t v).run P w=.ok () w:=sV hu hd b v 9999
def H8{t kt e:TypeId}{kk z ok x k cx ck}(hu:P.underlying t=some (.map kt e))(hkk:yK P kt=some kk)(hz:kg P e=some z)(hr:HR P m h w)(hx:VR m (ρ x) cx)(hk:VR m (ρ k) ck)
  (hf:dP (.look kk z ok x k) ρ h=some (v,h')):∃cv,(Instr.lookup t cx ck ok).run P w=.ok cv w/\VR m v cv/\h' =h:=by
 obtain⟨d,hud,hd⟩:=tZ hkk;obtain⟨cz,Vj,VY⟩:=kK hz w m;simp only[dP]at hf;split at hf
 ·rename_i hρ;rw[hρ,VR]at hx;subst hx;cases hf;refine⟨if ok then .tuple #[cz,.bool false]else cz,?_,?_,rfl⟩
  ·simp only[Instr.lookup,aae,aab hu,Z2,aat,run_checkKey hud hd,Instr.findKey,aab hud];simp[Instr.findNow,Vj]
  ·exact KJ
 ·rename_i r hρ;rw[hρ]at hx;obtain⟨en,Ti,rfl⟩:=hx;split at hf
  case h_2=>cases hf
  rename_i es hb;obtain⟨_,UH,clock,hheap,hlen,SG⟩:=hr.eO r en _ Ti hb;have Tk:mU m es UH.toList:=mU.iV (by simpa using hlen) (λi p hp=>by obtain⟨q,hq,h1,h2⟩:=SG i p hp;exact⟨q,by simpa using hq,h1,h2⟩);have hg:=k8 (P:=P) hheap rfl;split at hf
  ·rename_i u US;cases hf;obtain⟨cr,hcr,hm⟩:=sd hd hk 0 Tk US;cases cr with
   |none=>exact hm.elim
   |some p=>
    obtain⟨i,cu⟩:=p;refine⟨if ok then .tuple #[cu,.bool true]else cu,?_,?_,rfl⟩
    ·simp only[Instr.lookup,aae,aab hu,Z2,hg,aat,run_checkKey hud hd,Instr.findKey,aab hud,hcr]
    ·cases ok
     ·exact hm
     ·exact⟨_,rfl,_,_,rfl,hm,_,_,rfl,rfl,rfl⟩
  ·rename_i US;cases hf;obtain⟨cr,hcr,hm⟩:=sd hd hk 0 Tk US;cases cr with
   |some p=>exact hm.elim
   |none=>
    refine⟨if ok then .tuple #[cz,.bool false]else cz,?_,?_,rfl⟩
    ·simp only[Instr.lookup,aae,aab hu,Z2,hg,aat,run_checkKey hud hd,Instr.findKey,aab hud,hcr,Vj]
    ·exact KJ
  ·cases hf
 ·cases hf
theorem VR.sameBits{kk k k' ck ck'}(hk:VR m k ck)(hk':VR m k' ck')(he:dJ kk k k' =some true)(n:Nat):Instr.sameBits n ck' ck=true:=by
 unfold dJ at he;split at he
 ·rw[VR]at hk hk';subst hk;subst hk';simp at he;simp[Instr.sameBits,he]
 ·split at he
  ·rename_i hkk;rw[VR]at hk hk';subst hk;subst hk';subst hkk;simp at he;simp[Instr.sameBits,he]
  ·cases he
 ·rw[VR]at hk hk';subst hk;subst hk';simp at he;subst he;simp[Instr.sameBits,beq_toListBytes]
 ·cases he
theorem zh{kk}{d:TypeDesc}(hd:AU kk d){k x ck cx}(hk:VR m k ck)(hx:VR m x cx)(clock:Nat):∀{es es'}{l}(i:Nat),mU m es l->pK kk k x es=some es'->
  (∃j q,Instr.findNow d ck l i=some (some (i+j,q.val))/\l[j]? =some q/\Instr.sameBits 10000 q.key ck=true/\mU m es' (l.set j {q with key:=ck,val:=cx}))\/
  (Instr.findNow d ck l i=some none/\mU m es' (l++[{key:=ck,val:=cx,born:=clock}]))
 |[],es',l,i,h,hf=>by cases h;cases hf;exact .inr ⟨rfl,_,_,rfl,hk,hx,rfl⟩
 |(a,u)::es,es',l,i,h,hf=>by
  obtain⟨q,s,rfl,h1,h2,h3⟩:=h;simp only[pK]at hf;cases he:dJ kk k a with
  |none=>simp[he]at hf
  |some b=>
   have hs:=zR hd hk h1 he;cases b with
   |true=>
    simp[he]at hf;subst hf;exact .inl ⟨0,q,by simp[Instr.findNow,hs],Si,VR.sameBits hk h1 he 10000,_,_,rfl,hk,hx,h3⟩
   |false=>
    simp only[he,aag]at hf;obtain⟨es2,hes2,rfl⟩:=hf;rcases zh hd hk hx clock (i+1) h3 hes2 with⟨j,q',hj,Yj,hb,hr⟩|⟨hj,hr⟩
    ·exact .inl ⟨j+1,q',by simp[Instr.findNow,hs,hj];omega,by simpa using Yj,hb,_,_,rfl,h1,h2,hr⟩
    ·exact .inr ⟨by simp[Instr.findNow,hs,hj],_,_,rfl,h1,h2,hr⟩
def H6{t kt e:TypeId}{kk x k u cx ck cu}(hu:P.underlying t=some (.map kt e))(hkk:yK P kt=some kk)(hr:HR P m h w)(hx:VR m (ρ x) cx)(hk:VR m (ρ k) ck)(hv:VR m (ρ u) cu)
  (hf:dP (.gy kk x k u) ρ h=some (v,h')):∃w',(Instr.mapUpdate t cx ck cu).run P w=.ok () w'/\v=aA/\HR P m h' w'/\Grow m h w m h' w':=by
 obtain⟨d,hud,hd⟩:=tZ hkk;simp only[dP]at hf;split at hf
 case h_2=>cases hf
 rename_i r hρ;rw[hρ]at hx;obtain⟨en,Ti,rfl⟩:=hx;split at hf
 case h_2=>cases hf
 rename_i es hb;split at hf
 case h_2=>cases hf
 rename_i es' hupd;cases hf;obtain⟨hown,UH,clock,hheap,hlen,SG⟩:=hr.eO r en _ Ti hb;have Tk:mU m es UH.toList:=mU.iV (by simpa using hlen) (λi p hp=>by obtain⟨q,hq,h1,h2⟩:=SG i p hp;exact⟨q,by simpa using hq,h1,h2⟩);have hg:=k8 (P:=P) hheap rfl;have hbl:en.cb<w.heap.size:=(aaa.1 hheap).1;have done:∀(ces':Array MapEntry) (c:Nat),mU m es' ces'.toList->HR P m (h.set r (.bu es')) (w.putObj en.cb (.map ces' c))/\Grow m h w m (h.set r (.bu es')) (w.putObj en.cb (.map ces' c)):=by
  intro ces' c UT;obtain⟨SI,SX⟩:=UT.get;exact kP hr Ti hb rfl (.inl rfl) ⟨hown,ces',c,World.putObj_heap_same hbl,by simpa using SI,λi p hp=>by obtain⟨q,hq,h1,h2⟩:=SX i p hp;exact⟨q,by simpa using hq,h1,h2⟩⟩
 rcases zh hd hk hv clock 0 Tk hupd with⟨j,q,hj,hq,hbits,UT⟩|⟨hj,UT⟩
 ·have Yj:UH[j]? =some q:=by simpa using hq
  obtain⟨h1,h2⟩:=done (UH.modify j λe=>{e with key:=ck,val:=cu}) clock (by
   have:(UH.modify j λe=>{e with key:=ck,val:=cu}).toList=UH.toList.set j {q with key:=ck,val:=cu}:=by
    apply ab7
    intro i;rw[abh,Array.getElem?_modify,List.getElem?_set];by_cases hij:j=i
    ·subst hij;obtain⟨hlt,heq⟩:=aaa.1 Yj;simp[Yj,hlt,heq]
    ·simp[hij]
   rw[this];exact UT)
  refine⟨_,?_,rfl,h1,h2⟩;simp only[Instr.mapUpdate,aae,aab hu,Z2,hg,run_checkKey hud hd,Instr.findKey,aab hud,hj,aat,aaD,Yj,abF,ab0,Instr.keyThatStays,hbits,Z7,nB hheap rfl]
 ·obtain⟨h1,h2⟩:=done (UH.push {key:=ck,val:=cu,born:=clock}) (clock+1) (by simpa using UT);refine⟨_,?_,rfl,h1,h2⟩;simp only[Instr.mapUpdate,aae,aab hu,Z2,hg,run_checkKey hud hd,Instr.findKey,aab hud,hj,aat,nB hheap rfl]
end
section
variable {P:Program}{m:cw}{h h':ah}{w:World}{ρ:dt->AV}{v:AV}
theorem nE(m:cw):∀(s:By),cQ m (s.map λb=>AV.int .u8 b.toNat) (s.map λb=>Value.int .u8 b.toNat)
 |[]=>bE.2 rfl
 |b::s=>aT.2 ⟨_,_,rfl,rfl,nE m s⟩
def rO(s:By):(s.map λb=>AV.int .u8 b.toNat).all AV.one=true:=by
 rw[aas];intro x hx;simp only[aal]at hx;obtain⟨b,_,rfl⟩:=hx;rfl
def cU{es y cy ys k}(hr:HR P m h w)(hy:VR m y cy)(hc:cellsIn es h y=some (ys,k)):
  (Builtin.lenOf cy).run P w=.ok k w/\ys.length=k*es/\ys.all AV.one=true/\
   ∀n,n<=k->∃vs,(Builtin.firstCells es n cy).run P w=.ok ⟨vs⟩ w/\cQ m (ys.take (n*es)) vs:=by
 unfold cellsIn at hc;split at hc
 ·rw[VR]at hy;subst hy;cases hc;exact⟨rfl,Si,rfl,λn hn=>⟨[],by simp[Builtin.firstCells],by simp[bE]⟩⟩
 ·rename_i b o n es';obtain⟨e,ca,cap,he,rfl,SZ,Tl,hroom⟩:=hy;split at hc
  case isFalse=>cases hc
  rename_i hes;subst hes;split at hc
  case h_2=>cases hc
  rename_i c mu tl hb;split at hc
  case isFalse=>cases hc
  rename_i hle;cases hc;obtain⟨_,_,_,hone⟩:=nF hr he hb o (k*es') hle;refine⟨rfl,by simp;omega,hone,λn hn=>?_⟩;have hmul:n*es'<=k*es':=aaU _ hn;by_cases h0:cap=0
  ·have hk0:k=0:=Om
   have Xs:n=0:=Om
   subst Xs;exact⟨[],by simp[Builtin.firstCells,loadCells,loadCellsFrom],by simp[bE]⟩
  ·rw[Tl Om];obtain⟨vs,SB,SU,_⟩:=nF hr he hb o (n*es') Om;refine⟨vs,by simp[Builtin.firstCells,SB],?_⟩;rw[List.take_take,abE hmul];exact SU
 ·rename_i s;rw[VR]at hy;subst hy;split at hc
  case isFalse=>cases hc
  rename_i hes;subst hes;cases hc;refine⟨rfl,Si,rO s,λn hn=>⟨(s.take n).map λb=>Value.int .u8 b.toNat,?_,?_⟩⟩
  ·simp only[Builtin.firstCells,aat,extract_mk];simp
  ·rw[abX,<-List.map_take];exact nE m _
 ·cases hc
theorem tz{cb}{el:TypeId}{fz}:∀(vs:List Value) (p j:Nat) (cc:Array Value) (w:World),w.heap[cb]? =some (.cells cc el fz)->p+j+vs.length<=cc.size->
  (∀i,i<cc.size->¬(fz.1<=i/\i<fz.2))->(∀v∈vs,v.oneCell' =true)->
  ∃w' Tm,(storeCells ⟨cb,p,none⟩ vs j).run P w=.ok () w'/\w'.heap[cb]? =some (.cells Tm el fz)/\Tm.size=cc.size/\
   (∀i,Tm[i]? =if p+j<=i/\i<p+j+vs.length then vs[i-(p+j)]? else cc[i]?)/\(∀k,k≠cb->w'.heap[k]? =w.heap[k]?)/\w'.heap.size=w.heap.size/\w'.os=w.os/\w'.output=w.output/\w'.tape=w.tape
 |[],p,j,cc,w,hw,_,_,_=>⟨w,cc,rfl,hw,rfl,λi=>by simp;omega,λ_ _=>rfl,rfl,rfl,rfl,rfl⟩
 |v::vs,p,j,cc,w,hw,hlen,hfz,hone=>by
  simp only[ZP]at hlen;have Tu:w.cell? ⟨cb,p+j,none⟩=some (cc[p+j]'Om):=by simp only[World.cell?,hw];exact aaF Om
  have hfr:w.frozen? ⟨cb,p+j,none⟩=false:=oS hw (hfz _ Om);have Wo:=heap_setCell_same (i:=p+j) hw v;have T6:(cc.setIfInBounds (p+j) v).size=cc.size:=Si
  obtain⟨w',Tm,h1,h2,h3,h4,h5,h6,h7,h8,h9⟩:=tz vs p (j+1) (cc.setIfInBounds (p+j) v) (w.setCell ⟨cb,p+j,none⟩ v) Wo (by rw[T6];omega) (by rw[T6];exact hfz) (λu hu=>hone u (aao _ hu));refine⟨w',Tm,?_,h2,Om,?_,?_,by simpa using h6,h7,h8,h9⟩
  ·simp only[storeCells,aae];rw[iG,run_store P w _ v .plain (hone v (aaH ..)),Tu];simp only[hfr,aaC,Z3,Z2];exact h1
  ·intro i;rw[h4 i];by_cases hi:i=p+j
   ·subst hi;rw[ZW Om,ZY (by simp only[ZP];omega)];rw[aa4 Om];simp
   ·rw[aby (λx=>hi x.symm)];by_cases hin:p+(j+1)<=i/\i<p+(j+1)+vs.length
    ·rw[ZY hin,ZY (by simp only[ZP];omega)];rw[show i-(p+j)=(i-(p+(j+1)))+1 from by omega];simp
    ·rw[ZW hin,ZW (by simp only[ZP];omega)]
  ·intro k hk;rw[h5 k hk];exact Go.RowKit.Below.heap_setCell w _ v k hk
def EZ(need cap:Nat)(hc:cap<need):Builtin.nextslicecap need cap<=2*need+192:=by
 unfold Builtin.nextslicecap;split
 ·omega
 ·split
  ·omega
  ·have grow:∀(r c:Nat),c<need+(need+768) / 4->Builtin.growBy need r c<=need+(need+768) / 4:=by
    intro r
    induction r with
    |zero=>intro c Wa;simp only[Builtin.growBy];omega
    |succ r ih=>
     intro c Wa;simp only[Builtin.growBy];split
     ·omega
     ·rename_i hlt;have h1:c<need:=Om
      by_cases hh:c+(c+768) / 4<need+(need+768) / 4
      ·exact ih _ hh
      ·have:c+(c+768) / 4<=need+(need+768) / 4:=Om
       have e:c+(c+768) / 4=need+(need+768) / 4:=Om
       rw[e];cases r with
       |zero=>simp[Builtin.growBy]
       |succ r=>simp only[Builtin.growBy];rw[ZY Om];exact Z0 _
   have:=grow 4 cap Om;omega
theorem cQ.wA:∀{l}{vs},cQ m l vs->l.all AV.one=true->∀v∈vs,v.oneCell' =true
 |[],vs,h,_,v,hv=>by rw[bE]at h;subst h;cases hv
 |x::xs,vs,h,h1,v,hv=>by
  obtain⟨y,ys,rfl,hy,hys⟩:=aT.1 h;simp only[abp,aaq]at h1;rcases aap.1 hv with rfl|hv
  ·exact hy.uI h1.1
  ·exact cQ.wA hys h1.2 v hv
def rZ(hr:HR P m h w){b o q e c ys mu mu' k0}(he:m b=some e)(hb:h[b]? =some (.cells c mu true))(hoq:o+q<=c.length)
  (hk0:(k0=.cells c false false/\o+q=c.length/\mu' =false)\/(k0=.dead/\mu=true)) {vs}(hys:cQ m ys vs) (h1:ys.all AV.one=true) (hroom:o+q+e.d+ys.length<=e.sz) (j:Nat):
  ∃w' m',(storeCells ⟨e.cb,o+e.d+q,none⟩ vs 0).run P w=.ok () w'/\m' h.length=some ⟨e.cb,e.d+o,e.sz,true⟩/\
   HR P m' (h.set b k0++[.cells ((c.drop o).take q++ys) mu' true]) w'/\Grow m h w m' (h.set b k0++[.cells ((c.drop o).take q++ys) mu' true]) w':=by
 have _:=j;obtain⟨cc,el,fz,hw,⟨hle,hle'⟩,SG,hown,hmt⟩:=hr.eO b e _ he hb;have ho:e.own=true:=(hmt (.inr rfl)).1;obtain⟨fj,hfz⟩:=hown ho;have hlv:=hys.length;obtain⟨w',Tm,SB,hw',SO,hcc',hoth,hhs,hos,hout,htape⟩:=tz (P:=P) vs (o+e.d+q) 0 cc w hw Om hfz (hys.wA h1);have hbl:b<h.length:=hr.cT _ _ he
 let e':tq:=⟨e.cb,e.d+o,e.sz,true⟩
 have TI:m h.length=none:=by
  exact NT
 have Vd:m.le (m.add h.length e'):=cw.sH e' TI;have hlen:(h.set b k0).length=h.length:=Si
 have Wm:∀b2 e2 k2,b2≠b->m b2=some e2->h[b2]? =some k2->k2.live=true->e2.cb=e.cb->mu=false/\∃c2,k2=.cells c2 false false/\e2.d+c2.length<=e.d+c.length:=by
  intro b2 e2 k2 hne SJ Sy hl hcb;have:=hr.sep b b2 e e2 _ k2 (λx=>hne x.symm) he SJ hb Sy hcb.symm;cases k2 with
  |cells c2 mu2 tl2=>
   obtain⟨Un,Xu,ht⟩:=this;obtain⟨ht2,UC⟩:=ht rfl;subst Xu;subst ht2;exact⟨Un,c2,rfl,UC⟩
  |dead=>cases hl
  |bu _=>exact this.elim
  |iter _ _=>exact this.elim
  |loop _ _ _ _ _ _=>exact this.elim
 have Vy:∀i,i<e.d+o+q->Tm[i]? =cc[i]? :=by
  intro i hi;rw[hcc' i,ZW Om]
 have hnew:BR P (m.add h.length e') w' e' (.cells ((c.drop o).take q++ys) mu' true):=by
  refine⟨Tm,el,fz,hw',⟨?_,?_,(by rw[SO,fj])⟩,?_,λ_=>⟨by rw[SO,fj],λi hi=>hfz i Om⟩,λ_=>⟨rfl,λx=>by cases x⟩⟩
  ·show e.d+o+((c.drop o).take q++ys).length<=Tm.size;simp;omega
  ·show e.d+o+((c.drop o).take q++ys).length<=e.sz;simp;omega
  ·intro i x hx;by_cases hi:i<q
   ·rw[ZQ (by simp;omega),abR hi,ab2]at hx;obtain⟨hone,v,hv,Sz⟩:=SG (o+i) x hx;refine⟨hone,v,?_,VR.mono Vd _ _ Sz⟩;show Tm[e.d+o+i]? =some v;rw[Vy _ Om,show e.d+o+i=e.d+(o+i)from by omega];exact hv
   ·have VZ:((c.drop o).take q).length=q:=by simp;omega
    rw[Z1 Om,VZ]at hx;obtain⟨v,hv,Sz⟩:=hys.get hx;have hlt:i-q<ys.length:=(ZM.1 hx).1;refine⟨aas.1 h1 x (aaK hx),v,?_,VR.mono Vd _ _ Sz⟩;show Tm[e.d+o+i]? =some v;rw[hcc',ZY Om,show e.d+o+i-(o+e.d+q+0)=i-q from by omega];exact hv
 have hbr0:∀b2 e2 k2,m b2=some e2->(h.set b k0)[b2]? =some k2->BR P (m.add h.length e') w' e2 k2:=by
  intro b2 e2 k2 SJ Sy;rw[bJ h b b2 _ hbl]at Sy;by_cases hbb:b2=b
  ·subst hbb;rw[ZY rfl]at Sy;cases Sy;rw[he]at SJ;cases SJ;rcases hk0 with⟨rfl,hcl,_⟩|⟨rfl,_⟩
   ·refine⟨Tm,el,fz,hw',⟨Om,Om⟩,?_,λ_=>⟨by rw[SO,fj],λi hi=>hfz i Om⟩,λx=>by rcases x with x|x<;>cases x⟩;intro i x hx;obtain⟨hone,v,hv,Sz⟩:=SG i x hx;have hi:i<c.length:=(ZM.1 hx).1;exact KI
   ·trivial
  ·rw[ZW hbb]at Sy;have h0:=hr.eO b2 e2 k2 SJ Sy;by_cases hl:k2.live=true
   ·by_cases hcb:e2.cb=e.cb
    ·obtain⟨hmf,c2,rfl,UC⟩:=Wm b2 e2 k2 hbb SJ Sy hl hcb;rcases hk0 with⟨_,hcl,_⟩|⟨_,Wx⟩
     ·obtain⟨cc2,el2,fz2,hw2,⟨hle2a,hle2b⟩,hget2,hown2,hmt2⟩:=h0;rw[hcb,hw]at hw2;cases hw2;refine⟨Tm,el,fz,by rw[hcb];exact hw',⟨Om,Om⟩,?_,λho2=>by have:=hown2 ho2;exact⟨Om,λi hi=>this.2 i Om⟩,hmt2⟩;intro i x hx;obtain⟨hone,v,hv,Sz⟩:=hget2 i x hx;have hi:i<c2.length:=(ZM.1 hx).1;exact KI
     ·rw[hmf]at Wx;cases Wx
    ·exact(h0.mono Vd).heap (hoth _ hcb)
   ·exact z152
 have hget0:∀b2 k2,b2<h.length->(h.set b k0++[.cells ((c.drop o).take q++ys) mu' true])[b2]? =some k2->(h.set b k0)[b2]? =some k2:=by
  intro b2 k2 hlt Sy
  rwa [ZQ Om]at Sy
 have hsep1:∀b2 e2 k2,m b2=some e2->(h.set b k0)[b2]? =some k2->e2.cb=e.cb->ql e' e2 (.cells ((c.drop o).take q++ys) mu' true) k2/\ql e2 e' k2 (.cells ((c.drop o).take q++ys) mu' true):=by
  intro b2 e2 k2 SJ Sy hcb;rw[bJ h b b2 _ hbl]at Sy;by_cases hbb:b2=b
  ·subst hbb;rw[ZY rfl]at Sy;cases Sy;rw[he]at SJ;cases SJ;rcases hk0 with⟨rfl,hcl,rfl⟩|⟨rfl,_⟩
   ·refine⟨⟨rfl,rfl,λ_=>⟨rfl,?_⟩⟩,⟨rfl,rfl,λx=>by cases x⟩⟩;show e.d+c.length<=e.d+o+((c.drop o).take q++ys).length;simp;omega
   ·exact⟨trivial,trivial⟩
  ·rw[ZW hbb]at Sy;by_cases hl:k2.live=true
   ·obtain⟨hmf,c2,rfl,UC⟩:=Wm b2 e2 k2 hbb SJ Sy hl hcb;rcases hk0 with⟨_,hcl,rfl⟩|⟨_,Wx⟩
    ·refine⟨⟨rfl,rfl,λ_=>⟨rfl,?_⟩⟩,⟨rfl,rfl,λx=>by cases x⟩⟩;show e2.d+c2.length<=e.d+o+((c.drop o).take q++ys).length;simp;omega
    ·rw[hmf]at Wx;cases Wx
   ·cases k2<;>first|exact⟨trivial,trivial⟩|exact absurd rfl hl
 have hsep2:∀b1 b2 e1 e2 k1 k2,b1≠b2->m b1=some e1->m b2=some e2->(h.set b k0)[b1]? =some k1->(h.set b k0)[b2]? =some k2->e1.cb=e2.cb->ql e1 e2 k1 k2:=by
  intro b1 b2 e1 e2 k1 k2 hne T0 SJ hk1 Sy hcb;rw[bJ h b _ _ hbl]at hk1 Sy;by_cases Ta:b1=b
  ·subst Ta;rw[ZY rfl]at hk1;cases hk1;rw[ZW (λx=>hne x.symm)]at Sy;have:=hr.sep b1 b2 e1 e2 _ k2 hne T0 SJ hb Sy hcb;rcases hk0 with⟨rfl,_⟩|⟨rfl,_⟩
   ·cases k2<;>first|exact⟨rfl,this.2.1,λx=>by cases x⟩|trivial|exact this
   ·trivial
  ·rw[ZW Ta]at hk1;by_cases To:b2=b
   ·subst To;rw[ZY rfl]at Sy;cases Sy;have:=hr.sep b1 b2 e1 e2 k1 _ hne T0 SJ hk1 hb hcb;rcases hk0 with⟨rfl,_⟩|⟨rfl,_⟩
    ·cases k1<;>first|exact⟨this.1,rfl,λx=>absurd (this.2.2 x).1 Si⟩|trivial|exact this
    ·cases k1<;>trivial
   ·exact NS
 refine⟨w',m.add h.length e',by simpa using SB,by simp[cw.add,e'],⟨?_,?_,?_,?_,?_⟩,⟨?_,Si,?_,?_,Om,hos,hout,htape,?_⟩⟩
 ·intro b2 e2 To;unfold cw.add at To;by_cases hx:b2=h.length
  ·subst hx;simp
  ·rw[ZW hx]at To;have:=hr.cT _ _ To;simp;omega
 ·intro b2 e2 k2 SJ Sy;unfold cw.add at SJ;by_cases hx:b2=h.length
  ·subst hx;rw[ZY rfl]at SJ;cases SJ;rw[Z1 Om]at Sy;simp at Sy;subst Sy;exact hnew
  ·rw[ZW hx]at SJ;exact hbr0 b2 e2 k2 SJ (hget0 b2 k2 (hr.cT _ _ SJ) Sy)
 ·intro b1 b2 e1 e2 k1 k2 hne T0 SJ hk1 Sy hcb;unfold cw.add at T0 SJ;by_cases hx1:b1=h.length
  ·subst hx1;rw[ZY rfl]at T0;cases T0;rw[ZW (λx=>hne x.symm)]at SJ;rw[Z1 Om]at hk1;simp at hk1;subst hk1;exact(hsep1 b2 e2 k2 SJ (hget0 b2 k2 (hr.cT _ _ SJ) Sy) hcb.symm).1
  ·rw[ZW hx1]at T0;have hk1':=hget0 b1 k1 (hr.cT _ _ T0) hk1;by_cases VH:b2=h.length
   ·subst VH;rw[ZY rfl]at SJ;cases SJ;rw[Z1 Om]at Sy;simp at Sy;subst Sy;exact(hsep1 b1 e1 k1 T0 hk1' hcb).2
   ·rw[ZW VH]at SJ;exact hsep2 b1 b2 e1 e2 k1 k2 hne T0 SJ hk1' (hget0 b2 k2 (hr.cT _ _ SJ) Sy) hcb
 ·intro g hg;obtain⟨x,hx,h2⟩:=hr.gS g hg;exact⟨x,Vd _ _ hx,h2⟩
 ·intro b2 e2 SJ;unfold cw.add at SJ;by_cases hx:b2=h.length
  ·rw[ZY hx]at SJ;cases SJ;have:=hr.lt _ _ he;show e.cb<_;omega
  ·rw[ZW hx]at SJ;have:=hr.lt _ _ SJ;omega
 ·intro b2 To;unfold cw.add;rw[ZW Om]
 ·intro b2 e2 To SJ;unfold cw.add at SJ;by_cases hx:b2=h.length
  ·rw[ZY hx]at SJ;cases SJ;refine⟨rfl,.inr ⟨b,e,he,rfl,ho,by simp[fk,hb],?_⟩⟩;unfold fk;rw[ZQ Om,bJ h b b _ hbl,ZY rfl];rcases hk0 with⟨rfl,_⟩|⟨rfl,_⟩<;>rfl
  ·rw[ZW hx]at SJ;exact absurd (hr.cT _ _ SJ) Om
 ·intro b2 To ht;unfold fk at ht ⊢;rw[ZQ Om,bJ h b b2 _ hbl]at ht;by_cases hbb:b2=b
  ·subst hbb;rw[ZY rfl]at ht;rcases hk0 with⟨rfl,_⟩|⟨rfl,_⟩<;>cases ht
  ·exact Eb
 ·intro i hi hno;exact hoth i (λx=>hno b e he ho x.symm)
end
section
variable {P:Program}{m:cw}{h h':ah}{w:World}{ρ:dt->AV}{v:AV}
def y6:an->an->Prop
 |.cells c mu tl,k=>k=.dead\/∃mu' tl',k=.cells c mu' tl'/\(mu' =true->mu=true/\(tl' =false->tl=false))/\(tl' =true->tl=true)
 |k,k'=>k' =.dead\/k' =k
def y6.OJ{e1 e2 k k' k2}(hw:y6 k k')(hs:ql e1 e2 k k2):ql e1 e2 k' k2:=by
 cases k with
 |cells c mu tl=>
  rcases hw with rfl|⟨mu',tl',rfl,hm,ht⟩
  ·trivial
  ·cases k2 with
   |cells c2 mu2 tl2=>
    refine⟨?_,hs.2.1,λx=>hs.2.2 (ht x)⟩;cases mu' with
    |false=>rfl
    |true=>have:=hs.1;rw[(hm rfl).1]at this;cases this
   |_=>first|trivial|exact hs
 |dead=>rcases hw with rfl|rfl<;>trivial
 |bu es=>rcases hw with rfl|rfl<;>first|trivial|exact hs
 |iter s p=>rcases hw with rfl|rfl<;>first|trivial|exact hs
 |loop a b c d e f=>rcases hw with rfl|rfl<;>first|trivial|exact hs
def y6.OI{e1 e2 k k' k1}(hw:y6 k k')(hs:ql e1 e2 k1 k):ql e1 e2 k1 k':=by
 cases k with
 |cells c mu tl=>
  rcases hw with rfl|⟨mu',tl',rfl,hm,ht⟩
  ·cases k1<;>trivial
  ·cases k1 with
   |cells c1 mu1 tl1=>
    refine⟨hs.1,?_,λx=>⟨?_,(hs.2.2 x).2⟩⟩
    ·cases mu' with
     |false=>rfl
     |true=>have:=hs.2.1;rw[(hm rfl).1]at this;cases this
    ·cases tl' with
     |false=>rfl
     |true=>have:=(hs.2.2 x).1;rw[ht rfl]at this;cases this
   |_=>first|trivial|exact hs
 |dead=>rcases hw with rfl|rfl<;>cases k1<;>trivial
 |bu es=>rcases hw with rfl|rfl<;>first|exact hs|(cases k1<;>trivial)
 |iter s p=>rcases hw with rfl|rfl<;>first|exact hs|(cases k1<;>trivial)
 |loop a b c d e f=>rcases hw with rfl|rfl<;>first|exact hs|(cases k1<;>trivial)
def y6.br{e k k'}(hw:y6 k k')(hb:BR P m w e k):BR P m w e k':=by
 cases k with
 |cells c mu tl=>
  rcases hw with rfl|⟨mu',tl',rfl,hm,ht⟩
  ·trivial
  ·obtain⟨cc,el,fz,h1,h2,h3,h4,h5⟩:=hb;refine⟨cc,el,fz,h1,h2,h3,h4,λx=>⟨(h5 (x.elim (λy=>.inl (hm y).1) (λy=>.inr (ht y)))).1,λy=>?_⟩⟩;rcases x with x|x
   ·exact(h5 (.inl (hm x).1)).2 ((hm x).2 y)
   ·rw[x]at y;cases y
 |dead=>rcases hw with rfl|rfl<;>trivial
 |bu es=>rcases hw with rfl|rfl<;>first|trivial|exact hb
 |iter s p=>rcases hw with rfl|rfl<;>first|trivial|exact hb
 |loop a b c d e f=>rcases hw with rfl|rfl<;>first|trivial|exact hb
def xy(hr:HR P m h w){b k k'}(hb:h[b]? =some k)(hk:y6 k k'):HR P m (h.set b k') w/\Grow m h w m (h.set b k') w:=by
 have hbl:b<h.length:=(ZM.1 hb).1;refine⟨⟨?_,?_,?_,hr.gS,hr.lt⟩,⟨λ_ _=>rfl,Si,?_,?_,Z0 _,rfl,rfl,rfl,λ_ _ _=>rfl⟩⟩
 ·intro b' e' hb';simpa using hr.cT b' e' hb'
 ·intro b' e' k2 TG Sy;rw[bJ h b b' _ hbl]at Sy;by_cases hbb:b' =b
  ·subst hbb;rw[ZY rfl]at Sy;cases Sy;exact hk.br (hr.eO b' e' k TG hb)
  ·rw[ZW hbb]at Sy;exact hr.eO b' e' k2 TG Sy
 ·intro b1 b2 e1 e2 k1 k2 hne T0 SJ hk1 Sy hcb;rw[bJ h b _ _ hbl]at hk1 Sy;by_cases Ta:b1=b
  ·subst Ta;rw[ZY rfl]at hk1;cases hk1;rw[ZW (λx=>hne x.symm)]at Sy;exact hk.OJ (hr.sep b1 b2 e1 e2 k k2 hne T0 SJ hb Sy hcb)
  ·rw[ZW Ta]at hk1;by_cases To:b2=b
   ·subst To;rw[ZY rfl]at Sy;cases Sy;exact hk.OI (hr.sep b1 b2 e1 e2 k1 k hne T0 SJ hk1 hb hcb)
   ·exact NS
 ·intro b' e' hb' TG;exact absurd (hr.cT _ _ TG) Om
 ·intro b' hb' ht;unfold fk at ht ⊢;rw[bJ h b b' _ hbl]at ht;by_cases hbb:b' =b
  ·subst hbb;rw[ZY rfl]at ht;rw[hb];cases k with
   |cells c mu tl=>
    rcases hk with rfl|⟨mu',tl',rfl,_,h2⟩
    ·cases ht
    ·exact h2 ht
   |dead=>rcases hk with rfl|rfl<;>cases ht
   |bu es=>rcases hk with rfl|rfl<;>cases ht
   |iter s p=>rcases hk with rfl|rfl<;>cases ht
   |loop a b c d e f=>rcases hk with rfl|rfl<;>cases ht
  ·exact Eb
def kY(hr:HR P m h w){c vs}(hc:cQ m c vs)(h1:c.all AV.one=true)(rest:List Value)(el:TypeId)(mu tl:Bool)(hml:mu=true->tl=true):
  ∃m',m' h.length=some ⟨w.heap.size,0,vs.length+rest.length,true⟩/\HR P m' (h++[.cells c mu tl]) (w.alloc (.cells ⟨vs++rest⟩ el))/\Grow m h w m' (h++[.cells c mu tl]) (w.alloc (.cells ⟨vs++rest⟩ el)):=by
 have hl:=hc.length;refine⟨_,by simp[cw.add],kZ hr (.cells ⟨vs++rest⟩ el) (.cells c mu tl) ⟨w.heap.size,0,vs.length+rest.length,true⟩ rfl rfl (λm' hm=>?_)⟩;refine⟨⟨vs++rest⟩,el,(0,0),World.alloc_heap_new w _,⟨by simp;omega,by refine⟨?_,Si⟩;show 0+c.length<=vs.length+rest.length;omega⟩,?_,λ_=>⟨Si,λi _=>by simp⟩,λx=>⟨rfl,λy=>by
  rcases x with x|x
  ·rw[hml x]at y;cases y
  ·rw[x]at y;cases y⟩⟩
 intro i x hx;obtain⟨v,hv,Sz⟩:=hc.get hx;have hi:i<c.length:=(ZM.1 hx).1;refine⟨aas.1 h1 x (aaK hx),v,?_,VR.mono hm _ _ Sz⟩;show(⟨vs++rest⟩:Array Value)[0+i]? =some v;rw[aaD,abi,ZQ Om];exact hv
def nZ{sT xT e:TypeId}{i:TypeInfo}{y ts}(hts0:ts[0]? =some sT)(hts1:ts[1]? =some xT)(hs:eT P sT=some (e,i))(hbytes:0<i.bytes)(hbytes':i.bytes<=2^20)
  {d:TypeDesc}(hud:P.underlying xT=some d) (hdk:∀k,d≠.int k) {cz}(hz:(zeroValue e).run P w.drew=.ok cz w.drew) {base}{n cap k}(hcap:cap<n+k) (hb:(n+k)*i.bytes<=2^46)
  (hlen:(Builtin.lenOf y).run P w=.ok k w) {vo vn}(ho:(Builtin.firstCells i.size n (.slice base n cap)).run P w.drew=.ok ⟨vo⟩ w.drew) (hn:(Builtin.firstCells i.size k y).run P w.drew=.ok ⟨vn⟩ w.drew) (T:TypeId) (fj:i.size=cz.cells.size):
  ∃newCap rest,n+k<=newCap/\rest.length=(newCap-(n+k))*i.size/\
   (Builtin.append_ ts T #[.slice base n cap,y]).run P w=.ok (.slice (some ⟨w.heap.size,0,none⟩) (n+k) newCap) (w.drew.alloc (.cells ⟨vo++vn++rest⟩ e)):=by
 obtain⟨hu,hi⟩:=fT hs;have Wv:=EZ (n+k) cap hcap;have hno:¬(Builtin.nextslicecap (n+k) cap*i.bytes > 2^48):=by
  have h1:Builtin.nextslicecap (n+k) cap*i.bytes<=(2*(n+k)+192)*i.bytes:=aaU _ Wv;have h2:(2*(n+k)+192)*i.bytes=2*((n+k)*i.bytes)+192*i.bytes:=by rw[ab3,Nat.mul_assoc]
  omega
 obtain⟨q,hq⟩:∃q:Question,q=.appendCap (n+k) cap e:=⟨_,rfl⟩;obtain⟨nc,Ww⟩:∃nc:Nat,nc=q.cut (w.tape w.drawn q):=⟨_,rfl⟩;have Xr:n+k<=nc:=by rw[Ww,hq];show n+k<=(n+k)+_;omega
 have Uv:(match d with|.int _=>true|_=>false)=false:=by
  cases d<;>first|rfl|exact absurd rfl (hdk _)
 have SP:∀w,(sizeOf e).run P w=.ok i.size w:=λw=>cB (by simp[eQ,hi]) w
 have WJ:∀w,(typeInfo e).run P w=.ok i w:=λw=>by simp[typeInfo,hi]
 have TR:¬(i.bytes=0):=Om
 have UF:(choose (.appendCap (n+k) cap e)).run P w=.ok nc w.drew:=by
  rw[run_choose,Ww,hq];rfl
 refine⟨nc,(Builtin.zeroCells cz.cells (nc-(n+k))).toList,Xr,by simp[Builtin.zeroCells,fj],?_⟩;simp only[Builtin.append_,hts0,hts1,abi,aaY,aa9,aae,aab hu,Z2,SP,aab hud,aat,Uv,
  aaC,Z3,hlen,Nat.not_le.2 hcap]
 simp only[Sem.run_ite,aae,WJ,Z2,hno,Z3,TR,abm,and_false,aaC,UF,run_askRoom,ho,hn,hz,aai,Z7,newRow,run_newObj,aat];have earr:((⟨vo⟩:Array Value)++⟨vn⟩++Builtin.zeroCells cz.cells (nc-(n+k)))=⟨vo++vn++(Builtin.zeroCells cz.cells (nc-(n+k))).toList⟩:=by
  apply acf
  simp
 rw[earr];rfl
def nf{c:List AV}{o q:Nat}(h:o+q=c.length):(c.drop o).take q=c.drop o:=aau (by simp;omega)
def LY{sT xT e:TypeId}{i:TypeInfo}{ts:Array TypeId}(hts0:ts[0]? =some sT)(hts1:ts[1]? =some xT)(hs:eT P sT=some (e,i))(hspos:0<i.size)(hbytes:0<i.bytes)(hbytes':i.bytes<=2^20)
  {d:TypeDesc}(hud:P.underlying xT=some d) (hdk:∀k,d≠.int k) {z:AV}(hz:i.zero.bind (mT 4)=some z) (hzs:z.cells.length=i.size)
  (hr:HR P m h w) {x y:AV}{cx cy:Value}(hx:VR m x cx) (hy:VR m y cy) (hf:ya i.size i.bytes x y h v h') (T:TypeId):
  ∃cv w' m',(Builtin.append_ ts T #[cx,cy]).run P w=.ok cv w'/\VR m' v cv/\HR P m' h' w'/\Grow m h w m' h' w':=by
 obtain⟨hu,hi⟩:=fT hs;have hzA:kg P e=some z:=by simp[kg,hi,hz]
 obtain⟨cz,Vj,VY⟩:=kK hzA w.drew m;have XI:i.size=cz.cells.size:=by have:=VY.cells.length;simp at this;omega
 have SP:∀w,(sizeOf e).run P w=.ok i.size w:=λw=>cB (by simp[eQ,hi]) w
 have Uv:(match d with|.int _=>true|_=>false)=false:=by
  cases d<;>first|rfl|exact absurd rfl (hdk _)
 have room:∀{base:Option Addr}{n cap k:Nat}{vn:List Value}{w1:World},n+k<=cap->(Builtin.lenOf cy).run P w=.ok k w->(Builtin.firstCells i.size k cy).run P w=.ok ⟨vn⟩ w->
   (match base with|some a=>(storeCells (a.add (n*i.size)) vn).run P w=.ok () w1|none=>w1=w)->
   (Builtin.append_ ts T #[.slice base n cap,cy]).run P w=.ok (.slice base (n+k) cap) w1:=by
  intro base n cap k vn w1 hle hlen SH bP;cases base with
  |none=>
   subst bP;simp only[Builtin.append_,hts0,hts1,abi,aaY,aa9,aae,aab hu,Z2,SP,aab hud,aat,Uv,
    aaC,Z3,hlen,hle,Z7,aai,SH]
  |some a=>
   simp only at bP;simp only[Builtin.append_,hts0,hts1,abi,aaY,aa9,aae,aab hu,Z2,SP,aab hud,aat,Uv,
    aaC,Z3,hlen,hle,Z7,aai,SH,bP]
 cases hf with
 |none Ue SY=>
  obtain⟨hlen,_,_,SH⟩:=cU hr hy Ue;obtain⟨vn,UK,Sz⟩:=SH 0 (Z0 _);have Za:vn=[]:=by simp[bE]at Sz;exact Sz
  subst Za;rcases SY with rfl|⟨b,o,n,rfl⟩
  ·rw[VR]at hx;subst hx;exact⟨.slice none 0 0,w,m,room Om hlen UK rfl,rfl,hr,Grow.refl m h w hr.cT⟩
  ·have hx0:=hx;obtain⟨en,ca,cap,Ti,rfl,SZ,Tl,hroom⟩:=hx;exact⟨.slice (some ca) n cap,w,m,room Om hlen UK (by simp[storeCells]),hx0,hr,Grow.refl m h w hr.cT⟩
 |new ys k mu Ue hk hb SY=>
  subst SY;rw[VR]at hx;subst hx;obtain⟨hlen,Uk,hone,_⟩:=cU hr hy Ue;obtain⟨_,_,_,SH⟩:=cU hr.drew hy Ue;obtain⟨vn,UK,Sz⟩:=SH k (Z0 _);rw[aau Om]at Sz;obtain⟨nc,rest,Xr,Tb,SB⟩:=nZ (n:=0) (cap:=0) (base:=none) (vo:=[]) hts0 hts1 hs hbytes hbytes' hud hdk Vj Om (by rw[aaD];exact hb) hlen (by simp[Builtin.firstCells]) UK T XI;obtain⟨m',h0,h1,h2⟩:=kY hr.drew Sz hone rest e mu true (λ_=>rfl);have Tf:=Sz.length;refine⟨_,_,m',SB,⟨_,_,nc,h0,by rw[aaD];rfl,Om,λ_=>rfl,?_⟩,by simpa using h1,by simpa using h2.Dj⟩;show 0+0+nc*i.size<=vn.length+rest.length;rw[Tb,Tf,Uk];have:nc*i.size=k*i.size+(nc-(0+k))*i.size:=by rw[<-ab3];congr 1;omega
  omega
 |on ys k b o n c mu Ue hk hb SY hc hl=>
  subst SY;obtain⟨en,ca,cap,Ti,rfl,SZ,Tl,hroom⟩:=hx;obtain⟨hlen,Uk,hone,SH⟩:=cU hr hy Ue;have Xo:cellsIn i.size h (.slice b o n i.size)=some ((c.drop o).take (n*i.size),n):=by simp[cellsIn,hc];omega
  have hdt:=nf hl;by_cases WW:n+k<=cap
  ·obtain⟨vn,UK,Sz⟩:=SH k (Z0 _);rw[aau Om]at Sz;have W9:=Tl Om;have hr1:(n+k)*i.size<=cap*i.size:=aaU _ WW;rw[ab3]at hr1;obtain⟨w',m',h0,h1,h2,h3⟩:=rZ (mu':=false) (k0:=.cells c false false) (q:=n*i.size) hr Ti hc Om (.inl ⟨rfl,hl,rfl⟩) Sz hone Om 0;rw[hdt]at h2 h3;exact z51
  ·obtain⟨_,_,_,hfo⟩:=cU hr.drew (y:=.slice b o n i.size) ⟨en,ca,cap,Ti,rfl,SZ,Tl,hroom⟩ Xo;obtain⟨vo,hvo,T5⟩:=hfo n (Z0 _);obtain⟨_,_,T8,_⟩:=cU hr (y:=.slice b o n i.size) ⟨en,ca,cap,Ti,rfl,SZ,Tl,hroom⟩ Xo;obtain⟨_,_,_,TN⟩:=cU hr.drew hy Ue;obtain⟨vn,UK,Sz⟩:=TN k (Z0 _);rw[aau Om]at Sz;rw[aau (by simp;omega),hdt]at T5;rw[hdt]at T8;obtain⟨nc,rest,Xr,Tb,SB⟩:=nZ hts0 hts1 hs hbytes hbytes' hud hdk Vj Om hb hlen hvo UK T XI;obtain⟨g1,g2⟩:=xy (k':=.cells c false false) hr hc (.inr ⟨false,false,rfl,λx=>(by cases x),λx=>(by cases x)⟩);obtain⟨m',h0,h1,h2⟩:=kY g1.drew (T5.append Sz) (by simp[T8,hone]) rest e false true (λ_=>rfl)
   have SQ:(h.set b (.cells c false false)).length=h.length:=Si
   rw[SQ]at h0;have Tf:=Sz.length;have Y9:=T5.length;refine⟨_,_,m',SB,⟨_,_,nc,h0,rfl,Xr,λ_=>rfl,?_⟩,h1,(g2.drew.trans h2 hr.cT)⟩;exact Ol
 |over ys k b o n c mu Ue hk hb SY hc hl=>
  subst SY;obtain⟨en,ca,cap,Ti,rfl,SZ,Tl,hroom⟩:=hx;obtain⟨hlen,Uk,hone,SH⟩:=cU hr hy Ue;have Xo:cellsIn i.size h (.slice b o n i.size)=some ((c.drop o).take (n*i.size),n):=by simp[cellsIn,hc];omega
  by_cases WW:n+k<=cap
  ·obtain⟨vn,UK,Sz⟩:=SH k (Z0 _);rw[aau Om]at Sz;have W9:=Tl Om;have hr1:(n+k)*i.size<=cap*i.size:=aaU _ WW;rw[ab3]at hr1;obtain⟨w',m',h0,h1,h2,h3⟩:=rZ (mu':=mu) (k0:=.dead) (q:=n*i.size) hr Ti hc Om (.inr ⟨rfl,rfl⟩) Sz hone Om 0;exact z51
  ·obtain⟨_,_,_,hfo⟩:=cU hr.drew (y:=.slice b o n i.size) ⟨en,ca,cap,Ti,rfl,SZ,Tl,hroom⟩ Xo;obtain⟨vo,hvo,T5⟩:=hfo n (Z0 _);obtain⟨_,_,T8,_⟩:=cU hr (y:=.slice b o n i.size) ⟨en,ca,cap,Ti,rfl,SZ,Tl,hroom⟩ Xo;obtain⟨_,_,_,TN⟩:=cU hr.drew hy Ue;obtain⟨vn,UK,Sz⟩:=TN k (Z0 _);rw[aau Om]at Sz;rw[aau (by simp;omega)]at T5;obtain⟨nc,rest,Xr,Tb,SB⟩:=nZ hts0 hts1 hs hbytes hbytes' hud hdk Vj Om hb hlen hvo UK T XI;obtain⟨g1,g2⟩:=xy (k':=.dead) hr hc (.inl rfl);obtain⟨m',h0,h1,h2⟩:=kY g1.drew (T5.append Sz) (by rw[abS,T8,hone];rfl) rest e mu true (λ_=>rfl);have SQ:(h.set b .dead).length=h.length:=Si
   rw[SQ]at h0;have Tf:=Sz.length;have Y9:=T5.length;refine⟨_,_,m',SB,⟨_,_,nc,h0,rfl,Xr,λ_=>rfl,?_⟩,h1,(g2.drew.trans h2 hr.cT)⟩;exact Ol
 |full ys k b o n c Ue hk hb SY hc hl=>
  subst SY;obtain⟨en,ca,cap,Ti,rfl,SZ,Tl,hroom⟩:=hx;obtain⟨hlen,Uk,hone,SH⟩:=cU hr hy Ue;have Xo:cellsIn i.size h (.slice b o n i.size)=some ((c.drop o).take (n*i.size),n):=by simp[cellsIn,hc];omega
  have hdt:=nf hl;have Yq:cap<=n:=by
   obtain⟨_,_,_,_,_,_,_,hex⟩:=hr.eO b en _ Ti hc;have he:=(hex (.inl rfl)).2 rfl;by_cases hle:cap<=n
   ·exact hle
   ·have h2:(n+1)*i.size<=cap*i.size:=aaU _ Om;rw[aa5]at h2;omega
  obtain⟨_,_,_,hfo⟩:=cU hr.drew (y:=.slice b o n i.size) ⟨en,ca,cap,Ti,rfl,SZ,Tl,hroom⟩ Xo;obtain⟨vo,hvo,T5⟩:=hfo n (Z0 _);obtain⟨_,_,T8,_⟩:=cU hr (y:=.slice b o n i.size) ⟨en,ca,cap,Ti,rfl,SZ,Tl,hroom⟩ Xo;obtain⟨_,_,_,TN⟩:=cU hr.drew hy Ue;obtain⟨vn,UK,Sz⟩:=TN k (Z0 _);rw[aau Om]at Sz;rw[aau (by simp;omega),hdt]at T5;rw[hdt]at T8;obtain⟨nc,rest,Xr,Tb,SB⟩:=nZ hts0 hts1 hs hbytes hbytes' hud hdk Vj Om hb hlen hvo UK T XI;obtain⟨m',h0,h1,h2⟩:=kY hr.drew (T5.append Sz) (by simp[T8,hone]) rest e true true (λ_=>rfl);have Tf:=Sz.length;have Y9:=T5.length;refine⟨_,_,m',SB,⟨_,_,nc,h0,rfl,Xr,λ_=>rfl,?_⟩,h1,h2.Dj⟩
  exact Ol
def En(n es cap:Nat)(h:n<=cap):n*es<=cap*es:=aaU _ h
def LW{dT e:TypeId}{i:TypeInfo}{ts}(hts0:ts[0]? =some dT)(hs:eT P dT=some (e,i))(hspos:0<i.size)
  (hr:HR P m h w) {x y}{cx cy}(hx:VR m (ρ x) cx) (hy:VR m (ρ y) cy) (hf:dP (.Ae i.size x y) ρ h=some (v,h')) (T:TypeId):
  ∃cv w' m',(Builtin.copy_ ts T #[cx,cy]).run P w=.ok cv w'/\VR m' v cv/\HR P m' h' w'/\Grow m h w m' h' w':=by
 obtain⟨hu,hi⟩:=fT hs;have SP:∀w,(sizeOf e).run P w=.ok i.size w:=λw=>cB (by simp[eQ,hi]) w
 simp only[dP]at hf;split at hf
 ·rename_i b o n es' ys k Tx Ue;rw[Tx]at hx;obtain⟨en,ca,cap,Ti,rfl,SZ,Tl,hroom⟩:=hx;obtain⟨hlen,Uk,hone,SH⟩:=cU hr hy Ue;obtain⟨vn,UK,Sz⟩:=SH (min k n) (Nat.min_le_left _ _);split at hf
  case isFalse=>cases hf
  rename_i hes;subst hes;have VM:Nat.min k n=min k n:=rfl;split at hf
  ·rename_i h0;cases hf;have Za:vn=[]:=by rw[h0]at Sz;simp[bE]at Sz;exact Sz
   subst Za;refine⟨.int .i64 0,w,m,?_,rfl,hr,Grow.refl m h w hr.cT⟩;simp only[Builtin.copy_,hts0,abi,aaY,aa9,aae,aab hu,Z2,hlen,SP,VM,UK,aat,storeCells];simp[goInt,h0]
  ·rename_i h0;split at hf
   case h_2=>cases hf
   rename_i c tl hb;split at hf
   case isFalse=>cases hf
   rename_i hle;cases hf;have VG:(ys.take (min k n*i.size)).all AV.one=true:=by
    rw[aas]at hone ⊢
    exactλa ha=>hone a (aaP ha)
   have Xv:(ys.take (min k n*i.size)).length=min k n*i.size:=by
    have:=En (min k n) i.size k (Nat.min_le_left _ _);simp;omega
   obtain⟨w',bP,h1,h2⟩:=pL (ys.take (min k n*i.size)) vn hr Ti hb o 0 Om VG Sz;refine⟨.int .i64 (min k n:Nat),w',m,?_,rfl,h1,h2⟩;have W9:=Tl Om;subst W9;simp only[Builtin.copy_,hts0,abi,aaY,aa9,aae,aab hu,Z2,hlen,SP,VM,UK,aat,bP,goInt]
 ·rename_i Tx Ue;rename_i p;obtain⟨ys,k⟩:=p;rw[Tx,VR]at hx;subst hx;cases hf;obtain⟨hlen,Uk,hone,SH⟩:=cU hr hy Ue;obtain⟨vn,UK,Sz⟩:=SH 0 (aam _);have VM:Nat.min k 0=0:=Nat.min_zero k;refine⟨.int .i64 0,w,m,?_,rfl,hr,Grow.refl m h w hr.cT⟩;simp only[Builtin.copy_,hts0,abi,aaY,aa9,aae,aab hu,Z2,hlen,SP,VM,UK,aat,goInt];rfl
 ·cases hf
end
section
variable {P:Program}{m:cw}{h h':ah}{w:World}{ρ:dt->AV}{v:AV}
theorem xQ:∀{l}{vs}{bs},cQ m l vs->l.mapM byteOf=some bs->
  ∀(acc:ByteArray),(forIn (m:=Sem) vs acc λc s=>
    match c with
    |.int .u8 n=>pure (ForInStep.yield (s.push (UInt8.ofNat n.toNat)))
    |_=>do
     (stuck "bytesToString: byte expected" :Sem PUnit)
     pure (ForInStep.yield s)).run P w=.ok ⟨⟨acc.data.toList++bs⟩⟩ w
 |[],vs,bs,hv,hb,acc=>by
  rw[bE]at hv;subst hv;simp at hb;subst hb;simp
 |x::xs,vs,bs,hv,hb,acc=>by
  obtain⟨y,ys,rfl,hy,hys⟩:=aT.1 hv;simp only[aca,abW,ack]at hb;cases hx:byteOf x with
  |none=>simp[hx]at hb
  |some b=>
   cases hl:xs.mapM byteOf with
   |none=>simp[hx,hl]at hb
   |some bs'=>
    simp[hx,hl]at hb;subst hb;unfold byteOf at hx;split at hx
    case h_2=>cases hx
    rename_i n;cases hx;rw[VR]at hy;subst hy;have:=xQ hys hl (acc.push (UInt8.ofNat n.toNat));simp only[List.forIn_cons,aae,aat,Z2];rw[this];simp[ByteArray.push]
def zT{e:TypeId}(h:Fg P e=true):P.underlying e=some (.int .u8):=by
 unfold Fg at h;split at h
 ·assumption
 ·cases h
def Ic{s d:TypeId}{k x cx}(hk:Dp P s d=some k)(hr:HR P m h w)(hx:VR m (ρ x) cx)(hf:dP (.conv k x) ρ h=some (v,h')):
  ∃cv w' m',(convert s d cx).run P w=.ok cv w'/\VR m' v cv/\HR P m' h' w'/\Grow m h w m' h' w':=by
 simp only[dP]at hf;have same:∀{cv:Value},(convert s d cx).run P w=.ok cv w->VR m v cv->h' =h->∃cv w' m',(convert s d cx).run P w=.ok cv w'/\VR m' v cv/\HR P m' h' w'/\Grow m h w m' h' w':=by
  intro cv h1 h2 h3;exact z210
 unfold Dp at hk;split at hk
 ·rename_i k1 k2 hs hd;cases hk;simp only[kX]at hf;split at hf
  case h_2=>cases hf
  rename_i hρ;rw[hρ,VR]at hx;subst hx;cases hf;exact same (by simp[convert,aab hs,aab hd,Conv.intToInt]) rfl rfl
 ·rename_i k1 k2 hs hd;cases hk;simp only[kX]at hf;split at hf
  case h_2=>cases hf
  rename_i hρ;rw[hρ,VR]at hx;subst hx;cases hf;exact same (by simp[convert,aab hs,aab hd,Conv.intToFloat]) ⟨_,rfl,.inl rfl⟩ rfl
 ·rename_i k1 k2 hs hd;cases hk;simp only[kX]at hf;split at hf
  case h_2=>cases hf
  rename_i sk b hρ;rw[hρ]at hx;obtain⟨b',rfl,hfr⟩:=hx;split at hf
  case h_2=>cases hf
  rename_i n hn;split at hf
  case isFalse=>cases hf
  rename_i hc;cases hf;have hbb:b' =b:=by
   rcases hfr with h1|⟨h1,_⟩
   ·exact h1
   ·rw[hc.1]at h1;cases h1
  subst hbb;exact same (by simp[convert,aab hs,aab hd,Conv.floatToInt,hn,hc.2]) rfl rfl
 ·rename_i k1 k2 hs hd;cases hk;simp only[kX]at hf;split at hf
  case h_2=>cases hf
  rename_i sk b hρ;rw[hρ]at hx;obtain⟨b',rfl,hfr⟩:=hx;split at hf
  case isFalse=>cases hf
  rename_i hc;cases hf;subst hc;exact same (by simp[convert,aab hs,aab hd,Conv.floatToFloat]) ⟨_,rfl,hfr⟩ rfl
 ·rename_i hs hd;cases hk;simp only[kX]at hf;split at hf
  case h_2=>cases hf
  rename_i hρ;rw[hρ,VR]at hx;subst hx;cases hf;exact same (by simp[convert,aab hs,aab hd]) rfl rfl
 ·rename_i e hs hd;split at hk
  case isFalse=>cases hk
  rename_i he;have hue:P.underlying e=some (.int .u8):=zT he;cases hk;simp only[kX]at hf;split at hf
  case h_2=>cases hf
  rename_i s hρ;rw[hρ,VR]at hx;subst hx;cases hf;obtain⟨q,hq⟩:∃q:Question,q=.appendCap s.length 0 e:=⟨_,rfl⟩;obtain⟨nc,Ww⟩:∃nc:Nat,nc=q.cut (w.tape w.drawn q):=⟨_,rfl⟩;have Xr:s.length<=nc:=by rw[Ww,hq];show s.length<=s.length+_;omega
  have UF:(choose (.appendCap s.length 0 e)).run P w=.ok nc w.drew:=by
   rw[run_choose,Ww,hq];rfl
  let vs:List Value:=s.map λb=>.int .u8 b.toNat
  let rest:List Value:=List.replicate (nc-s.length) (.int .u8 0)
  have Tf:vs.length=s.length:=by simp[vs]
  have Tz:rest.length=nc-s.length:=by simp[rest]
  let W:World:=(w.drew.alloc (.cells ⟨vs++rest⟩ e))
  let W':World:=W.freeze ⟨w.heap.size,nc,none⟩ 1
  have hWh:W.heap[w.heap.size]? =some (.cells ⟨vs++rest⟩ e):=World.alloc_heap_new w.drew _;have hlt:w.heap.size<W.heap.size:=(aaa.1 hWh).1;have hW':W'.heap[w.heap.size]? =some (.cells ⟨vs++rest⟩ e (nc,nc+1)):=by
   have hk:W.heap[w.heap.size]=.cells ⟨vs++rest⟩ e:=(aaa.1 hWh).2;show((if(1:Nat)=0 then W else {W with heap:=W.heap.modify w.heap.size _}).heap)[w.heap.size]? =_;rw[ZW Om];show(W.heap.modify w.heap.size _)[w.heap.size]? =_;rw[aaF (by rw[Array.size_modify];exact hlt),Array.getElem_modify_self,hk];rfl
  have hother:∀i,i≠w.heap.size->W'.heap[i]? =W.heap[i]? :=by
   intro i hi;show((if(1:Nat)=0 then W else {W with heap:=W.heap.modify w.heap.size _}).heap)[i]? =_;rw[ZW Om];show(W.heap.modify w.heap.size _)[i]? =_;rw[Array.getElem?_modify,ZW (λx=>hi x.symm)]
  have SP:W'.heap.size=W.heap.size:=by
   show((if(1:Nat)=0 then W else {W with heap:=W.heap.modify w.heap.size _}).heap).size=_;rw[ZW Om];simp
  obtain⟨m',h0,h1,h2⟩:=kY hr.drew (nE m s) (rO s) rest e true true (λ_=>rfl);have h0':m' h.length=some ⟨w.heap.size,0,vs.length+rest.length,true⟩:=h0;have hne:∀b e2 k2,m' b=some e2->b≠h.length->(h++[.cells (s.map λb=>.int .u8 b.toNat) true true])[b]? =some k2->k2.live=true->e2.cb≠w.heap.size:=by
   intro b e2 k2 hb hbl Sy hl hcb;have:=h1.sep h.length b _ e2 (.cells (s.map λb=>.int .u8 b.toNat) true true) k2 (λx=>hbl x.symm) h0' hb Si Sy hcb.symm;cases k2<;>first|exact absurd this.1 Si|exact this|(cases hl;done)
  have hgrow:Grow m h w m' (h++[.cells (s.map λb=>.int .u8 b.toNat) true true]) W':=by
   have g:=h2.Dj;refine⟨g.ext,g.len,g.new,g.tl,by rw[SP];exact g.size,?_,?_,?_,?_⟩
   ·exact g.os
   ·exact g.out
   ·exact g.tape
   ·intro i hi hno;rw[hother i Om];exact g.frame i hi hno
  refine⟨.slice (some ⟨w.heap.size,0,none⟩) s.length nc,W',m',?_,⟨_,_,nc,h0',rfl,Xr,λ_=>rfl,by show 0+0+nc*1<=vs.length+rest.length;omega⟩,⟨h1.cT,?_,h1.sep,h1.gS,λb' e' hb'=>by have:=h1.lt b' e' hb';rw[SP];exact this⟩,hgrow⟩
  ·have fj:(⟨⟨s⟩⟩:ByteArray).size=s.length:=rfl;have WA:(⟨s⟩:Array UInt8).map (λb=>Value.int .u8 b.toNat)=⟨vs⟩:=by apply acf;simp[vs]
   have Tr:(⟨vs⟩:Array Value)++Array.replicate (nc-s.length) (.int .u8 0)=⟨vs++rest⟩:=by apply acf;simp[rest]
   have Zf:W.shape? w.heap.size=some (e,nc):=by
    simp only[World.shape?,hWh];simp[Tf,Tz];omega
   simp only[convert,aae,aab hs,aab hd,Z2,aab hue,Conv.stringToBytes,fj,UF,WA,Tr,newRow,run_newObj,aat];simp only[markStringish,aae,run_shape];have Te:World.shape? {heap:=w.drew.heap.push (Obj.cells ⟨vs++rest⟩ e),tape:=w.drew.tape,drawn:=w.drew.drawn,os:=w.drew.os,output:=w.drew.output} w.drew.heap.size=some (e,nc):=Zf;simp only[Te,Z2,run_freeze];rfl
  ·intro b e2 k2 hb Sy;have TR:=h1.eO b e2 k2 hb Sy;by_cases hbl:b=h.length
   ·subst hbl;rw[h0']at hb;cases hb;simp at Sy;subst Sy;obtain⟨cc,el,fz,hh,h3,h4,h5,h6⟩:=TR;have hWh':W.heap[w.heap.size]? =some (.cells cc el fz):=hh;rw[hWh]at hWh';cases hWh';refine⟨⟨vs++rest⟩,e,(nc,nc+1),hW',h3,h4,λ_=>⟨(h5 rfl).1,λi hi=>?_⟩,h6⟩;have:(⟨vs++rest⟩:Array Value).size=nc:=by simp[Tf,Tz];omega
    simp only;omega
   ·by_cases hl:k2.live=true
    ·exact TR.heap (hother _ (hne b e2 k2 hb hbl Sy hl))
    ·exact z152
 ·rename_i e hs hd;split at hk
  case isFalse=>cases hk
  rename_i he;have hue:P.underlying e=some (.int .u8):=zT he;cases hk;simp only[kX]at hf;split at hf
  ·rename_i hρ;rw[hρ,VR]at hx;subst hx;cases hf;exact same (by simp[convert,aab hs,aab hd,aab hue,Conv.bytesToString];rfl) rfl rfl
  ·rename_i b o n es hρ;rw[hρ]at hx;split at hf
   case h_2=>cases hf
   rename_i l k hc;split at hf
   case h_2=>cases hf
   rename_i r hl;cases hf;obtain⟨hlen,Uk,hone,SH⟩:=cU hr hx hc;obtain⟨vs,SU,Sz⟩:=SH k (Z0 _);rw[aau Om]at Sz;have hkn:k=n:=by
    unfold cellsIn at hc;simp only at hc;split at hc
    ·split at hc
     ·split at hc
      ·cases hc;rfl
      ·cases hc
     ·cases hc
    ·cases hc
   subst hkn;obtain⟨en,ca,cap,Ti,rfl,SZ,Tl,hroom⟩:=hx;simp only[Builtin.firstCells,abX]at SU;refine same (cv:=.string ⟨⟨r⟩⟩) ?_ rfl rfl;have hb:=xQ (P:=P) (w:=w) Sz hl ByteArray.empty;simp only[convert,aae,aab hs,aab hd,Z2,aab hue,Conv.bytesToString,SU];rw[<-Array.forIn_toList]
   erw [hb]
   simp
  ·cases hf
 ·cases hk
theorem xC:∀{l}{vs}{x v}{cx},VR m x cx->cQ m l vs->jm qv x l=some v->∃cv,(vs.foldlM (m:=Sem) Builtin.max2 cx).run P w=.ok cv w/\VR m v cv
 |[],vs,x,v,cx,hx,hl,hf=>by
  exact Kl
 |y::l,vs,x,v,cx,hx,hl,hf=>by
  obtain⟨cy,vs',rfl,hy,SI⟩:=aT.1 hl;simp only[jm]at hf;split at hf
  case h_2=>cases hf
  rename_i z hz;unfold qv at hz;split at hz
  case h_2=>cases hz
  rename_i k a k' b;split at hz
  case isFalse=>cases hz
  cases hz;rw[VR]at hx hy;subst hx;subst hy;obtain⟨cv,h1,h2⟩:=xC (x:=.int k (if b > a then b else a)) (cx:=.int k (if b > a then b else a)) rfl SI hf;exact⟨cv,by simp only[List.foldlM_cons,aae,Builtin.max2,aat,Z2];exact h1,h2⟩
theorem xB:∀{l}{vs}{x v}{cx},VR m x cx->cQ m l vs->jm qu x l=some v->∃cv,(vs.foldlM (m:=Sem) Builtin.min2 cx).run P w=.ok cv w/\VR m v cv
 |[],vs,x,v,cx,hx,hl,hf=>by
  exact Kl
 |y::l,vs,x,v,cx,hx,hl,hf=>by
  obtain⟨cy,vs',rfl,hy,SI⟩:=aT.1 hl;simp only[jm]at hf;split at hf
  case h_2=>cases hf
  rename_i z hz;unfold qu at hz;split at hz
  case h_2=>cases hz
  rename_i k a k' b;split at hz
  case isFalse=>cases hz
  cases hz;rw[VR]at hx hy;subst hx;subst hy;obtain⟨cv,h1,h2⟩:=xB (x:=.int k (if b<a then b else a)) (cx:=.int k (if b<a then b else a)) rfl SI hf;exact⟨cv,by simp only[List.foldlM_cons,aae,Builtin.min2,aat,Z2];exact h1,h2⟩
def Cm{t e:TypeId}{i:TypeInfo}{n:Nat}{z:AV}{ps:Array (Nat×Operand)}{l:List (Nat×dt)}{σ:Operand->Value}(hs:eT P t=some (e,i))(hz:kg P e=some z)
  (hl:ps.toList.mapM (λp=>(dh p.2).map λy=>(p.1*i.size,y))=some l) (hspos:0<i.size) (hzs:z.cells.length=i.size) (h1:z.cells.all AV.one=true) (hn:n*i.size<=2^24)
  (hr:HR P m h w) (hρ:∀p∈ps.toList,∀y,dh p.2=some y->VR m (ρ y) (σ p.2)) {c:List AV}(hf:fy (eC n z.cells) (l.map λp=>(p.1,i.size,ρ p.2))=some c) (hc1:c.all AV.one=true) (hcl:c.length=n*i.size) (mu tl:Bool):
  ∃cv w' m',(Instr.buildSlice t n (ps.map λ(i,x)=>(i,σ x))).run P w=.ok cv w'/\VR m' (.slice h.length 0 n i.size) cv/\HR P m' (h++[.cells c mu tl]) w'/\Grow m h w m' (h++[.cells c mu tl]) w':=by
 have _:=h1;obtain⟨hu,hi⟩:=fT hs;obtain⟨cz,Vj,VY⟩:=kK hz w m;have hzc:=VY.cells;have fj:cz.cells.size=z.cells.length:=by have:=hzc.length;simpa using this
 have hzero:∀(row:Array Value),row=(Array.range (n*cz.cells.size)).map (cz.cells[·% cz.cells.size]!)->cQ m (eC n z.cells) row.toList:=by
  intro row hrow;have:=tr hzc Om n n (Z0 _);rw[<-hrow,aau]at this
  ·exact this
  ·rw[hrow];simp[fj]
 have Zk:∀(qs:List (Nat×Operand)) (l:List (Nat×dt)),qs.mapM (λp=>(dh p.2).map λy=>(p.1*i.size,y))=some l->qs.length=l.length/\∀(j:Nat) p q,qs[j]? =some p->l[j]? =some q->q.1=p.1*i.size/\dh p.2=some q.2:=by
  intro qs
  induction qs with
  |nil=>intro l hl;simp at hl;subst hl;exact⟨rfl,λj p q hp=>by simp at hp⟩
  |cons p qs ih=>
   intro l hl;simp only[aca,abW,ack]at hl;cases ho:dh p.2 with
   |none=>simp[ho]at hl
   |some y=>
    cases hr':qs.mapM (λp=>(dh p.2).map λy=>(p.1*i.size,y))with
    |none=>simp[ho,hr']at hl
    |some l'=>
     simp[ho,hr']at hl;subst hl;obtain⟨h2,h3⟩:=ih l' hr';refine⟨by simp[h2],λj a b ha hb=>?_⟩;cases j with
     |zero=>simp at ha hb;subst ha;subst hb;exact⟨rfl,ho⟩
     |succ j=>exact h3 j a b (by simpa using ha) (by simpa using hb)
 obtain⟨Vv,hpq⟩:=Zk _ _ hl;by_cases Xs:n*i.size=0
 ·have hnz:n=0:=by
   rcases Nat.mul_eq_zero.1 Xs with h|h
   ·exact h
   ·omega
  obtain⟨Tm,TT,SU⟩:=qW (m:=m) (λj=>some (j*i.size,i.size)) (ps.toList.map λp=>(p.1,σ p.2)) (l.map λp=>(p.1,i.size,ρ p.2)) (eC n z.cells) #[] c (by simp[Vv])
   (λj p q hp hq=>by
    simp only[aa8,aag]at hp hq;obtain⟨p0,hp0,rfl⟩:=hp;obtain⟨q0,hq0,rfl⟩:=hq;obtain⟨h2,h3⟩:=hpq j p0 q0 hp0 hq0;exact⟨by simp[h2],hρ p0 (aaK hp0) _ h3⟩) (by subst hnz;simp[eC,bE]) hf
  obtain⟨m',h2,h3,h4⟩:=mv hr SU hc1 e mu tl;have Tf:=SU.length;refine⟨.slice (some ⟨w.heap.size,0,none⟩) n n,_,m',?_,⟨_,_,n,h2,rfl,Z0 _,λ_=>rfl,by show 0+0+n*i.size<=Tm.toList.length;omega⟩,h3,h4⟩;have SK:¬(n*i.size > 2^24):=Om
  have SP:(sizeOf e).run P w=.ok i.size w:=cB (by simp[eQ,hi]) w;have e0:(Array.range 0).map (λx=>(#[] :Array Value)[x%(#[] :Array Value).size]!)=#[]:=Si
  simp only[Instr.buildSlice,aae,aab hu,Z2,SP,SK,Z3];simp only[Xs,Z7,aae,Z2,aat,e0];exact Lf
 ·obtain⟨Tm,TT,SU⟩:=qW (m:=m) (λj=>some (j*i.size,i.size)) (ps.toList.map λp=>(p.1,σ p.2)) (l.map λp=>(p.1,i.size,ρ p.2)) (eC n z.cells) ((Array.range (n*i.size)).map (cz.cells[·% cz.cells.size]!)) c (by simp[Vv])
   (λj p q hp hq=>by
    simp only[aa8,aag]at hp hq;obtain⟨p0,hp0,rfl⟩:=hp;obtain⟨q0,hq0,rfl⟩:=hq;obtain⟨h2,h3⟩:=hpq j p0 q0 hp0 hq0;exact⟨by simp[h2],hρ p0 (aaK hp0) _ h3⟩) (hzero _ (by rw[fj,hzs])) hf
  obtain⟨m',h2,h3,h4⟩:=mv hr SU hc1 e mu tl;have Tf:=SU.length;refine⟨.slice (some ⟨w.heap.size,0,none⟩) n n,_,m',?_,⟨_,_,n,h2,rfl,Z0 _,λ_=>rfl,by show 0+0+n*i.size<=Tm.toList.length;omega⟩,h3,h4⟩;have SK:¬(n*i.size > 2^24):=Om
  have SP:(sizeOf e).run P w=.ok i.size w:=cB (by simp[eQ,hi]) w;simp only[Instr.buildSlice,aae,aab hu,Z2,SP,SK,Z3,Xs,aat,Vj];exact Lf
def xI{op}{t:TypeId}{x y xs ys}(hm:P.eqGuardType P.depth t=false):(eqGuard op t x y (.agg xs) (.agg ys)).run P w=.ok () w:=by
 cases op<;>simp[eqGuard,run_program,hm]
def lu{op}{t:TypeId}{x y a b}(h1:∀l,a≠.agg l)(h2:a≠.nilIface):(eqGuard op t x y a b).run P w=.ok () w:=by
 cases op<;>cases a<;>first
  |rfl
  |exact absurd rfl h2
  |exact absurd rfl (h1 _)
def VR.Mi{x cx}(hx:VR m x cx)(h1:x.one=true):(∀l,cx≠.agg l)/\cx≠.nilIface:=by
 have hc:=hx.uI h1;refine⟨λl e=>?_,λe=>?_⟩
 ·subst e;cases hc
 ·subst e;cases x<;>simp[VR,AV.one]at hx h1
def EE{t:TypeId}{e:TypeId}(hu:P.underlying t=some (.slice e)){x y cx cy b}(hx:VR m x cx)(hy:VR m y cy)(hb:P6 x y=some b)(d:Nat):
  (Op.equalIn (d+1) t cx cy).run P w=.ok b w/\(∀l,cx≠.agg l)/\cx≠.nilIface/\(binOp .eql t cx cy=do pure (.bool (<-Op.equal t cx cy)))/\(binOp .neq t cx cy=do pure (.bool (!(<-Op.equal t cx cy)))):=by
 unfold P6 at hb;split at hb
 ·rw[VR]at hx hy;subst hx;subst hy;cases hb;exact BE
 ·rw[VR]at hx;obtain⟨_,ca,cap,_,rfl,_⟩:=hy;subst hx;cases hb;exact BE
 ·rw[VR]at hy;obtain⟨_,ca,cap,_,rfl,_⟩:=hx;subst hy;cases hb;exact BE
 ·cases hb
def EF{t:TypeId}{e:TypeId}(hu:P.underlying t=some (.pointer e)){x y cx cy b}(hx:VR m x cx)(hy:VR m y cy)(hb:P7 x y=some b)(d:Nat):
  (Op.equalIn (d+1) t cx cy).run P w=.ok b w/\(∀l,cx≠.agg l)/\cx≠.nilIface/\(binOp .eql t cx cy=do pure (.bool (<-Op.equal t cx cy)))/\(binOp .neq t cx cy=do pure (.bool (!(<-Op.equal t cx cy)))):=by
 unfold P7 at hb;split at hb
 ·rw[VR]at hx hy;subst hx;subst hy;cases hb;exact BE
 ·rw[VR]at hx;obtain⟨_,_,rfl⟩:=hy;subst hx;cases hb;exact BE
 ·rw[VR]at hy;obtain⟨_,_,rfl⟩:=hx;subst hy;cases hb;exact BE
 ·cases hb
def EH{t:TypeId}{e f g}(hu:P.underlying t=some (.func e f g)){x y cx cy b}(hx:VR m x cx)(hy:VR m y cy)(hb:P9 x y=some b)(d:Nat):
  (Op.equalIn (d+1) t cx cy).run P w=.ok b w/\(∀l,cx≠.agg l)/\cx≠.nilIface/\(binOp .eql t cx cy=do pure (.bool (<-Op.equal t cx cy)))/\(binOp .neq t cx cy=do pure (.bool (!(<-Op.equal t cx cy)))):=by
 unfold P9 at hb;split at hb
 ·rw[VR]at hx hy;subst hx;subst hy;cases hb;exact BE
 ·rw[VR]at hx;obtain⟨_,_,_,rfl,_⟩:=hy;subst hx;cases hb;exact BE
 ·rw[VR]at hy;obtain⟨_,_,_,rfl,_⟩:=hx;subst hy;cases hb;exact BE
 ·cases hb
def EG{t:TypeId}{e f:TypeId}(hu:P.underlying t=some (.map e f)){x y cx cy b}(hx:VR m x cx)(hy:VR m y cy)(hb:P8 x y=some b)(d:Nat):
  (Op.equalIn (d+1) t cx cy).run P w=.ok b w/\(∀l,cx≠.agg l)/\cx≠.nilIface/\(binOp .eql t cx cy=do pure (.bool (<-Op.equal t cx cy)))/\(binOp .neq t cx cy=do pure (.bool (!(<-Op.equal t cx cy)))):=by
 unfold P8 at hb;split at hb
 ·rw[VR]at hx hy;subst hx;subst hy;cases hb;exact BE
 ·rw[VR]at hx;obtain⟨_,_,rfl⟩:=hy;subst hx;cases hb;exact BE
 ·rw[VR]at hy;obtain⟨_,_,rfl⟩:=hx;subst hy;cases hb;exact BE
 ·cases hb
def G1{t:TypeId}{neg k x y ox oy cx cy}(hk:Jb P neg t x y=some (.eqv neg k x y))(hx:VR m (ρ x) cx)(hy:VR m (ρ y) cy)(hf:dP (.eqv neg k x y) ρ h=some (v,h')):
  ∃cv,(do eqGuard (if neg then .neq else .eql) t ox oy cx cy;binOp (if neg then .neq else .eql) t cx cy:Sem Value).run P w=.ok cv w/\VR m v cv/\h' =h:=by
 simp only[dP]at hf;split at hf
 case h_2=>cases hf
 rename_i b hb;cases hf;have fin:(eqGuard (if neg then .neq else .eql) t ox oy cx cy).run P w=.ok () w->(Op.equalIn 10000 t cx cy).run P w=.ok b w->(binOp .eql t cx cy=do pure (.bool (<-Op.equal t cx cy)))->(binOp .neq t cx cy=do pure (.bool (!(<-Op.equal t cx cy))))->
   ∃cv,(do eqGuard (if neg then .neq else .eql) t ox oy cx cy;binOp (if neg then .neq else .eql) t cx cy:Sem Value).run P w=.ok cv w/\VR m (.bool (if neg then !b else b)) cv/\h=h:=by
  intro h1 h2 h3 h4;refine⟨.bool (if neg then !b else b),?_,rfl,rfl⟩;simp only[aae,h1,Z2];cases neg
  ·simp only[aaC,Z3,h3,aae,Op.equal,Op.maxDepth,h2,Z2,aat]
  ·simp only[Z7,h4,aae,Op.equal,Op.maxDepth,h2,Z2,aat]
 unfold Jb at hk;split at hk<;>first
  |(cases hk;done)
  |skip
 ·rename_i hu;cases hk;have hb':dJ .b (ρ x) (ρ y)=some b:=hb;have hone:(ρ x).one=true:=by unfold dJ at hb';split at hb'<;>first|(cases hb';done)|simp_all [AV.one]
  obtain⟨n1,n2⟩:=hx.Mi hone;obtain⟨a,c,hxa,Ue⟩:∃a c,ρ x=.bool a/\ρ y=.bool c:=by unfold dJ at hb';split at hb'<;>first|(cases hb';done)|simp_all
  rw[hxa,VR]at hx;rw[Ue,VR]at hy;subst hx;subst hy;refine fin (lu n1 n2) ?_ rfl rfl;exact rE (m:=m) (t:=t) (k:=.b) hu (x:=.bool a) (y:=.bool c) rfl rfl (by rw[<-hxa,<-Ue];exact hb') 9999
 ·rename_i fs hu;exact Rv
 ·rename_i n e hu;exact Rv
 ·rename_i e hu;cases hk;obtain⟨h1,h2,h3,h4,h5⟩:=EE (w:=w) hu hx hy hb 9999;exact Ec
 ·rename_i e hu;cases hk;obtain⟨h1,h2,h3,h4,h5⟩:=EF (w:=w) hu hx hy hb 9999;exact Ec
 ·rename_i hu;cases hk;obtain⟨h1,h2,h3,h4,h5⟩:=EH (w:=w) hu hx hy hb 9999;exact Ec
 ·rename_i hu;cases hk;obtain⟨h1,h2,h3,h4,h5⟩:=EG (w:=w) hu hx hy hb 9999;exact Ec
end
def ni(k:pE)(ρ:dt->AV)(h:ah)(v:AV)(h':ah):Prop:=
 match k with
 |.call _ _=>False
 |.app es w x y=>ya es w (ρ x) (ρ y) h v h'
 |.bh es n z ps=>∃c mu tl,fy (eC n z) (ps.map λp=>(p.1,es,ρ p.2))=some c/\c.all AV.one=true/\c.length=n*es/\v=.slice h.length 0 n es/\h' =h++[.cells c mu tl]
 |k=>dP k ρ h=some (v,h')
section
variable {P:Program}{m:cw}{h h':ah}{w:World}{ρ:dt->AV}{v:AV}{σ:Operand->Value}
def fE.nO{r:Result Value}(hr:HR P m h w)(hx:∃cv,r=.ok cv w/\VR m v cv/\h' =h){R:Result Next}(hR:∀cv,r=.ok cv w->R=.ok (.value cv) w):fE P m h w v h' R:=by
 obtain⟨cv,h1,h2,rfl⟩:=hx;exact fE.same hr h2 (hR cv h1)
def fE.Ax{r:Result Value}(hx:∃cv w' m',r=.ok cv w'/\VR m' v cv/\HR P m' h' w'/\Grow m h w m' h' w'){R:Result Next}(hR:∀cv w',r=.ok cv w'->R=.ok (.value cv) w'):fE P m h w v h' R:=by
 obtain⟨cv,w',m',h1,h2,h3,h4⟩:=hx;exact⟨cv,w',m',.inl (hR cv w' h1),h2,h3,h4⟩
def od{l l'}(hl:zI l=some l')(hρ:∀x∈l,∀x',dh x=some x'->VR m (ρ x') (σ x)):cQ m (l'.map ρ) (l.map σ).toList:=by
 have key:∀(l:List Operand) (l':List dt),l.mapM dh=some l'->(∀x∈l,∀x',dh x=some x'->VR m (ρ x') (σ x))->cQ m (l'.map ρ) (l.map σ):=by
  intro l
  induction l with
  |nil=>intro l' h _;simp at h;subst h;exact bE.2 rfl
  |cons x l ih=>
   intro l' h hρ;simp only[aca,abW,ack]at h;cases hx:dh x with
   |none=>simp[hx]at h
   |some y=>
    cases hl:l.mapM dh with
    |none=>simp[hx,hl]at h
    |some l2=>
     simp[hx,hl]at h;subst h;exact aT.2 ⟨_,_,rfl,hρ x Si y hx,ih l2 hl (λx' SA=>hρ x' (by simp[SA]))⟩
 have:=key l.toList l' hl (λx hx=>hρ x (by simpa using hx))
 simpa using this
def rJ{lo lo'}(hl:wu lo=some lo')(hρ:∀x∈lo,∀x',dh x=some x'->VR m (ρ x') (σ x)):
  pD m ρ lo' (lo.map σ):=by
 cases lo with
 |none=>simp[wu]at hl;subst hl;trivial
 |some x=>
  simp only[wu,aag]at hl;obtain⟨y,hy,rfl⟩:=hl;exact hρ x rfl y hy
def LX{op}{t:TypeId}{x y ox oy cx cy}(hr:HR P m h w)(hx:VR m (ρ x) cx)(hy:VR m (ρ y) cy)(hf:dP (.bin op x y) ρ h=some (v,h')):
  ∃cv w' m',(do eqGuard op t ox oy cx cy;binOp op t cx cy:Sem Value).run P w=.ok cv w'/\VR m' v cv/\HR P m' h' w'/\Grow m h w m' h' w':=by
 simp only[dP]at hf;split at hf
 case h_2=>cases hf
 rename_i u hu;cases hf;have fin:∀{cv:Value},(eqGuard op t ox oy cx cy).run P w=.ok () w->(binOp op t cx cy).run P w=.ok cv w->VR m v cv->
   ∃cv w' m',(do eqGuard op t ox oy cx cy;binOp op t cx cy:Sem Value).run P w=.ok cv w'/\VR m' v cv/\HR P m' h w'/\Grow m h w m' h w':=by
  intro cv h1 h2 h3;exact⟨cv,w,m,by simp only[aae,h1,Z2,h2],h3,hr,Grow.refl m h w hr.cT⟩
 unfold fe at hu;split at hu
 ·rename_i k a k' b Tx YY;rw[Tx,VR]at hx;rw[YY,VR]at hy;subst hx;subst hy;have hg:(eqGuard op t ox oy (.int k a) (.int k' b)).run P w=.ok () w:=lu (λl=>by simp) Si;split at hu
  ·rename_i hs;obtain⟨cv,h1,h2⟩:=yn (P:=P) (m:=m) (w:=w) (k':=k') hs hu t;exact fin hg h1 h2
  ·rename_i hs;split at hu
   case isFalse=>cases hu
   rename_i hk;subst hk;obtain⟨cv,h1,h2⟩:=yp (P:=P) (m:=m) (w:=w) (by simpa using hs) hu t;exact fin hg h1 h2
 ·rename_i a b Tx YY;rw[Tx,VR]at hx;rw[YY,VR]at hy;subst hx;subst hy;obtain⟨cv,h1,h2⟩:=ym (P:=P) (m:=m) (w:=w) hu t;exact fin (lu (λl=>by simp) Si) h1 h2
 ·cases hu
def tg{b ts l k TU}(hk:o6 P b ts l=some k)(hargs:cQ m (l.map ρ) TU.toList)(hr:HR P m h w)(hs:ni k ρ h v h')(T:TypeId)(cs:Array Bool):
  ∃cv w' m',(builtin b ts T cs TU).run P w=.ok (.value cv) w'/\VR m' v cv/\HR P m' h' w'/\Grow m h w m' h' w':=by
 have same:∀{cv:Value},(builtin b ts T cs TU).run P w=.ok (.value cv) w->VR m v cv->h' =h->∃cv w' m',(builtin b ts T cs TU).run P w=.ok (.value cv) w'/\VR m' v cv/\HR P m' h' w'/\Grow m h w m' h' w':=by
  intro cv h1 h2 h3;exact z210
 have args1:∀{x:dt},cQ m [ρ x] TU.toList->∃cx,TU=#[cx]/\VR m (ρ x) cx:=by
  intro x h1;obtain⟨cx,r,XY,VI,Vu⟩:=aT.1 h1;rw[bE]at Vu;subst Vu;exact⟨cx,by apply acf;rw[XY],VI⟩
 have YH:∀{x y:dt},cQ m [ρ x,ρ y] TU.toList->∃cx cy,TU=#[cx,cy]/\VR m (ρ x) cx/\VR m (ρ y) cy:=by
  intro x y h1;obtain⟨cx,r,XY,VI,Vu⟩:=aT.1 h1;obtain⟨cy,r',hcy,hvy,hr1⟩:=aT.1 Vu;rw[bE]at hr1;subst hr1;subst hcy;exact⟨cx,cy,by apply acf;rw[XY],VI,hvy⟩
 unfold o6 at hk;split at hk
 ·
  rename_i x;obtain⟨cx,rfl,hx⟩:=args1 hargs;have uQ:∀(lk:LK) (t0:TypeId) (d:TypeDesc),ts[0]? =some t0->P.underlying t0=some d->(match lk with|.sl=>∃e,d=.slice e|.st=>d=.string|.mp=>∃a b,d=.map a b)->dP (.len lk x) ρ h=some (v,h')->
    ∃cv w' m',(builtin .len ts T cs #[cx]).run P w=.ok (.value cv) w'/\VR m' v cv/\HR P m' h' w'/\Grow m h w m' h' w':=by
   intro lk t0 d UL hu hd Sx;simp only[dP]at Sx;split at Sx
   case h_2=>cases Sx
   rename_i n hn;cases Sx;have go:(Builtin.len_ ts T #[cx]).run P w=.ok (.int .i64 n) w:=by
    unfold AS at hn;split at hn
    ·rename_i s hρ;rw[hρ,VR]at hx;subst hx;split at hn
     case isFalse=>cases hn
     rename_i Uf;subst Uf;cases hn;cases hd;have:(⟨⟨s⟩⟩:ByteArray).size=s.length:=rfl;simp[Builtin.len_,UL,aab hu,goInt,this]
    ·rename_i b o n' es hρ;rw[hρ]at hx;obtain⟨_,ca,cap,_,rfl,_⟩:=hx;exact Li
    ·rename_i hρ;rw[hρ,VR]at hx;subst hx;exact Li
    ·rename_i r hρ;rw[hρ]at hx;obtain⟨e,he,rfl⟩:=hx;split at hn
     case h_2=>cases hn
     rename_i es hb;split at hn
     case isFalse=>cases hn
     rename_i Uf;subst Uf;cases hn;obtain⟨a,b,rfl⟩:=hd;obtain⟨_,UH,clock,hheap,hlen,_⟩:=hr.eO r e _ he hb;simp[Builtin.len_,UL,aab hu,goInt,k8 hheap rfl,hlen]
    ·rename_i hρ;rw[hρ,VR]at hx;subst hx;split at hn
     case isFalse=>cases hn
     rename_i Uf;subst Uf;cases hn;obtain⟨a,b,rfl⟩:=hd;simp[Builtin.len_,UL,aab hu,goInt]
    ·cases hn
   exact⟨.int .i64 n,w,m,by simp only[builtin,aae,go,Z2,aat],rfl,hr,Grow.refl m h w hr.cT⟩
  split at hk
  ·rename_i e hd;cases hk;obtain⟨t0,UL,Vt⟩:=aaS.1 hd;exact uQ .sl t0 _ UL Vt ⟨e,rfl⟩ hs
  ·rename_i hd;cases hk;obtain⟨t0,UL,Vt⟩:=aaS.1 hd;exact uQ .st t0 _ UL Vt rfl hs
  ·rename_i a b hd;cases hk;obtain⟨t0,UL,Vt⟩:=aaS.1 hd;exact uQ .mp t0 _ UL Vt ⟨a,b,rfl⟩ hs
  ·rename_i n e hd;cases hk;obtain⟨t0,UL,Vt⟩:=aaS.1 hd;have Sx:dP (.AR n) ρ h=some (v,h'):=hs;simp only[dP,aak,ab6]at Sx;obtain⟨rfl,rfl⟩:=Sx;exact same (cv:=.int .i64 n) (by simp[builtin,Builtin.len_,UL,aab Vt,goInt]) rfl rfl
  ·cases hk
 ·
  rename_i x y;obtain⟨cx,cy,rfl,hx,hy⟩:=YH hargs;have appF:∀(e:TypeId) (i:TypeInfo) (d:TypeDesc),(ts[0]?).bind (eT P)=some (e,i)->(ts[1]?).bind P.underlying=some d->(∀k,d≠.int k)->
    (if 0<i.size/\0<i.bytes/\i.bytes<=2^20 then(i.zero.bind (mT 4)).bind λz=>if z.cells.length=i.size then some (pE.app i.size i.bytes x y)else none else none)=some k->
    ∃cv w' m',(builtin .append ts T cs #[cx,cy]).run P w=.ok (.value cv) w'/\VR m' v cv/\HR P m' h' w'/\Grow m h w m' h' w':=by
   intro e i d h0 h1 hd hk;obtain⟨sT,hts0,hsl⟩:=aaS.1 h0;obtain⟨xT,hts1,hud⟩:=aaS.1 h1;split at hk
   case isFalse=>cases hk
   rename_i hc;obtain⟨c1,c2,c3⟩:=hc;obtain⟨z,hz,hk⟩:=aaS.1 hk;split at hk
   case isFalse=>cases hk
   rename_i hzl;cases hk;obtain⟨cv,w',m',h2,h3,h4,h5⟩:=LY (w:=w) hts0 hts1 hsl c1 c2 c3 hud hd hz hzl hr hx hy hs T;exact⟨cv,w',m',by simp only[builtin,aae,h2,Z2,aat],h3,h4,h5⟩
  split at hk
  ·rename_i e i e2 h0 h1;exact appF e i _ h0 h1 (λk=>by simp) hk
  ·rename_i e i h0 h1;exact appF e i _ h0 h1 (λk=>by simp) hk
  ·cases hk
 ·
  rename_i x y;obtain⟨cx,cy,rfl,hx,hy⟩:=YH hargs;split at hk
  case h_2=>cases hk
  rename_i e i h0;split at hk
  case isFalse=>cases hk
  rename_i hpos;cases hk;obtain⟨dT,hts0,hsl⟩:=aaS.1 h0;obtain⟨cv,w',m',h2,h3,h4,h5⟩:=LW (w:=w) hts0 hsl hpos hr hx hy hs T;exact⟨cv,w',m',by simp only[builtin,aae,h2,Z2,aat],h3,h4,h5⟩
 ·
  rename_i x l;cases hk;have Sx:dP (.mx x l) ρ h=some (v,h'):=hs;simp only[dP]at Sx;split at Sx
  case h_2=>cases Sx
  rename_i u hu;cases Sx;obtain⟨cx,r,XY,VI,Sz⟩:=aT.1 hargs;obtain⟨cv,h1,h2⟩:=xC (P:=P) (w:=w) VI Sz hu;exact same (by simp only[builtin,Builtin.max_,XY,aae,h1,Z2,aat]) h2 rfl
 ·
  rename_i x l;cases hk;have Sx:dP (.mn x l) ρ h=some (v,h'):=hs;simp only[dP]at Sx;split at Sx
  case h_2=>cases Sx
  rename_i u hu;cases Sx;obtain⟨cx,r,XY,VI,Sz⟩:=aT.1 hargs;obtain⟨cv,h1,h2⟩:=xB (P:=P) (w:=w) VI Sz hu;exact same (by simp only[builtin,Builtin.min_,XY,aae,h1,Z2,aat]) h2 rfl
 ·cases hk
def yh{o:Oper}{k:pE}(hc:fc P o=some k)(hρ:∀x∈o.op.operands,∀x',dh x=some x'->VR m (ρ x') (σ x))(hcst:∀z,ρ (.c z)=z)(hr:HR P m h w)(hs:ni k ρ h v h'):
  fE P m h w v h' ((execOp σ o).run P w):=by
 unfold fc at hc;cases hop:o.op with
 |move x=>
  exact Rn
 |assign x=>
  exact Rn
 |pick c a b=>
  simp only[hop]at hc;split at hc
  case h_2=>cases hc
  rename_i c' a' b' T2 X1 hb';cases hc;have Sx:dP (.pick c' a' b') ρ h=some (v,h'):=hs;simp only[dP]at Sx;split at Sx
  case h_2=>cases Sx
  rename_i t ht;cases Sx;have h1:=hρ c (by simp[hop,Op.operands]) c' T2;rw[ht,VR]at h1;refine fE.same (cv:=if t then σ a else σ b) hr ?_ (by simp[execOp,hop,h1,asBool]);cases t
  ·exact hρ b (by simp[hop,Op.operands]) b' hb'
  ·exact hρ a (by simp[hop,Op.operands]) a' X1
 |alloc e=>
  simp only[hop]at hc;split at hc
  case h_2=>cases hc
  rename_i z hz;split at hc
  case isFalse=>cases hc
  rename_i h1;cases hc;have Sx:dP (.box (.c z)) ρ h=some (v,h'):=hs;simp only[dP,hcst,h1,Z7,aak,ab6]at Sx;obtain⟨rfl,rfl⟩:=Sx;obtain⟨cz,Vj,VY⟩:=kK hz w m;obtain⟨m',h2,h3,h4,h5⟩:=tS hr VY h1 e true false;exact⟨_,_,m',.inl (by simp only[execOp,hop,Instr.alloc,aae,Vj,Z2,h2,aat]),h3,h4,h5⟩
 |box e x=>
  simp only[hop,aag]at hc;obtain⟨x',SA,rfl⟩:=hc;have Sx:dP (.box x') ρ h=some (v,h'):=hs;simp only[dP]at Sx;split at Sx
  case isFalse=>cases Sx
  rename_i h1;cases Sx;obtain⟨m',h2,h3,h4,h5⟩:=tS hr (hρ x (by simp[hop,Op.operands]) x' SA) h1 e true false;exact⟨_,_,m',.inl (by simp only[execOp,hop,Instr.box,aae,Z2,h2,aat]),h3,h4,h5⟩
 |build t ps=>
  simp only[hop]at hc;split at hc
  case h_2=>cases hc
  rename_i z l hz hl;split at hc
  case isFalse=>cases hc
  rename_i hp;cases hc;have Sx:dP (.build z.cells l) ρ h=some (v,h'):=hs;exact fE.nO hr (EC (w:=w) (σ:=σ) hz hl hp (λp hp y hy=>hρ p.2 (by simp only[hop,Op.operands];simp only[List.mem_toArray,aal];exact⟨p,hp,rfl⟩) y hy) Sx) (λcv h=>by simp[execOp,hop,h])
 |buildSlice t n ps=>
  simp only[hop]at hc;split at hc
  case h_2=>cases hc
  rename_i e i hsl;split at hc
  case h_2=>cases hc
  rename_i z l hz hl;split at hc
  case isFalse=>cases hc
  rename_i SR;obtain⟨h1,h2,h3,h4⟩:=SR;cases hc;obtain⟨c,mu,tl,TT,hc1,hcl,rfl,rfl⟩:=hs;exact fE.Ax (Cm (w:=w) (σ:=σ) hsl hz hl h1 h2 h3 h4 hr (λp hp y hy=>hρ p.2 (by simp only[hop,Op.operands];simp only[List.mem_toArray,aal];exact⟨p,hp,rfl⟩) y hy) TT hc1 hcl mu tl) (λcv w' h=>by simp[execOp,hop,h])
 |load t a=>
  simp only[hop]at hc;split at hc
  case h_2=>cases hc
  rename_i n a' hn X1;cases hc;exact fE.nO hr (Cl hn hr (hρ a (by simp[hop,Op.operands]) a' X1) hs) (λcv h=>by simp[execOp,hop,h])
 |store t a x=>
  simp only[hop]at hc;split at hc
  case h_2=>cases hc
  rename_i n a' x' hn X1 SA;cases hc;obtain⟨w',h1,rfl,h2,h3⟩:=Ez (w:=w) hn hr (hρ a (by simp[hop,Op.operands]) a' X1) (hρ x (by simp[hop,Op.operands]) x' SA) hs;exact⟨undef,w',m,.inr ⟨by simp[execOp,hop,h1],rfl⟩,kL m,h2,h3⟩
 |nilCheck x=>
  simp only[hop,aag]at hc;obtain⟨x',SA,rfl⟩:=hc;have Sx:dP (.bT x') ρ h=some (v,h'):=hs;have h1:=hρ x (by simp[hop,Op.operands]) x' SA;simp only[dP]at Sx;split at Sx
  ·rename_i b o hv;cases Sx;rw[hv]at h1;have h1':=h1;obtain⟨e,he,h2⟩:=h1;exact fE.same hr h1' (by simp[execOp,hop,h2])
  ·rename_i f a c hv;exact z46
  ·rename_i f a c hv;cases Sx;rw[hv]at h1;have h1':=h1;obtain⟨f',a',c',h2,h3,_⟩:=h1;obtain⟨e,he,rfl⟩:=h3;exact fE.same hr h1' (by simp[execOp,hop,h2])
  ·rename_i t' n a c hv;exact z46
  ·rename_i t' p f q a c hv;exact z46
  ·cases Sx
 |binOp op t x y ty=>
  simp only[hop]at hc;split at hc
  case h_2=>cases hc
  rename_i x' y' SA hy';have hx:=hρ x (by simp[hop,Op.operands]) x' SA;have hy:=hρ y (by simp[hop,Op.operands]) y' hy';have bin:∀{op':BinOp},o.op=.binOp op' t x y ty->k=.bin op' x' y'->fE P m h w v h' ((execOp σ o).run P w):=by
   intro op' ho hk;subst hk;exact fE.Ax (LX (op:=op') (t:=t) (ox:=x) (oy:=y) hr hx hy hs) (λcv w' h=>by simp only[execOp,ho];rw[aae,h];rfl)
  have eqv:∀(neg:Bool),o.op=.binOp (if neg then .neq else .eql) t x y ty->Jb P neg t x' y' =some k->fE P m h w v h' ((execOp σ o).run P w):=by
   intro neg ho hk;have hk0:=hk;unfold Jb at hk;split at hk
   ·cases hk;exact bin ho rfl
   ·cases hk;exact bin ho rfl
   ·cases hk;exact bin ho rfl
   ·exact Kk
   ·exact Ri
   ·exact Ri
   ·exact Kk
   ·exact Kk
   ·exact Kk
   ·exact Kk
   ·cases hk
  split at hc
  ·exact eqv false hop hc
  ·exact eqv true hop hc
  ·cases hc;exact bin hop rfl
 |unOp op t x=>
  simp only[hop,aag]at hc;obtain⟨x',SA,rfl⟩:=hc;have Sx:dP (.un op x') ρ h=some (v,h'):=hs;simp only[dP]at Sx;split at Sx
  case h_2=>cases Sx
  rename_i u hu;cases Sx;obtain⟨cv,h1,h2⟩:=ED (P:=P) (w:=w) (hρ x (by simp[hop,Op.operands]) x' SA) hu;exact fE.same hr h2 (by simp[execOp,hop,h1])
 |convert s d x=>
  simp only[hop]at hc;split at hc
  case h_2=>cases hc
  rename_i ck x' Tp SA;cases hc;exact fE.Ax (Ic Tp hr (hρ x (by simp[hop,Op.operands]) x' SA) hs) (λcv w' h=>by simp[execOp,hop,h])
 |makeInterface u x=>
  simp only[hop]at hc;split at hc
  ·cases hc
  ·rename_i d x' hni hd SA;cases hc;have Sx:dP (.conv (.vB u) x') ρ h=some (v,h'):=hs;simp only[dP,kX,aak,ab6]at Sx;obtain⟨rfl,rfl⟩:=Sx;have VH:=hρ x (by simp[hop,Op.operands]) x' SA;refine fE.same (cv:=.iface u (σ x)) hr ⟨_,rfl,VH⟩ ?_;simp only[execOp,hop,Instr.makeInterface,aae,aab hd,Z2];cases d<;>first|rfl|exact absurd rfl (hni _)
  ·cases hc
 |makeFunc fn a c=>
  simp only[hop]at hc;split at hc
  case isFalse=>cases hc
  rename_i hfn;split at hc
  case h_2=>cases hc
  rename_i a' c' X1 T2;cases hc;have Sx:dP (.uP fn a' c') ρ h=some (v,h'):=hs;simp only[dP,aak,ab6]at Sx;obtain⟨rfl,rfl⟩:=Sx;have h1:=od (m:=m) (ρ:=ρ) (σ:=σ) X1 (λx hx=>hρ x (by simp only[hop,Op.operands];exact Array.mem_append.2 (.inl hx)));have h2:=od (m:=m) (ρ:=ρ) (σ:=σ) T2 (λx hx=>hρ x (by simp only[hop,Op.operands];exact Array.mem_append.2 (.inr hx)));refine fE.same (cv:=.func fn (a.map σ) (c.map σ)) hr ⟨fn,(a.map σ).toList,(c.map σ).toList,rfl,?_,h1,h2⟩ (by simp[execOp,hop,Instr.makeFunc]);cases fn<;>first
   |rfl
   |(cases hfn;done)
 |makeMap t r=>
  simp only[hop]at hc;cases r with
  |some _=>simp at hc
  |none=>
   simp only[aak]at hc;subst hc;have Sx:dP .oD ρ h=some (v,h'):=hs;simp only[dP,aak,ab6]at Sx;obtain⟨rfl,rfl⟩:=Sx;have Xc:=kZ hr (.map #[] 0) (.bu []) ⟨w.heap.size,0,0,true⟩ rfl rfl (λm' _=>⟨rfl,#[],0,World.alloc_heap_new w _,rfl,λi p hp=>by simp at hp⟩);exact⟨.map (some w.heap.size),_,_,.inl (by simp[execOp,hop,Instr.makeMap]),⟨⟨w.heap.size,0,0,true⟩,by simp[cw.add],rfl⟩,Xc.1,Xc.2⟩
 |makeSlice t l c=>
  simp only[hop]at hc;split at hc
  case h_2=>cases hc
  rename_i e i l' c' hsl SI T2;split at hc
  case h_2=>cases hc
  rename_i z hz;split at hc
  case isFalse=>cases hc
  rename_i SR;obtain⟨h1,h2,h3⟩:=SR;cases hc;exact fE.Ax (H7 hsl hz h1 h2 h3 hr (hρ l (by simp[hop,Op.operands]) l' SI) (hρ c (by simp[hop,Op.operands]) c' T2) hs) (λcv w' h=>by simp[execOp,hop,h])
 |slice t x lo hi mx=>
  simp only[hop]at hc;cases mx with
  |some _=>simp at hc
  |none=>
   simp only at hc;split at hc
   case h_2=>cases hc
   rename_i x' lo' hi' SA hlo' hhi';have hx:=hρ x (by simp[hop,Op.operands]) x' SA;have hlo:=rJ (m:=m) (ρ:=ρ) (σ:=σ) hlo' (λy hy=>hρ y (by simp only[hop,Op.operands];cases hy;simp));have hhi:=rJ (m:=m) (ρ:=ρ) (σ:=σ) hhi' (λy hy=>hρ y (by simp only[hop,Op.operands];cases hy;simp));split at hc
   ·rename_i hu;cases hc;exact fE.nO hr (LR hu hx hlo hhi hs) (λcv h=>by simp only[execOp,hop,ab5];rw[aae,h];rfl)
   ·rename_i e hu;simp only[aag]at hc;obtain⟨n,hn,rfl⟩:=hc;exact fE.nO hr (OM hu hn hx hlo hhi hs) (λcv h=>by simp only[execOp,hop,ab5];rw[aae,h];rfl)
   ·rename_i n e hu;simp only[aag]at hc;obtain⟨es,hes,rfl⟩:=hc;exact fE.nO hr (LS hu hes hr hx hlo hhi hs) (λcv h=>by simp only[execOp,hop,ab5];rw[aae,h];rfl)
   ·cases hc
 |fieldAddr t x i=>
  simp only[hop]at hc;split at hc
  case h_2=>cases hc
  rename_i f x' hf SA;split at hc
  case h_2=>cases hc
  rename_i n hn;split at hc
  case isFalse=>cases hc
  rename_i hpos;cases hc;exact fE.nO hr (Ib hf hn hpos (hρ x (by simp[hop,Op.operands]) x' SA) hs) (λcv h=>by simp[execOp,hop,h])
 |indexAddr t x i=>
  simp only[hop]at hc;split at hc
  case h_2=>cases hc
  rename_i x' i' SA hi';have hx:=hρ x (by simp[hop,Op.operands]) x' SA;have hi:=hρ i (by simp[hop,Op.operands]) i' hi';split at hc
  ·rename_i e hu;simp only[aag]at hc;obtain⟨n,hn,rfl⟩:=hc;exact fE.nO hr (H9 hu hn hx hi hs) (λcv h=>by simp[execOp,hop,h])
  ·rename_i len e hu;simp only[aag]at hc;obtain⟨n,hn,rfl⟩:=hc;exact fE.nO hr (Ia hu hn hx hi hs) (λcv h=>by simp[execOp,hop,h])
  ·cases hc
 |field t x i=>
  simp only[hop]at hc;split at hc
  case h_2=>cases hc
  rename_i f x' hf SA;simp only[aag]at hc;obtain⟨n,hn,rfl⟩:=hc;exact fE.nO hr (EA hf hn (hρ x (by simp[hop,Op.operands]) x' SA) hs) (λcv h=>by simp[execOp,hop,h])
 |index t x i=>
  simp only[hop]at hc;split at hc
  case h_2=>cases hc
  rename_i x' i' SA hi';have hx:=hρ x (by simp[hop,Op.operands]) x' SA;have hi:=hρ i (by simp[hop,Op.operands]) i' hi';split at hc
  ·rename_i hu;cases hc;exact fE.nO hr (LU hu hx hi hs) (λcv h=>by simp[execOp,hop,h])
  ·rename_i len e hu;split at hc
   case h_2=>cases hc
   rename_i n q hn hq;cases hc;exact fE.nO hr (LV hu hn hq hx hi hs) (λcv h=>by simp[execOp,hop,h])
  ·cases hc
 |lookup t x i ok=>
  simp only[hop]at hc;split at hc
  case h_2=>cases hc
  rename_i kt e x' i' hu SA hi';split at hc
  case h_2=>cases hc
  rename_i kk z hkk hz;cases hc;exact fE.nO hr (H8 hu hkk hz hr (hρ x (by simp[hop,Op.operands]) x' SA) (hρ i (by simp[hop,Op.operands]) i' hi') hs) (λcv h=>by simp[execOp,hop,h])
 |mapUpdate t x i y=>
  exact Rr
 |insert t x i y=>
  exact Rr
 |range t x=>
  simp only[hop]at hc;split at hc
  case h_2=>cases hc
  rename_i hu;simp only[aag]at hc;obtain⟨x',SA,rfl⟩:=hc;exact fE.Ax (H5 hu hr (hρ x (by simp[hop,Op.operands]) x' SA) hs) (λcv w' h=>by simp[execOp,hop,h])
 |next x isS=>
  simp only[hop]at hc;cases isS with
  |false=>simp at hc
  |true=>
   simp only[aag]at hc;obtain⟨x',SA,rfl⟩:=hc;exact fE.Ax (EB (t:=o.type) hr (hρ x (by simp[hop,Op.operands]) x' SA) hs) (λcv w' h=>by simp[execOp,hop,h])
 |extract x i=>
  simp only[hop,aag]at hc;obtain⟨x',SA,rfl⟩:=hc;have Sx:dP (.ext x' i) ρ h=some (v,h'):=hs;simp only[dP]at Sx;split at Sx
  case h_2=>cases Sx
  rename_i l hl;split at Sx
  case h_2=>cases Sx
  rename_i u hu;cases Sx;have h1:=hρ x (by simp[hop,Op.operands]) x' SA;rw[hl]at h1;obtain⟨l',h2,h3⟩:=h1;obtain⟨cv,UD,Sz⟩:=h3.get hu;exact fE.same hr Sz (by simp[execOp,hop,Instr.extract,h2,UD])
 |call c=>
  simp only[hop]at hc;split at hc
  case h_2=>cases hc
  rename_i l hl;have hargs:=od (m:=m) (ρ:=ρ) (σ:=σ) hl (λx hx=>hρ x (by simp only[hop,Op.operands,Call.operands];exact Array.mem_append.2 (.inr hx)));split at hc
  ·exact z167
  ·exact z167
  ·rename_i b hb;obtain⟨cv,w',m',h1,h2,h3,h4⟩:=tg (w:=w) hc hargs hr hs o.type (c.args.map λ|.const _=>true|_=>false);refine⟨cv,w',m',.inl ?_,h2,h3,h4⟩;simp only[execOp,hop,resolve,hb,aae,aat,Z2,invoke];exact h1
 |_=>simp[hop]at hc
end
def Rel(P:Program)(m:cw)(h:ah)(w:World)(v:AV)(h':ah)(e:Ending)(w':World):Prop:=
 ∃cv m',e=.returned cv/\VR m' v cv/\HR P m' h' w'/\Grow m h w m' h' w'
def mw(P:Program)(f:FuncId)(args:List AV)(h:ah)(v:AV)(h':ah):Prop:=
 ∀(m:cw) (w:World) (vs:List Value),HR P m h w->cQ m args vs->Calls P f ⟨vs⟩ w (Rel P m h w v h')
def D4(P:Program)(R:Ending->World->Prop):Result Next->Prop
 |.ok (.value cv) w'=>R (.returned cv) w'
 |.ok (.enter f args) w'=>CallsIn Fence.wide 0 P f args w' R
 |.ok (.round l f tmps asg body) w'=>RoundIn Fence.wide 0 P l f tmps asg body w' R
 |_=>False
def fM(P:Program)(fv:AV)(args:List AV)(h:ah)(v:AV)(h':ah):Prop:=
 ∀(m:cw) (w:World) (cv:Value) (vs:List Value),HR P m h w->VR m fv cv->cQ m args vs->
  ∃d,(∀w,(Deferred.ofValue cv ⟨vs⟩).run P w=.ok d w)/\D4 P (Rel P m h w v h') ((invoke d.target d.args).run P w)
def qd(P:Program)(k:pE)(ρ:dt->AV)(h:ah)(v:AV)(h':ah):Prop:=
 match k with
 |.call f args=>fM P (ρ f) (args.map ρ) h v h'
 |k=>ni k ρ h v h'
abbrev Fd(ro:Option Nat):Fence:={Fence.wide with round:=ro}
def k9{P f fn args w}(hf:P.funcs[f]? =some fn)(hb:fn.body.isSome=true)(hn:(fn.name == "runtime.NumGoroutine")=false):
  (callFunc f args).run P w=.ok (.enter f args) w:=by
 have hb':fn.body≠none:=by cases h:fn.body<;>simp_all
 have Xt:fn.name≠ "runtime.NumGoroutine":=by simpa using hn
 simp[callFunc,aae,run_program,hf,Xt,hb',Result.andThen]
section
variable {P:Program}{m:cw}{h h':ah}{w:World}{v:AV}
def rp{ro:Option Nat}{o:Oper}{a:Act}{next:Act->World->Prop}{Q:Exit->Act->World->Prop}{r:Result Next}
  (hr:D4 P (Rel P m h w v h') r) (hn:∀cv m' w',VR m' v cv->HR P m' h' w'->Grow m h w m' h' w'->next (a.put o.dst cv) w'):o.uponIn (Fd ro) 0 P a next Q r:=by
 cases r with
 |halt x w'=>exact hr.elim
 |ok x w'=>
  cases x<;>first
   |exact hr.elim
   |skip
  case value cv=>
   obtain⟨cv',m',he,h1,h2,h3⟩:=hr;cases he;exact hn cv m' w' h1 h2 h3
  case enter f args=>
   rw[Oper.uponIn_enter];refine⟨λhd=>by simp[Fd,Fence.wide]at hd,CallsIn.mono (F:=Fd ro) (show CallsIn (Fd ro) (0-1) P f args w' (Rel P m h w v h')from hr) λe w'' he=>?_⟩;exact KC
  case round l f tmps asg body=>
   rw[Oper.uponIn_round];refine⟨λhd=>by simp[Fd,Fence.wide]at hd,RoundIn.mono (F:=Fd ro) (show RoundIn (Fd ro) (0-1) P l f tmps asg body w' (Rel P m h w v h')from hr) λe w'' he=>?_⟩;exact KC
def wv{o:Oper}{k:pE}{ρ:dt->AV}(hc:fc P o=some k){a:Act}(hρ:∀x∈o.op.operands,∀x',dh x=some x'->VR m (ρ x') (a.eval x))(hcst:∀z,ρ (.c z)=z)
  (hr:HR P m h w) (hs:qd P k ρ h v h') (ro:Option Nat) (next:Act->World->Prop) (Q:Exit->Act->World->Prop)
  (hn:∀cv m' w',VR m' v cv->HR P m' h' w'->Grow m h w m' h' w'->next (a.put o.dst cv) w'):o.wpIn (Fd ro) 0 P a w next Q:=by
 refine⟨λ_ _=>trivial,?_⟩;have hdef:∀c,o.op≠.defer c:=by
  intro c hop;simp[fc,hop]at hc
 rw[Oper.semAt_eq _ _ _ hdef];by_cases UW:∃f args,k=.call f args
 ·obtain⟨f,args,rfl⟩:=UW;have Sx:fM P (ρ f) (args.map ρ) h v h':=hs;cases hop:o.op with
  |call c=>
   have T2:=hc;simp only[fc,hop]at T2;split at T2
   case h_2=>cases T2
   rename_i l hl;have hargs:=od (m:=m) (ρ:=ρ) (σ:=a.eval) hl (λx hx=>hρ x (by simp only[hop,Op.operands,Call.operands];exact Array.mem_append.2 (.inr hx)));split at T2
   ·rename_i g hg;simp only[aag]at T2;obtain⟨g',SX,he⟩:=T2;cases he;have hf:=hρ g (by simp[hop,Op.operands,Call.operands,hg]) _ SX;obtain⟨d,hd,haf⟩:=Sx m w _ _ hr hf hargs;refine rp (m:=m) (h:=h) (w:=w) (v:=v) (h':=h') ?_ hn;simp only[execOp,hop,resolve,hg,aae];have Td:(Deferred.ofValue (a.eval g) (c.args.map a.eval)).run P w=.ok d w:=hd w;rw[Td];exact haf
   ·rename_i r name hg;simp only[aag]at T2;obtain⟨r',hr',he⟩:=T2;cases he;have hrv:=hρ r (by simp[hop,Op.operands,Call.operands,hg]) _ hr';have hf:VR m (ρ (.c (.func (.method name) [] []))) (.func (.method name) #[] #[]):=by
     rw[hcst,VR];exact⟨_,[],[],rfl,rfl,rfl,rfl⟩
    obtain⟨d,hd,haf⟩:=Sx m w _ (a.eval r:: (c.args.map a.eval).toList) hr hf (aT.2 ⟨_,_,rfl,hrv,hargs⟩);refine rp (m:=m) (h:=h) (w:=w) (v:=v) (h':=h') ?_ hn;simp only[execOp,hop,resolve,hg,aae];have Td:=hd w;have:(#[]++(⟨a.eval r:: (c.args.map a.eval).toList⟩:Array Value))=#[a.eval r]++c.args.map a.eval:=by
     apply acf;simp
    simp only[Deferred.ofValue,this]at Td;cases Td;exact haf
   ·rename_i b hb;exfalso;unfold o6 at T2
    repeat' split at T2
    all_goals first|(cases T2;done)|(simp only[aaS]at T2;obtain⟨z,_,hz⟩:=T2;split at hz<;>cases hz)
  |makeMap t r=>cases r<;>simp[fc,hop]at hc
  |next x b=>
   cases b
   ·simp[fc,hop]at hc
   ·simp[fc,hop,aag]at hc
  |slice t x lo hi mx=>
   cases mx with
   |some _=>simp[fc,hop]at hc
   |none=>
    exfalso;simp only[fc,hop]at hc
    repeat' split at hc
    all_goals first
     |(cases hc;done)
     |(simp[aag]at hc;done)
  |_=>
   exfalso;simp only[fc,hop]at hc
   repeat' split at hc
   all_goals first
    |(cases hc;done)
    |(simp[aag,aaS]at hc;done)
    |(unfold Jb at hc;repeat' split at hc;all_goals first|(cases hc;done)|(simp[aag]at hc;done))
 ·have Sx:ni k ρ h v h':=by
   cases k<;>first|exact hs|exact absurd ⟨_,_,rfl⟩ UW
  obtain⟨cv,w',m',he,h1,h2,h3⟩:=yh (w:=w) hc hρ hcst hr Sx;rcases he with he|⟨he,rfl⟩
  ·rw[he];exact hn cv m' w' h1 h2 h3
  ·rw[he];exact hn undef m' w' h1 h2 h3
def GV(P:Program)(m:cw):Prop:=∀g,g<P.globals.size->∃e,m g=some e/\e.cb=g/\e.d=0
def HR.gv(hr:HR P m h w):GV P m:=λg hg=>by obtain⟨e,h1,h2,h3,_⟩:=hr.gS g hg;exact⟨e,h1,h2,h3⟩
def zY(hg:GV P m){ts:TS}{a:Act}{x:Operand}{x':dt}(hx:dh x=some x')(hok:N2 P x=true)(ht:∀t,x=.tmp t->VR m (ts.getD t aA) (a.tmps.getD t undef)):VR m (val ts x') (a.eval x):=by
 cases x with
 |tmp t=>cases hx;exact ht t rfl
 |const c=>
  simp only[dh,aag]at hx;obtain⟨y,hy,rfl⟩:=hx;exact qZ m 4 _ _ hy
 |global g=>
  cases hx;simp only[N2,aaA]at hok;obtain⟨e,he,hcb,hd⟩:=hg g hok;exact⟨e,he,by rw[hcb,hd];rfl⟩
 |func f=>cases hx;exact⟨.func f,[],[],rfl,rfl,rfl,rfl⟩
def nV{ts:TS}{vs:Array Value}(h:cQ m ts vs.toList)(t:Nat):VR m (ts.getD t aA) (vs.getD t undef):=by
 have hl:=h.length;by_cases ht:t<ts.length
 ·have hx:ts[t]? =some ts[t]:=ZS ht;obtain⟨y,hy,hr⟩:=h.get hx;have e1:ts.getD t aA=ts[t]:=by simp[List.getD,hx]
  have e2:vs.getD t undef=y:=by
   simp only[abh]at hy;simp[aaB,hy]
  rw[e1,e2];exact hr
 ·have e1:ts.getD t aA=aA:=by simp[List.getD,abK (by omega:ts.length<=t)]
  have e2:vs.getD t undef=undef:=by
   have:vs.size<=t:=by simp at hl;omega
   simp[aaB,abo this]
  rw[e1,e2];exact kL m
def ES{ts:TS}{a:Act}(h:cQ m ts a.tmps.toList){x:AV}{cv:Value}(hx:VR m x cv)(d:Option Nat):cQ m (put ts d x) (a.put d cv).tmps.toList:=by
 cases d with
 |none=>exact h
 |some d=>simp only[put,Act.put,Array.toList_setIfInBounds];exact h.set d hx
def put_defers(a:Act)(d:Option Nat)(cv:Value):(a.put d cv).defers=a.defers:=by cases d<;>rfl
def rn{ts:TS}{a:Act}{ops:Array Oper}{o:Oper}{g:Option (Nat×Bool)}(hg:uS ops o.guard=some g)
  (ht:∀t b,g=some (t,b)->(t<ts.length↔t<a.tmps.size)/\VR m (ts.getD t aA) (a.tmps.getD t undef)):Region.wanted o (yielded ops a.tmps)=true↔wanted g ts:=by
 unfold uS at hg;unfold Region.wanted wanted;cases V4:o.guard with
 |none=>rw[V4]at hg;cases hg;simp
 |some p=>
  obtain⟨j,b⟩:=p;rw[V4]at hg;simp only[aag]at hg;obtain⟨d,hd,rfl⟩:=hg;simp only[yielded,hd,Option.bind_some,beq_iff_eq];obtain⟨hlt,Sz⟩:=ht d b rfl;by_cases hdl:d<ts.length
  ·have V9:=hlt.1 hdl;have e1:ts.getD d aA=ts[d]:=by simp[List.getD,ZS hdl]
   have e2:a.tmps.getD d undef=a.tmps[d]:=by simp[aaB,aaF V9]
   rw[e1,e2]at Sz;rw[aaF V9,ZS hdl];generalize a.tmps[d]=cv at Sz;generalize ts[d]=av at Sz;cases av with
   |bool t=>rw[VR]at Sz;subst Sz;simp
   |int k n=>rw[VR]at Sz;subst Sz;simp
   |yc k n=>rw[VR]at Sz;obtain⟨_,rfl,_⟩:=Sz;simp
   |xP k x y=>rw[VR]at Sz;obtain⟨_,_,rfl,_⟩:=Sz;simp
   |str s=>rw[VR]at Sz;subst Sz;simp
   |ptr b o=>rw[VR]at Sz;obtain⟨_,_,rfl⟩:=Sz;simp
   |nilPtr=>rw[VR]at Sz;subst Sz;simp
   |slice b o n e=>rw[VR]at Sz;obtain⟨_,_,_,_,rfl,_⟩:=Sz;simp
   |af=>rw[VR]at Sz;subst Sz;simp
   |map r=>rw[VR]at Sz;obtain⟨_,_,rfl⟩:=Sz;simp
   |dF=>rw[VR]at Sz;subst Sz;simp
   |func f x y=>rw[VR]at Sz;obtain⟨_,_,_,rfl,_⟩:=Sz;simp
   |nilFunc=>rw[VR]at Sz;subst Sz;simp
   |agg l=>rw[VR]at Sz;obtain⟨_,rfl,_⟩:=Sz;simp
   |dz l=>rw[VR]at Sz;obtain⟨_,rfl,_⟩:=Sz;simp
   |vB u l=>rw[VR]at Sz;obtain⟨_,rfl,_⟩:=Sz;simp
   |la=>rw[VR]at Sz;subst Sz;simp
  ·have V9:¬d<a.tmps.size:=λx=>hdl (hlt.2 x)
   rw[abo Om,abK Om];simp
inductive dR (P:Program) (o:bN) (ts:TS) (h:ah):TS->ah->Prop
 |run {v:AV}{h':ah}(hw:wanted o.gd ts) (hb:yL o.dst o.k ts.length) (hs:qd P o.k (val ts) h v h'):dR P o ts h (put ts o.dst v) h'
 |skip (hw:¬wanted o.gd ts):dR P o ts h (put ts o.dst aA) h
def y8(P:Program):List bN->TS->ah->TS->ah->Prop
 |[],ts,h,ts',h'=>ts' =ts/\h' =h
 |o::r,ts,h,ts',h'=>∃Ug h1,dR P o ts h Ug h1/\(o.q=true->∃g,h1=h++g)/\y8 P r Ug h1 ts' h'
structure St(P:Program)(m:cw)(ts:TS)(h:ah)(a:Act)(w:World):Prop where
 hr:HR P m h w
 ts:cQ m ts a.tmps.toList
def pe{ρ}:¬qd P .bad ρ h v h':=λhs=>by
 have Sx:dP .bad ρ h=some (v,h'):=hs;simp[dP]at Sx
def fX{ops:Array Oper}{i:Nat}{o:Oper}(ho:ops[i]? =some o){q:Bool}{io:bN}(hc:bV P ops q o=some io){ts ts':TS}{a:Act}
  (hg:GV P m) (hr:HR P m h w) (hlen:a.tmps.size=ts.length)
  (ht:∀t,t∈o.looksAt ops->VR m (ts.getD t aA) (a.tmps.getD t undef)) (hs:dR P io ts h ts' h') (ro:Option Nat) (K:Act->World->Prop) (Q:Exit->Act->World->Prop)
  (hn:∀cv v m' w',ts' =put ts o.dst v->VR m' v cv->HR P m' h' w'->Grow m h w m' h' w'->K (a.put o.dst cv) w'):wpOpIn (Fd ro) 0 P ops Q i K a w:=by
 unfold bV at hc;split at hc
 case h_2=>cases hc
 rename_i g V4;cases hc;have hw:=rn (m:=m) (ts:=ts) (a:=a) V4 (λt b VP=>⟨Om,ht t (by
  unfold Oper.looksAt;refine List.mem_append_right _ ?_;unfold uS at V4;cases hog:o.guard with
  |none=>rw[hog]at V4;cases V4;cases VP
  |some p=>
   obtain⟨j,b'⟩:=p;rw[hog]at V4;simp only[aag]at V4;obtain⟨d,hd,rfl⟩:=V4;cases VP;simp[hd])⟩)
 unfold wpOpIn;rw[ho];cases hs with
 |run hwa hb hs=>
  clear hb;simp only;rw[ZY (hw.2 hwa)];simp only at hs;split at hs
  case isFalse=>exact absurd hs pe
  rename_i hgok;cases hk:fc P o with
  |none=>rw[hk]at hs;exact absurd hs pe
  |some k=>
   rw[hk]at hs;refine wv hk (λx hx x' SA=>?_) (λz=>rfl) hr hs ro K Q (λcv m' w' h1 h2 h3=>hn cv _ m' w' rfl h1 h2 h3);exact Re
 |skip hwa=>
  simp only;rw[ZW (λx=>hwa (hw.1 x))];exact⟨λ_ _=>trivial,hn undef _ m w rfl (kL m) hr (Grow.refl m h w hr.cT)⟩
theorem gV{α β:Type}{f:Nat->α->Option β}:∀{l:List α}{i:Nat}{r:List β},fA f l i=some r->r.length=l.length/\∀(j:Nat) (x:α),l[j]? =some x->∃y,r[j]? =some y/\f (i+j) x=some y
 |[],i,r,h=>by cases h;exact⟨rfl,λj x hx=>by simp at hx⟩
 |x::xs,i,r,h=>by
  unfold fA at h;split at h
  case h_2=>cases h
  rename_i y ys hy hys;cases h;obtain⟨h1,h2⟩:=gV hys;refine⟨by simp[h1],λj z hz=>?_⟩;cases j with
  |zero=>simp at hz;subst hz;exact⟨y,Si,hy⟩
  |succ j=>
   simp at hz;obtain⟨u,hu,hf⟩:=h2 j z hz;exact⟨u,by simpa using hu,by rw[show i+(j+1)=i+1+j from by omega];exact hf⟩
structure Row(P:Program)(l:List bN)(T:Nat->TS)(H:Nat->ah):Prop where
 step:∀i o,l[i]? =some o->dR P o (T i) (H i) (T (i+1)) (H (i+1))/\(o.q=true->∃g,H (i+1)=H i++g)
theorem y8.row:∀{l}{ts ts'}{h h'},y8 P l ts h ts' h'->∃T H,T 0=ts/\H 0=h/\T l.length=ts'/\H l.length=h'/\Row P l T H
 |[],ts,ts',h,h',hs=>by
  obtain⟨rfl,rfl⟩:=hs;exact⟨λ_=>ts',λ_=>h',rfl,rfl,rfl,rfl,⟨λi o ho=>by simp at ho⟩⟩
 |o::r,ts,ts',h,h',hs=>by
  obtain⟨Ug,h1,bP,hq,hr⟩:=hs;obtain⟨T,H,hT,hH,T4,hH',hrow⟩:=hr.row;refine⟨λi=>match i with| 0=>ts|i+1=>T i,λi=>match i with| 0=>h|i+1=>H i,rfl,rfl,T4,hH',⟨λi x hx=>?_⟩⟩;cases i with
  |zero=>
   simp at hx;subst hx;show dR P o ts h (T 0) (H 0)/\_;rw[hT,hH];exact⟨bP,λq=>by show ∃g,H 0=h++g;rw[hH];exact hq q⟩
  |succ i=>exact hrow.step i x (by simpa using hx)
def nD(ts:TS)(d:Option Nat)(v:AV):(put ts d v).length=ts.length:=by cases d<;>simp[put]
theorem dR.put{o ts ts'}(hs:dR P o ts h ts' h'):∃v,ts' =put ts o.dst v:=by
 cases hs with
 |run=>exact⟨_,rfl⟩
 |skip=>exact⟨_,rfl⟩
def dN{ops q o io}(hc:bV P ops q o=some io):io.dst=o.dst/\io.q=q:=by
 unfold bV at hc;split at hc
 ·cases hc;exact⟨rfl,rfl⟩
 ·cases hc
def yB{ops:Array Oper}{l:List bN}(hc:cV P ops false=some l){ts ts':TS}{h h':ah}(hs:y8 P l ts h ts' h'){m:cw}{a:Act}{w:World}(st:St P m ts h a w)(ro:Option Nat)
  (Q:Exit->Act->World->Prop) (hQ:∀m' a' w',St P m' ts' h' a' w'->Grow m h w m' h' w'->a'.defers=a.defers->Q .normal a' w') (id:Nat):(Code.region id ops false).wpIn (Fd ro) 0 P Q a w:=by
 refine wpIn_region ?_;obtain⟨T,H,rfl,rfl,rfl,rfl,hrow⟩:=hs.row;obtain⟨hlen,SG⟩:=gV (show fA (λ_ o=>bV P ops false o) ops.toList 0=some l from hc);simp only[abY]at hlen;have key:∀(k j:Nat),j+k=ops.size->∀(m1:cw) (a1:Act) (w1:World),St P m1 (T j) (H j) a1 w1->Grow m (H 0) w m1 (H j) w1->a1.defers=a.defers->
   wpOpsIn (Fd ro) 0 P ops Q (List.range' j k) a1 w1:=by
  intro k
  induction k with
  |zero=>
   intro j hj m1 a1 w1 s1 g1 hd;have:j=l.length:=Om
   subst this;exact hQ m1 a1 w1 s1 g1 hd
  |succ k ih=>
   intro j hj m1 a1 w1 s1 g1 hd;rw[List.range'_succ,wpOpsIn_cons];have Zu:j<ops.size:=Om
   have ho:ops[j]? =some ops[j]:=aaF Zu;obtain⟨io,hio,SL⟩:=SG j ops[j] Si;obtain⟨bP,_⟩:=hrow.step j io hio;refine fX ho SL s1.hr.gv s1.hr (by simpa using s1.ts.length) (λt _=>nV s1.ts t) bP ro _ Q ?_;intro cv v m' w' Sv h1 h2 h3;have hle:=h3.le s1.hr.cT;exact ih (j+1) Om m' _ w' ⟨h2,by rw[Sv];exact ES (cQ.mono hle _ _ s1.ts) h1 _⟩ (g1.trans h3 st.hr.cT) (by rw[put_defers];exact hd)
 have:=key ops.size 0 Om m a w st (Grow.refl m _ w st.hr.cT) rfl
 rwa [<-List.range_eq_range']at this
end
end Go.Abs
