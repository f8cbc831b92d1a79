/- The abstract layer, part A: abstract values, the small code, the abstract heap, and how they lie in the model's world. No condition. · The abstract layer, part B: from the model's code to the small code. No condition. · The abstract layer, part C: a heap of ours and the model's world; what an operation leaves; new blocks, loads, stores. No condition. · The abstract layer, part D: what an operation of the small code does. No condition. · The abstract layer, part E: the operations of the small code are the model's: the plain ones. No condition. · The abstract layer, part F: the operations on numbers, strings and bools; comparisons; conversions. No condition. · The abstract layer, part G: slices, addresses, strings, maps, literals, lengths. No condition. · The abstract layer, part H: maps, iteration over strings, lengths, copies, append, conversions, slice literals. No condition. · The abstract layer, part I: lengths, copies, append, conversions of strings, slice literals. No condition. · The abstract layer, part J: append; what we may forget of a block; copy; bytes and strings; slice literals; the greatest and the least. No condition. · The abstract layer, part K: conversions, slice literals, the greatest and the least; all operations that call nothing, together. No condition. · The abstract layer, part L: all operations that call nothing, together. No condition. -/
import Derived.OrdersIn
import Derived.RangeFuncLeaves
import Derived.RangeFuncIn
import Derived.RangeFuncOwn
import Derived.Laws.Sem
import Derived.Laws.World
import Derived.Laws.Cells
import Derived.Laws.Entries
import Derived.Below
import Derived.MapKept
import Derived.Laws.Tables
import Derived.Laws.StructEq
set_option linter.all false
namespace Go.Abs
inductive AV where
 |bool (b:Bool)
 |int (k:IntKind) (n:Int)
 |flt (k:FloatKind) (b:Nat)
 |cplx (k:FloatKind) (re im:Nat)
 |str (s:List UInt8)
 |ptr (b o:Nat)
 |nilPtr
 |slice (b o n e:Nat)
 |nilSlice
 |map (r:Nat)
 |nilMap
 |func (f:Fn) (a c:List AV)
 |nilFunc
 |agg (l:List AV)
 |tup (l:List AV)
 |ifc (u:TypeId) (v:AV)
 |nilIfc
 |someIfc
 deriving Inhabited
def undefA:AV:=.tup []
def AV.cells:AV->List AV
 |.agg l=>l
 |v=>[v]
def AV.one:AV->Bool
 |.agg _=>false
 |.tup _=>false
 |.nilIfc=>false
 |_=>true
inductive Opd where
 |t (i:Nat)
 |c (v:AV)
 |g (i:Nat)
 |f (i:Nat)
 deriving Inhabited
inductive CK where
 |b
 |i
 |s
 |f
 |c
 deriving DecidableEq,Inhabited
inductive EqT where
 |one (k:CK)
 |agg (ks:List CK)
 |nilS
 |nilP
 |nilF
 |nilM
 |nilI
 deriving Inhabited
inductive ConvK where
 |i2i (k:IntKind)
 |s2b
 |b2s
 |same
 |i2f (k:FloatKind)
 |f2i (k:IntKind)
 |f2f (k:FloatKind)
 |cre
 |cim
 |ifc (u:TypeId)
 deriving Inhabited
inductive LK where
 |sl
 |st
 |mp
 deriving DecidableEq,Inhabited
inductive OpK where
 |mov (x:Opd)
 |pick (c a b:Opd)
 |box (x:Opd)
 |boxn (n:Nat) (x:Opd)
 |build (z:List AV) (ps:List (Nat×Nat×Opd))
 |bslice (es:Nat) (n:Nat) (z:List AV) (ps:List (Nat×Opd))
 |load (n:Option Nat) (a:Opd)
 |store (n:Nat) (a x:Opd)
 |nilchk (x:Opd)
 |bin (op:BinOp) (x y:Opd)
 |eqv (neg:Bool) (t:EqT) (x y:Opd)
 |eqp (neg:Bool) (x y:Opd)
 |un (op:UnOp) (x:Opd)
 |conv (k:ConvK) (x:Opd)
 |mkfn (f:Fn) (a c:List Opd)
 |mkmap
 |mksl (es w:Nat) (z:List AV) (l c:Opd)
 |sl (es:Nat) (x:Opd) (lo hi:Option Opd)
 |sls (x:Opd) (lo hi:Option Opd)
 |sla (n es:Nat) (x:Opd) (lo hi:Option Opd)
 |fadr (off:Nat) (x:Opd)
 |iadr (es:Nat) (x i:Opd)
 |iada (len es:Nat) (x i:Opd)
 |part (n:Option Nat) (off:Nat) (x:Opd)
 |ixa (len es:Nat) (n:Option Nat) (x i:Opd)
 |ixs (x i:Opd)
 |look (kk:CK) (z:AV) (ok:Bool) (m k:Opd)
 |mupd (kk:CK) (m k x:Opd)
 |rstr (x:Opd)
 |nexts (x:Opd)
 |ext (x:Opd) (i:Nat)
 |call (f:Opd) (args:List Opd)
 |len (lk:LK) (x:Opd)
 |lenc (n:Nat)
 |app (es w:Nat) (x y:Opd)
 |cpy (es:Nat) (x y:Opd)
 |mx (x:Opd) (l:List Opd)
 |mn (x:Opd) (l:List Opd)
 |cpx (x y:Opd)
 |bad
 deriving Inhabited
structure IOp where
 dst:Option Nat
 k:OpK
 gd:Option (Nat×Bool)
 q:Bool
 deriving Inhabited
def inR(d:Option Nat)(k:OpK)(n:Nat):Prop:=
 match k,d with
 |.boxn _ _,some d=>d<n
 |_,_=>True
inductive ICode where
 |skip
 |ops (l:List IOp)
 |opsS (l:List IOp)
 |opsM (l:List IOp)
 |seq (a b:ICode)
 |cond (c:Opd) (a b:ICode)
 |block (id:Nat) (a:ICode)
 |loop (a:ICode)
 |exit (id:Nat)
 |ret
 |rangeF (g:Opd) (ps:List Nat) (asg body:ICode)
 |bad
 deriving Inhabited
inductive Ex where
 |normal
 |exit (id:Nat)
 |ret
 deriving DecidableEq,Inhabited
def Ex.conc:Ex->Exit
 |.normal=>.normal
 |.exit id=>.exit id
 |.ret=>.ret
def Ex.jump:Ex->Option Code
 |.normal=>none
 |.exit id=>some (.exit id)
 |.ret=>some .ret
inductive ABlk where
 |cells (c:List AV) (mu tl:Bool)
 |dead
 |mapb (es:List (AV×AV))
 |iter (s:List UInt8) (pos:Nat)
 |loop (st:LoopState) (ex:Ex) (ts:List AV) (ps:List Nat) (asg body:ICode)
 deriving Inhabited
abbrev AHeap:=List ABlk
abbrev TS:=List AV
structure Ent where
 cb:Nat
 d:Nat
 sz:Nat
 own:Bool
abbrev Emb:=Nat->Option Ent
def Emb.le(m m':Emb):Prop:=∀b e,m b=some e->m' b=some e
def Emb.le_trans{a b c:Emb}(h:a.le b)(k:b.le c):a.le c:=λx e hx=>k x e (h x e hx)
def nanB(k:FloatKind)(b:Nat):Bool:=(k.format.order b b).isNone
def FR(k:FloatKind)(b b':Nat):Prop:=b' =b\/(nanB k b=true/\nanB k b' =true)
def FnR(m:Emb):Fn->Fn->Prop
 |.yield l,g=>∃e,m l=some e/\g=.yield e.cb
 |f,g=>g=f
mutual
def VR(m:Emb):AV->Value->Prop
 |.bool b,v=>v=.bool b
 |.int k n,v=>v=.int k n
 |.flt k b,v=>∃b',v=.float k b'/\FR k b b'
 |.cplx k x y,v=>∃x' y',v=.complex k x' y'/\FR k x x'/\FR k y y'
 |.str s,v=>v=.string ⟨⟨s⟩⟩
 |.ptr b o,v=>∃e,m b=some e/\v=.pointer (some ⟨e.cb,o+e.d,none⟩)
 |.nilPtr,v=>v=.pointer none
 |.slice b o n es,v=>∃e ca cap,m b=some e/\v=.slice (some ca) n cap/\n<=cap/\(0<cap->ca=⟨e.cb,o+e.d,none⟩)/\o+e.d+cap*es<=e.sz
 |.nilSlice,v=>v=.slice none 0 0
 |.map r,v=>∃e,m r=some e/\v=.map (some e.cb)
 |.nilMap,v=>v=.map none
 |.func f a c,v=>∃f' a' c',v=.func f' ⟨a'⟩ ⟨c'⟩/\FnR m f f'/\VRs m a a'/\VRs m c c'
 |.nilFunc,v=>v=.nilFunc
 |.agg l,v=>∃l',v=.agg ⟨l'⟩/\VRs m l l'
 |.tup l,v=>∃l',v=.tuple ⟨l'⟩/\VRs m l l'
 |.ifc u a,v=>∃v',v=.iface u v'/\VR m a v'
 |.nilIfc,v=>v=.nilIface
 |.someIfc,v=>∃u x,v=.iface u x
def VRs(m:Emb):List AV->List Value->Prop
 |[],vs=>vs=[]
 |x::xs,vs=>∃y ys,vs=y::ys/\VR m x y/\VRs m xs ys
end
def FnR.mono{m m'}(h:m.le m'):∀{f g},FnR m f g->FnR m' f g:=by
 intro f g hf;cases f<;>simp only[FnR]at hf ⊢<;>try exact hf
 obtain⟨e,he,hg⟩:=hf;exact⟨e,h _ _ he,hg⟩
mutual
theorem VR.mono{m m'}(h:m.le m'):∀(a:AV) (v:Value),VR m a v->VR m' a v
 |.bool _,v,hv=>hv
 |.int _ _,v,hv=>hv
 |.flt _ _,v,hv=>hv
 |.cplx _ _ _,v,hv=>hv
 |.str _,v,hv=>hv
 |.ptr b o,v,hv=>by
  obtain⟨e,he,hv⟩:=(show ∃e,m b=some e/\v=.pointer (some ⟨e.cb,o+e.d,none⟩)from hv);exact⟨e,h _ _ he,hv⟩
 |.nilPtr,v,hv=>hv
 |.slice b o n es,v,hv=>by
  obtain⟨e,ca,cap,he,hr⟩:=(show ∃e ca cap,m b=some e/\v=.slice (some ca) n cap/\n<=cap/\(0<cap->ca=⟨e.cb,o+e.d,none⟩)/\o+e.d+cap*es<=e.sz from hv);exact⟨e,ca,cap,h _ _ he,hr⟩
 |.nilSlice,v,hv=>hv
 |.map r,v,hv=>by
  obtain⟨e,he,hv⟩:=(show ∃e,m r=some e/\v=.map (some e.cb)from hv);exact⟨e,h _ _ he,hv⟩
 |.nilMap,v,hv=>hv
 |.func f a c,v,hv=>by
  obtain⟨f',a',c',hv,hf,ha,hc⟩:=(show ∃f' a' c',v=.func f' ⟨a'⟩ ⟨c'⟩/\FnR m f f'/\VRs m a a'/\VRs m c c' from hv);exact⟨f',a',c',hv,hf.mono h,VRs.mono h a a' ha,VRs.mono h c c' hc⟩
 |.nilFunc,v,hv=>hv
 |.agg l,v,hv=>by
  obtain⟨l',hv,hl⟩:=(show ∃l',v=.agg ⟨l'⟩/\VRs m l l' from hv);exact⟨l',hv,VRs.mono h l l' hl⟩
 |.tup l,v,hv=>by
  obtain⟨l',hv,hl⟩:=(show ∃l',v=.tuple ⟨l'⟩/\VRs m l l' from hv);exact⟨l',hv,VRs.mono h l l' hl⟩
 |.ifc u a,v,hv=>by
  obtain⟨v',hv,ha⟩:=(show ∃v',v=.iface u v'/\VR m a v' from hv);exact⟨v',hv,VR.mono h a v' ha⟩
 |.nilIfc,v,hv=>hv
 |.someIfc,v,hv=>hv
theorem VRs.mono{m m'}(h:m.le m'):∀(l:List AV) (vs:List Value),VRs m l vs->VRs m' l vs
 |[],_,hv=>hv
 |x::xs,vs,hv=>by
  obtain⟨y,ys,hv,hx,hxs⟩:=(show ∃y ys,vs=y::ys/\VR m x y/\VRs m xs ys from hv);exact⟨y,ys,hv,VR.mono h x y hx,VRs.mono h xs ys hxs⟩
end
def VRs_nil{m vs}:VRs m [] vs↔vs=[]:=Iff.rfl
def VRs_cons{m x xs vs}:VRs m (x::xs) vs↔∃y ys,vs=y::ys/\VR m x y/\VRs m xs ys:=Iff.rfl
theorem VRs.length{m}:∀{l}{vs},VRs m l vs->vs.length=l.length
 |[],_,h=>by rw[VRs_nil]at h;simp[h]
 |x::xs,vs,h=>by
  obtain⟨y,ys,rfl,_,hxs⟩:=VRs_cons.1 h;simp[VRs.length hxs]
theorem VRs.get{m:Emb}:∀{l:List AV}{vs:List Value},VRs m l vs->∀{i:Nat}{x:AV},l[i]? =some x->∃y,vs[i]? =some y/\VR m x y
 |[],_,_,i,x,h=>by simp at h
 |z::zs,vs,h,i,x,hx=>by
  obtain⟨y,ys,rfl,hy,hys⟩:=VRs_cons.1 h;cases i with
  |zero=>simp at hx;subst hx;exact⟨y,by simp,hy⟩
  |succ i=>simp at hx;simpa using VRs.get hys hx
theorem VRs.of_get{m}:∀{l}{vs},vs.length=l.length->(∀(i:Nat) (x:AV),l[i]? =some x->∃y,vs[i]? =some y/\VR m x y)->VRs m l vs
 |[],vs,hl,_=>by rw[VRs_nil];exact List.length_eq_zero_iff.1 (by simpa using hl)
 |x::xs,[],hl,_=>by simp at hl
 |x::xs,v::vs,hl,h=>by
  refine VRs_cons.2 ⟨v,vs,rfl,?_,VRs.of_get (by simpa using hl) λi z hz=>?_⟩
  ·obtain⟨y,hy,hr⟩:=h 0 x (by simp);simp at hy;subst hy;exact hr
  ·obtain⟨y,hy,hr⟩:=h (i+1) z (by simpa using hz);exact⟨y,by simpa using hy,hr⟩
theorem VRs.append{m}:∀{a b}{va vb},VRs m a va->VRs m b vb->VRs m (a++b) (va++vb)
 |[],b,va,vb,ha,hb=>by rw[VRs_nil]at ha;subst ha;simpa using hb
 |x::xs,b,va,vb,ha,hb=>by
  obtain⟨y,ys,rfl,hy,hys⟩:=VRs_cons.1 ha;exact VRs_cons.2 ⟨y,ys++vb,by simp,hy,VRs.append hys hb⟩
theorem VRs.set{m:Emb}{l:List AV}{vs:List Value}(h:VRs m l vs)(i:Nat){x:AV}{v:Value}(hx:VR m x v):VRs m (l.set i x) (vs.set i v):=by
 refine VRs.of_get (by simp[h.length]) λj z hz=>?_
 rw[List.getElem?_set]at hz ⊢;by_cases hij:i=j
 ·simp only[hij,if_true]at hz ⊢;split at hz
  ·simp only[Option.some.injEq]at hz;subst hz;rename_i hlt;exact⟨v,by simp[h.length,hlt],hx⟩
  ·simp at hz
 ·simp only[hij,if_false]at hz ⊢;exact h.get hz
theorem VRs.take{m}:∀{l}{vs}(n:Nat),VRs m l vs->VRs m (l.take n) (vs.take n)
 |[],vs,n,h=>by rw[VRs_nil]at h;subst h;simp[VRs_nil]
 |x::xs,vs,0,h=>by simp[VRs_nil]
 |x::xs,vs,n+1,h=>by
  obtain⟨y,ys,rfl,hy,hys⟩:=VRs_cons.1 h;exact VRs_cons.2 ⟨y,ys.take n,by simp,hy,VRs.take n hys⟩
theorem VRs.drop{m}:∀{l}{vs}(n:Nat),VRs m l vs->VRs m (l.drop n) (vs.drop n)
 |[],vs,n,h=>by rw[VRs_nil]at h;subst h;simp[VRs_nil]
 |x::xs,vs,0,h=>by simpa using h
 |x::xs,vs,n+1,h=>by
  obtain⟨y,ys,rfl,hy,hys⟩:=VRs_cons.1 h
  simpa using VRs.drop n hys
theorem VR.one{m x v}(h:VR m x v)(hx:x.one=true):v.cells=#[v]:=by
 cases x with
 |agg l=>cases hx
 |tup l=>cases hx
 |bool b=>rw[VR]at h;subst h;rfl
 |int k n=>rw[VR]at h;subst h;rfl
 |flt k b=>rw[VR]at h;obtain⟨_,rfl,_⟩:=h;rfl
 |cplx k x y=>rw[VR]at h;obtain⟨_,_,rfl,_⟩:=h;rfl
 |str s=>rw[VR]at h;subst h;rfl
 |ptr b o=>rw[VR]at h;obtain⟨_,_,rfl⟩:=h;rfl
 |nilPtr=>rw[VR]at h;subst h;rfl
 |slice b o n e=>rw[VR]at h;obtain⟨_,_,_,_,rfl,_⟩:=h;rfl
 |nilSlice=>rw[VR]at h;subst h;rfl
 |map r=>rw[VR]at h;obtain⟨_,_,rfl⟩:=h;rfl
 |nilMap=>rw[VR]at h;subst h;rfl
 |func f a c=>rw[VR]at h;obtain⟨_,_,_,rfl,_⟩:=h;rfl
 |nilFunc=>rw[VR]at h;subst h;rfl
 |ifc u a=>rw[VR]at h;obtain⟨_,rfl,_⟩:=h;rfl
 |nilIfc=>cases hx
 |someIfc=>rw[VR]at h;obtain⟨_,_,rfl⟩:=h;rfl
def VR.oneCell{m x v}(h:VR m x v)(hx:x.one=true):v.oneCell' =true:=by
 cases x with
 |agg l=>cases hx
 |tup l=>cases hx
 |bool b=>rw[VR]at h;subst h;rfl
 |int k n=>rw[VR]at h;subst h;rfl
 |flt k b=>rw[VR]at h;obtain⟨_,rfl,_⟩:=h;rfl
 |cplx k x y=>rw[VR]at h;obtain⟨_,_,rfl,_⟩:=h;rfl
 |str s=>rw[VR]at h;subst h;rfl
 |ptr b o=>rw[VR]at h;obtain⟨_,_,rfl⟩:=h;rfl
 |nilPtr=>rw[VR]at h;subst h;rfl
 |slice b o n e=>rw[VR]at h;obtain⟨_,_,_,_,rfl,_⟩:=h;rfl
 |nilSlice=>rw[VR]at h;subst h;rfl
 |map r=>rw[VR]at h;obtain⟨_,_,rfl⟩:=h;rfl
 |nilMap=>rw[VR]at h;subst h;rfl
 |func f a c=>rw[VR]at h;obtain⟨_,_,_,rfl,_⟩:=h;rfl
 |nilFunc=>rw[VR]at h;subst h;rfl
 |ifc u a=>rw[VR]at h;obtain⟨_,rfl,_⟩:=h;rfl
 |nilIfc=>cases hx
 |someIfc=>rw[VR]at h;obtain⟨_,_,rfl⟩:=h;rfl
theorem VR.cells{m x v}(h:VR m x v):VRs m x.cells v.cells.toList:=by
 by_cases hx:x.one=true
 ·have hc:x.cells=[x]:=by cases x<;>first|rfl|cases hx
  rw[h.one hx,hc];exact VRs_cons.2 ⟨v,[],rfl,h,VRs_nil.2 rfl⟩
 ·cases x with
  |agg l=>rw[VR]at h;obtain⟨l',rfl,hl⟩:=h;exact hl
  |tup l=>exact VRs_cons.2 ⟨v,[],by rw[VR]at h;obtain⟨l',rfl,hl⟩:=h;rfl,h,VRs_nil.2 rfl⟩
  |nilIfc=>exact VRs_cons.2 ⟨v,[],by rw[VR]at h;subst h;rfl,h,VRs_nil.2 rfl⟩
  |_=>exact absurd rfl hx
def val(ts:TS):Opd->AV
 |.t i=>ts.getD i undefA
 |.c v=>v
 |.g i=>.ptr i 0
 |.f i=>.func (.func i) [] []
def put(ts:TS)(d:Option Nat)(v:AV):TS:=
 match d with
 |some d=>ts.set d v
 |none=>ts
def wanted(g:Option (Nat×Bool))(ts:TS):Prop:=
 match g with
 |none=>True
 |some (t,b)=>ts[t]? =some (.bool b)
def tailOf(h:AHeap)(b:Nat):Bool:=
 match h[b]? with
 |some (.cells _ _ tl)=>tl
 |_=>false
end Go.Abs
namespace Go.Abs
def absV:Nat->Value->Option AV
 | 0,_=>none
 |n+1,v=>
  match v with
  |.bool b=>some (.bool b)
  |.int k i=>some (.int k i)
  |.float k b=>some (.flt k b)
  |.complex k x y=>some (.cplx k x y)
  |.string s=>some (.str s.data.toList)
  |.pointer none=>some .nilPtr
  |.slice none 0 0=>some .nilSlice
  |.map none=>some .nilMap
  |.nilFunc=>some .nilFunc
  |.nilIface=>some .nilIfc
  |.agg cs=>(cs.toList.mapM (absV n)).map .agg
  |.tuple cs=>(cs.toList.mapM (absV n)).map .tup
  |_=>none
def opd?:Operand->Option Opd
 |.tmp t=>some (.t t)
 |.const v=>(absV 4 v).map .c
 |.global g=>some (.g g)
 |.func f=>some (.f f)
def opl?:Operand->Option Opd
 |.global _=>none
 |x=>opd? x
def opds?(l:Array Operand):Option (List Opd):=l.toList.mapM opd?
def opdo?:Option Operand->Option (Option Opd)
 |none=>some none
 |some x=>(opd? x).map some
def isAggD:TypeDesc->Bool
 |.struct _=>true
 |.array _ _=>true
 |_=>false
def nOf(P:Program)(t:TypeId):Option (Option Nat):=
 match P.underlying t with
 |some d=>if isAggD d then(P.info? t).map λi=>some i.size else some none
 |none=>none
def sizeN(P:Program)(t:TypeId):Option Nat:=(P.info? t).map (·.size)
def zeroA(P:Program)(t:TypeId):Option AV:=(P.info? t).bind λi=>i.zero.bind (absV 4)
def flats(P:Program)(F:TypeId->Option (List CK)):List Field->Nat->Option (List CK)
 |[],_=>some []
 |f::fs,off=>
  match F f.type,P.info? f.type with
  |some ks,some i=>
   if f.name≠ "_"/\f.offset=off/\i.size=ks.length/\0<ks.length then
    match flats P F fs (off+ks.length)with
    |some r=>some (ks++r)
    |none=>none
   else none
  |_,_=>none
def flat(P:Program):Nat->TypeId->Option (List CK)
 | 0,_=>none
 |d+1,t=>
  match P.underlying t with
  |some .bool=>some [.b]
  |some (.int _)=>some [.i]
  |some .string=>some [.s]
  |some (.float _)=>some [.f]
  |some (.complex _)=>some [.c]
  |some (.struct fs)=>if P.stoodInHeld t=false then flats P (flat P d) fs.toList 0 else none
  |some (.array len e)=>
   match flat P d e,P.info? e with
   |some ks,some i=>if i.size=ks.length/\0<ks.length then some (List.replicate len ks).flatten else none
   |_,_=>none
  |_=>none
def eqIK(neg:Bool)(x y:Opd):Option OpK:=
 match y with
 |.c .nilIfc=>some (.eqv neg .nilI x y)
 |_=>none
def eqIK_some{neg x y k}(h:eqIK neg x y=some k):y=.c .nilIfc/\k=.eqv neg .nilI x y:=by
 unfold eqIK at h;split at h
 ·cases h;exact⟨rfl,rfl⟩
 ·cases h
def eqPK(nz neg:Bool)(x y:Opd):Option OpK:=
 match x,y with
 |_,.c .nilPtr=>some (.eqv neg .nilP x y)
 |.c .nilPtr,_=>some (.eqv neg .nilP x y)
 |_,_=>if nz then some (.eqp neg x y)else none
def eqPK_or{nz neg:Bool}{x y:Opd}{k:OpK}(h:eqPK nz neg x y=some k):k=.eqv neg .nilP x y\/(k=.eqp neg x y/\nz=true):=by
 unfold eqPK at h;split at h
 ·cases h;exact .inl rfl
 ·cases h;exact .inl rfl
 ·split at h
  ·rename_i hz;cases h;exact .inr ⟨rfl,hz⟩
  ·cases h
def nzT(P:Program)(t:TypeId):Bool:=
 match P.info? t with
 |some i=>!Nat.beq i.size 0
 |none=>false
def eqK(P:Program)(neg:Bool)(t:TypeId)(x y:Opd):Option OpK:=
 match P.underlying t with
 |some (.int _)=>some (.bin (if neg then .neq else .eql) x y)
 |some .string=>some (.bin (if neg then .neq else .eql) x y)
 |some (.float _)=>some (.bin (if neg then .neq else .eql) x y)
 |some .bool=>some (.eqv neg (.one .b) x y)
 |some (.complex _)=>some (.eqv neg (.one .c) x y)
 |some (.struct _)=>if P.eqGuardType P.depth t=false then(flat P 20 t).map λks=>.eqv neg (.agg ks) x y else none
 |some (.array _ _)=>if P.eqGuardType P.depth t=false then(flat P 20 t).map λks=>.eqv neg (.agg ks) x y else none
 |some (.slice _)=>some (.eqv neg .nilS x y)
 |some (.pointer e)=>eqPK (nzT P e) neg x y
 |some (.func _ _ _)=>some (.eqv neg .nilF x y)
 |some (.map _ _)=>some (.eqv neg .nilM x y)
 |some (.interface _)=>eqIK neg x y
 |_=>none
def isU8(P:Program)(e:TypeId):Bool:=
 match P.underlying e with
 |some (.int .u8)=>true
 |_=>false
def convK(P:Program)(s d:TypeId):Option ConvK:=
 match P.underlying s,P.underlying d with
 |some (.int _),some (.int k)=>some (.i2i k)
 |some (.int _),some (.float k)=>some (.i2f k)
 |some (.float _),some (.int k)=>some (.f2i k)
 |some (.float _),some (.float k)=>some (.f2f k)
 |some .string,some .string=>some .same
 |some .string,some (.slice e)=>if isU8 P e=true then some .s2b else none
 |some (.slice e),some .string=>if isU8 P e=true then some .b2s else none
 |_,_=>none
def fieldAt(P:Program)(t:TypeId)(i:Nat):Option Field:=
 match P.underlying t with
 |some (.struct fs)=>fs[i]?
 |_=>none
def placeAt(P:Program)(t:TypeId)(i:Nat):Option (Nat×Nat):=
 match P.underlying t with
 |some (.struct fs)=>
  match fs.toList.mapM (λf=>(P.info? f.type).map λi=>(f.offset,i.size))with
  |some places=>places[i]?
  |none=>none
 |some (.array _ e)=>(P.info? e).map λie=>(i*ie.size,ie.size)
 |_=>none
def placesOk(P:Program)(t:TypeId):Bool:=
 match P.underlying t with
 |some (.struct fs)=>(fs.toList.mapM (λf=>(P.info? f.type).map λi=>(f.offset,i.size))).isSome
 |some (.array _ e)=>(P.info? e).isSome
 |_=>false
def buildPs(P:Program)(t:TypeId):List (Nat×Operand)->Option (List (Nat×Nat×Opd))
 |[]=>some []
 |(i,x)::r=>
  match placeAt P t i,opd? x,buildPs P t r with
  |some (off,n),some y,some r=>some ((off,n,y)::r)
  |_,_,_=>none
def sliceElem(P:Program)(t:TypeId):Option (TypeId×TypeInfo):=
 match P.underlying t with
 |some (.slice e)=>(P.info? e).map λi=>(e,i)
 |_=>none
def builtinK(P:Program)(b:Builtin)(ts:Array TypeId)(args:List Opd):Option OpK:=
 match b,args with
 |.len,[x]=>
  match (ts[0]?).bind P.underlying with
  |some (.slice _)=>some (.len .sl x)
  |some .string=>some (.len .st x)
  |some (.map _ _)=>some (.len .mp x)
  |some (.array n _)=>some (.lenc n)
  |_=>none
 |.append,[x,y]=>
  match (ts[0]?).bind (sliceElem P),(ts[1]?).bind P.underlying with
  |some (_,i),some (.slice _)=>if 0<i.size/\0<i.bytes/\i.bytes<=2^20 then(i.zero.bind (absV 4)).bind λz=>if z.cells.length=i.size then some (.app i.size i.bytes x y)else none else none
  |some (_,i),some .string=>if 0<i.size/\0<i.bytes/\i.bytes<=2^20 then(i.zero.bind (absV 4)).bind λz=>if z.cells.length=i.size then some (.app i.size i.bytes x y)else none else none
  |_,_=>none
 |.copy,[x,y]=>
  match (ts[0]?).bind (sliceElem P)with
  |some (_,i)=>if 0<i.size then some (.cpy i.size x y)else none
  |_=>none
 |.max,x::l=>some (.mx x l)
 |.min,x::l=>some (.mn x l)
 |.complex,[x,y]=>some (.cpx x y)
 |.real,[x]=>some (.conv .cre x)
 |.imag,[x]=>some (.conv .cim x)
 |_,_=>none
def keyK(P:Program)(t:TypeId):Option CK:=
 match P.underlying t with
 |some (.int _)=>some .i
 |some .string=>some .s
 |some .bool=>some .b
 |_=>none
def notYield:Fn->Bool
 |.yield _=>false
 |_=>true
def compileK(P:Program)(o:Oper):Option OpK:=
 match o.op with
 |.move x=>(opd? x).map .mov
 |.assign x=>(opd? x).map .mov
 |.pick c a b=>
  match opd? c,opd? a,opd? b with
  |some c,some a,some b=>some (.pick c a b)
  |_,_,_=>none
 |.alloc e=>
  match zeroA P e with
  |some z=>if z.cells.all AV.one then some (.box (.c z))else none
  |none=>none
 |.box _ x=>(opd? x).map .box
 |.build t ps=>
  match zeroA P t,buildPs P t ps.toList with
  |some z,some l=>if placesOk P t=true then some (.build z.cells l)else none
  |_,_=>none
 |.buildSlice t n ps=>
  match sliceElem P t with
  |some (e,i)=>
   match zeroA P e,ps.toList.mapM λp=>(opd? p.2).map λy=>(p.1*i.size,y)with
   |some z,some l=>if 0<i.size/\z.cells.length=i.size/\z.cells.all AV.one/\n*i.size<=2^24 then some (.bslice i.size n z.cells l)else none
   |_,_=>none
  |none=>none
 |.load t a=>
  match nOf P t,opd? a with
  |some n,some a=>some (.load n a)
  |_,_=>none
 |.store t a x=>
  match sizeN P t,opd? a,opd? x with
  |some n,some a,some x=>some (.store n a x)
  |_,_,_=>none
 |.nilCheck x=>(opd? x).map .nilchk
 |.binOp op t x y _=>
  match opd? x,opd? y with
  |some x,some y=>
   match op with
   |.eql=>eqK P false t x y
   |.neq=>eqK P true t x y
   |_=>some (.bin op x y)
  |_,_=>none
 |.unOp op _ x=>(opd? x).map (.un op)
 |.convert s d x=>
  match convK P s d,opd? x with
  |some k,some x=>some (.conv k x)
  |_,_=>none
 |.makeInterface t x=>
  match P.underlying t,opd? x with
  |some (.interface _),_=>none
  |some _,some x=>some (.conv (.ifc t) x)
  |_,_=>none
 |.makeFunc fn a c=>
  if notYield fn=true then
   match opds? a,opds? c with
   |some a,some c=>some (.mkfn fn a c)
   |_,_=>none
  else none
 |.makeMap _ none=>some .mkmap
 |.makeSlice t l c=>
  match sliceElem P t,opd? l,opd? c with
  |some (e,i),some l,some c=>
   match zeroA P e with
   |some z=>if 0<i.size/\z.cells.length=i.size/\z.cells.all AV.one then some (.mksl i.size i.bytes z.cells l c)else none
   |none=>none
  |_,_,_=>none
 |.slice t x lo hi none=>
  match opd? x,opdo? lo,opdo? hi with
  |some x,some lo,some hi=>
   match P.underlying t with
   |some .string=>some (.sls x lo hi)
   |some (.slice e)=>(sizeN P e).map λn=>.sl n x lo hi
   |some (.array k e)=>(sizeN P e).map λn=>.sla k n x lo hi
   |_=>none
  |_,_,_=>none
 |.fieldAddr t x i=>
  match fieldAt P t i,opd? x with
  |some f,some x=>
   match sizeN P f.type with
   |some n=>if 0<n then some (.fadr f.offset x)else none
   |none=>none
  |_,_=>none
 |.indexAddr t x i=>
  match opd? x,opd? i with
  |some x,some i=>
   match P.underlying t with
   |some (.slice e)=>(sizeN P e).map λn=>.iadr n x i
   |some (.array k e)=>(sizeN P e).map λn=>.iada k n x i
   |_=>none
  |_,_=>none
 |.field t x i=>
  match fieldAt P t i,opd? x with
  |some f,some x=>(nOf P f.type).map λn=>.part n f.offset x
  |_,_=>none
 |.index t x i=>
  match opd? x,opd? i with
  |some x,some i=>
   match P.underlying t with
   |some .string=>some (.ixs x i)
   |some (.array k e)=>
    match sizeN P e,nOf P e with
    |some n,some q=>some (.ixa k n q x i)
    |_,_=>none
   |_=>none
  |_,_=>none
 |.lookup t m k ok=>
  match P.underlying t,opd? m,opd? k with
  |some (.map kt e),some m,some k=>
   match keyK P kt,zeroA P e with
   |some kk,some z=>some (.look kk z ok m k)
   |_,_=>none
  |_,_,_=>none
 |.mapUpdate t m k x=>
  match P.underlying t,opd? m,opd? k,opd? x with
  |some (.map kt _),some m,some k,some x=>(keyK P kt).map λkk=>.mupd kk m k x
  |_,_,_,_=>none
 |.insert t m k x=>
  match P.underlying t,opd? m,opd? k,opd? x with
  |some (.map kt _),some m,some k,some x=>(keyK P kt).map λkk=>.mupd kk m k x
  |_,_,_,_=>none
 |.range t x=>
  match P.underlying t with
  |some .string=>(opd? x).map .rstr
  |_=>none
 |.next x true=>(opd? x).map .nexts
 |.extract x i=>(opd? x).map λx=>.ext x i
 |.call c=>
  match opds? c.args with
  |some l=>
   match c.callee with
   |.value f=>(opd? f).map λf=>.call f l
   |.invoke r name=>(opd? r).map λr=>.call (.c (.func (.method name) [] [])) (r::l)
   |.builtin b=>builtinK P b c.argTypes l
  |none=>none
 |_=>none
def guardA(ops:Array Oper)(g:Option (Nat×Bool)):Option (Option (Nat×Bool)):=
 match g with
 |none=>some none
 |some (j,b)=>((ops[j]?).bind (·.dst)).map λd=>some (d,b)
def gOk(P:Program):Operand->Bool
 |.global g=>decide (g<P.globals.size)
 |_=>true
def compileOp(P:Program)(ops:Array Oper)(q:Bool)(o:Oper):Option IOp:=
 match guardA ops o.guard with
 |some g=>some {dst:=o.dst,k:=if o.op.operands.toList.all (gOk P)then(compileK P o).getD .bad else .bad,gd:=g,q:=q}
 |none=>none
def ahead(M:Array Nat)(i j:Nat):Bool:=(M.getD j 0).testBit i
def edgesOk(M:Array Nat)(ops:Array Oper):Bool:=
 (List.range ops.size).all λj=>
  match ops[j]? with
  |none=>true
  |some o=>
   (o.after.toList.all λe=>!Region.binds .any e||decide (e.on<j)) &&
   ((List.range ops.size).all λi=>!ahead M i j||o.after.toList.any λe=>Region.binds .any e&&(e.on==i||ahead M i e.on))
def slotsOk(M:Array Nat)(ops:Array Oper):Bool:=
 (List.range ops.size).all λj=>
  (List.range j).all λi=>
   match ops[i]?,ops[j]? with
   |some x,some y=>
    (match x.dst with
     |some d=>y.dst !=some d&&(!(y.looksAt ops).contains d||ahead M i j)
     |none=>true) &&
    (match y.dst with
     |some d=>!(x.looksAt ops).contains d||ahead M i j
     |none=>true)
   |_,_=>true
def barrier(M:Array Nat)(n j:Nat):Bool:=
 (List.range n).all λi=>i==j||(if i<j then ahead M i j else ahead M j i)
def zipMapM{α β:Type}(f:Nat->α->Option β):List α->Nat->Option (List β)
 |[],_=>some []
 |x::xs,i=>
  match f i x,zipMapM f xs (i+1)with
  |some y,some ys=>some (y::ys)
  |_,_=>none
def conA:AV->Bool
 |.bool _=>true
 |.int _ _=>true
 |.flt _ _=>true
 |.cplx _ _ _=>true
 |.str _=>true
 |.nilPtr=>true
 |.nilSlice=>true
 |.nilMap=>true
 |.nilFunc=>true
 |_=>false
def storeOf(o:IOp):Option (Nat×Nat×Opd):=
 match o.dst,o.k,o.gd,o.q with
 |none,.store n (.t t) x,none,true=>some (n,t,x)
 |_,_,_,_=>none
def boxOf(o:IOp):Option (Nat×AV):=
 match o.dst,o.k,o.gd,o.q with
 |some t,.box (.c z),none,true=>some (t,z)
 |_,_,_,_=>none
def looksB(ops:Array Oper)(j t:Nat):Bool:=
 match ops[j]? with
 |some o=>(o.looksAt ops).contains t
 |none=>false
def pairOk(ops:Array Oper)(l:List IOp)(k s:Nat):Bool:=
 match (l[k]?).bind boxOf,(l[s]?).bind storeOf with
 |some (t,z),some (n,t',x)=>
  t==t'&&z.cells.length==n&&z.cells.all conA&&(match x with|.t u=>u !=t&&looksB ops s u|_=>true)&&looksB ops s t&&(List.range ops.size).all λj=>j==s || !looksB ops j t
 |_,_=>false
def kOf(ops:Array Oper)(l:List IOp)(s:Nat):Option Nat:=(List.range s).find? λk=>pairOk ops l k s
def sOf(ops:Array Oper)(l:List IOp)(k:Nat):Option Nat:=(List.range l.length).find? λs=>decide (k<s)&&pairOk ops l k s
def fuse1(ops:Array Oper)(l:List IOp)(j:Nat)(o:IOp):IOp:=
 match storeOf o with
 |some (n,t,x)=>
  match kOf ops l j with
  |some _=>{dst:=some t,k:=.boxn n x,gd:=none,q:=true}
  |none=>o
 |none=>
  match boxOf o with
  |some _=>
   match sOf ops l j with
   |some _=>{dst:=none,k:=.mov (.c (.bool false)),gd:=none,q:=true}
   |none=>o
  |none=>o
def fuseL(ops:Array Oper)(l:List IOp):Nat->List IOp->List IOp
 |_,[]=>[]
 |j,o::r=>fuse1 ops l j o::fuseL ops l (j+1) r
def compileRegion(P:Program)(ops:Array Oper)(draw:Bool):Option (List IOp):=
 if draw then
  let M:=Region.before ops
  if edgesOk M ops&&slotsOk M ops then
   (zipMapM (λi o=>compileOp P ops (!barrier M ops.size i) o) ops.toList 0).map λl=>fuseL ops l 0 l
  else none
 else zipMapM (λ_ o=>compileOp P ops false o) ops.toList 0
def pureK:OpK->Bool
 |.mov _=>true
 |.pick _ _ _=>true
 |.bin _ _ _=>true
 |.cpx _ _=>true
 |.eqv _ _ _ _=>true
 |.un _ _=>true
 |.conv (.i2i _) _=>true
 |.fadr _ _=>true
 |.iada _ _ _ _=>true
 |.iadr _ _ _=>true
 |.part _ _ _=>true
 |.ixa _ _ _ _ _=>true
 |.ixs _ _=>true
 |.ext _ _=>true
 |.nilchk _=>true
 |.mx _ _=>true
 |.mn _ _=>true
 |.build _ _=>true
 |.sls _ _ _=>true
 |.sl _ _ _ _=>true
 |.lenc _=>true
 |.mkfn _ _ _=>true
 |.len .sl _=>true
 |.len .st _=>true
 |_=>false
def readK:OpK->Bool
 |.load _ _=>true
 |k=>pureK k
def allocK:OpK->Bool
 |.box _=>true
 |.bslice _ _ _ _=>true
 |.mkmap=>true
 |_=>false
def isCallK:OpK->Bool
 |.call _ _=>true
 |_=>false
def allocO(o:IOp):Bool:=allocK o.k||(o.q&&isCallK o.k)
def isCallO(o:Oper):Bool:=
 match o.op with
 |.call c=>
  match c.callee with
  |.builtin _=>false
  |_=>true
 |_=>false
def isLoadO(o:Oper):Bool:=
 o.guard.isNone&&match o.op with
 |.load _ _=>true
 |_=>false
def mixQ(c:Nat)(o:Oper):Bool:=(decide (1<=c)&&isCallO o)||(decide (2<=c)&&isLoadO o)
def ldQ(o:IOp):Bool:=
 o.q&&match o.k with
 |.load _ _=>true
 |_=>false
def mixOk(M:Array Nat)(l:List IOp):Bool:=
 (List.range l.length).all λj=>
  (List.range j).all λi=>
   match l[i]?,l[j]? with
   |some x,some y=>pureK x.k||pureK y.k||ldQ x||ldQ y||(readK x.k&&(readK y.k||allocO y))||(allocO x&&readK y.k)||ahead M i j
   |_,_=>true
def quietSt(o:IOp):Bool:=
 o.q&&match o.k with
  |.store _ _ _=>true
  |_=>false
def hardQ(o:IOp):Bool:=
 o.q&&match o.k with
  |.store _ _ _=>true
  |.app _ _ _ _=>true
  |.cpy _ _ _=>true
  |.mupd _ _ _ _=>true
  |_=>false
def lateK(o:IOp):Bool:=pureK o.k||match o.k with
 |.store _ _ _=>true
 |_=>false
def isSt(o:IOp):Bool:=match o.k with
 |.store _ _ _=>true
 |_=>false
def lateAll(l:List IOp):Bool:=l.all lateK&&decide ((l.filter isSt).length<=2)
def lateAt:List IOp->Nat
 |[]=>0
 |o::r=>if lateAll (o::r)=true then 0 else lateAt r+1
def lateOk(M:Array Nat)(l:List IOp):Bool:=
 (List.range l.length).all λi=>
  match l[i]? with
  |some x=>!ldQ x||(List.range l.length).all λj=>
    match l[j]? with
    |some y=>readK y.k||decide (j<lateAt l)||ahead M i j
    |none=>true
  |none=>true
def mixOkF(M:Array Nat)(l:List IOp)(f:Nat):Bool:=
 (List.range l.length).all λj=>
  (List.range j).all λi=>
   match l[i]?,l[j]? with
   |some x,some y=>pureK x.k||pureK y.k||ldQ x||ldQ y||decide (j=f)||ahead M i j
   |_,_=>true
def floOk(ops:Array Oper)(l:List IOp)(f:Nat):Bool:=
 match l[f]? with
 |some {dst:=some d,k:=.bslice _ _ z ps,gd:=none,q:=_}=>z.all conA&&ps.all (λp=>match p.2 with|.t u=>looksB ops f u|_=>false)&&(List.range l.length).all λj=>
   match l[j]? with
   |some o=>!readK o.k||((pureK o.k||ldQ o) && !looksB ops j d)
   |none=>true
 |_=>false
def floAt(M:Array Nat)(ops:Array Oper)(l:List IOp):Option Nat:=(List.range l.length).find? λf=>floOk ops l f&&mixOkF M l f
def appCh(l:List IOp):Bool:=l.any λo=>o.q&&match o.k with
 |.app _ _ (.t d) _=>l.any λp=>p.dst==some d&&match p.k with
  |.app _ _ _ _=>true
  |_=>false
 |_=>false
def compileReg(P:Program)(ops:Array Oper)(draw:Bool):Option ICode:=
 match compileRegion P ops draw with
 |none=>none
 |some l=>
  if l.any hardQ=true/\draw=true then
   match zipMapM (λ_ o=>compileOp P ops (mixQ 0 o) o) ops.toList 0,zipMapM (λ_ o=>compileOp P ops (mixQ 1 o) o) ops.toList 0,zipMapM (λ_ o=>compileOp P ops (mixQ 2 o) o) ops.toList 0 with
   |some l',some l2,some l3=>if(mixOk (Region.before ops) l' && !l'.any ldQ)=true then some (.ops l')else if(mixOk (Region.before ops) l2 && !l2.any ldQ)=true then some (.ops l2)else if(l.any quietSt&&(floAt (Region.before ops) ops l3).isSome&&lateOk (Region.before ops) l3)=true then some (.opsM l3)else if l.any quietSt=true then(if(decide (2<(l.filter isSt).length)&&mixOk (Region.before ops) l3&&lateOk (Region.before ops) l3)=true then some (.opsM l3)else some (.opsS l'))else if(mixOk (Region.before ops) l3&&lateOk (Region.before ops) l3)=true then some (.opsM l3)else if(appCh l&&(floAt (Region.before ops) ops l3).isSome&&lateOk (Region.before ops) l3)=true then some (.opsM l3)else some (.ops l)
   |_,_,_=>none
  else some (.ops l)
def compile(P:Program):Code->Option ICode
 |.skip=>some .skip
 |.region _ ops draw=>compileReg P ops draw
 |.seq a b=>
  match compile P a,compile P b with
  |some x,some y=>some (.seq x y)
  |_,_=>none
 |.cond c a b=>
  match opl? c,compile P a,compile P b with
  |some c,some x,some y=>some (.cond c x y)
  |_,_,_=>none
 |.block id a=>(compile P a).map (.block id)
 |.loop a=>(compile P a).map .loop
 |.exit id=>some (.exit id)
 |.ret=>some .ret
 |.label _=>some .skip
 |.scope a=>compile P a
 |.rangeFunc g ps asg body=>
  match opl? g,compile P asg,compile P body with
  |some g,some x,some y=>some (.rangeF g ps.toList x y)
  |_,_,_=>none
 |.goto _=>some .bad
 |.refuse _=>some .bad
structure AFunc where
 nt:Nat
 np:Nat
 rs:List (Nat×Option (Option Nat))
 body:ICode
def resA(P:Program):ResultVar->Option (Nat×Option (Option Nat))
 |.tmp t=>some (t,none)
 |.cell a t=>(nOf P t).map λn=>(a,some n)
def compileFn(P:Program)(f:FuncId):Option AFunc:=
 match P.funcs[f]? with
 |none=>none
 |some fn=>
  match fn.body with
  |none=>none
  |some c=>
   match compile P c,fn.results.toList.mapM (resA P)with
   |some b,some rs=>if fn.name == "runtime.NumGoroutine" then none else some {nt:=fn.ntmps,np:=fn.params.size,rs:=rs,body:=b}
   |_,_=>none
end Go.Abs
namespace Go.Abs
def gsz(P:Program)(g:Nat):Nat:=
 match P.globals[g]? with
 |some G=>
  match P.info? G.type with
  |some i=>i.size
  |none=>0
 |none=>0
def BR(P:Program)(m:Emb)(w:World)(e:Ent):ABlk->Prop
 |.cells c mu tl=>∃cc el fz,w.heap[e.cb]? =some (.cells cc el fz)/\(e.d+c.length<=cc.size/\e.d+c.length<=e.sz/\cc.size=e.sz)/\
   (∀(i:Nat) (x:AV),c[i]? =some x->x.one=true/\∃v,cc[e.d+i]? =some v/\VR m x v)/\
   (e.own=true->cc.size=e.sz/\∀i,i<cc.size->¬(fz.1<=i/\i<fz.2))/\((mu=true\/tl=true)->e.own=true/\(tl=false->e.sz=e.d+c.length/\¬(fz.1<=e.sz/\e.sz<fz.2)))
 |.dead=>True
 |.mapb es=>e.own=true/\∃ces clock,w.heap[e.cb]? =some (.map ces clock)/\ces.size=es.length/\
   ∀(i:Nat) (p:AV×AV),es[i]? =some p->∃q,ces[i]? =some q/\VR m p.1 q.key/\VR m p.2 q.val
 |.iter s pos=>e.own=true/\e.d=0/\w.heap[e.cb]? =some (.stringIter ⟨⟨s⟩⟩ pos)
 |.loop st ex ts ps asg body=>e.own=true/\∃fn tmps casg cbody df,w.heap[e.cb]? =some (.loop {state:=st,pending:=ex.jump,fn:=fn,tmps:=tmps,params:=⟨ps⟩,assign:=casg,body:=cbody,defers:=df})/\
   VRs m ts tmps.toList/\compile P casg=some asg/\compile P cbody=some body
def ABlk.live:ABlk->Bool
 |.dead=>false
 |_=>true
def sepOk(e1 e2:Ent):ABlk->ABlk->Prop
 |.cells c1 mu1 tl1,.cells c2 mu2 tl2=>mu1=false/\mu2=false/\(tl1=true->tl2=false/\e2.d+c2.length<=e1.d+c1.length)
 |.dead,_=>True
 |_,.dead=>True
 |_,_=>False
structure HR(P:Program)(m:Emb)(h:AHeap)(w:World):Prop where
 dom:∀b e,m b=some e->b<h.length
 blk:∀b e k,m b=some e->h[b]? =some k->BR P m w e k
 sep:∀b1 b2 e1 e2 k1 k2,b1≠b2->m b1=some e1->m b2=some e2->h[b1]? =some k1->h[b2]? =some k2->e1.cb=e2.cb->sepOk e1 e2 k1 k2
 glob:∀g,g<P.globals.size->∃e,m g=some e/\e.cb=g/\e.d=0/\e.own=false/\e.sz=gsz P g
 lt:∀b e,m b=some e->e.cb<w.heap.size
structure Grow(m:Emb)(h:AHeap)(w:World)(m':Emb)(h':AHeap)(w':World):Prop where
 ext:∀b,b<h.length->m' b=m b
 len:h.length<=h'.length
 new:∀b e,h.length<=b->m' b=some e->e.own=true/\(w.heap.size<=e.cb\/∃b0 e0,m b0=some e0/\e0.cb=e.cb/\e0.own=true/\tailOf h b0=true/\tailOf h' b0=false)
 tl:∀b,b<h.length->tailOf h' b=true->tailOf h b=true
 size:w.heap.size<=w'.heap.size
 os:w'.os=w.os
 out:w'.output=w.output
 tape:w'.tape=w.tape
 frame:∀i,i<w.heap.size->(∀b e,m b=some e->e.own=true->e.cb≠i)->w'.heap[i]? =w.heap[i]?
def Grow.refl(m:Emb)(h:AHeap)(w:World)(hd:∀b e,m b=some e->b<h.length):Grow m h w m h w where
 ext:=λ_ _=>rfl
 len:=Nat.le_refl _
 new:=λb e hb he=>absurd (hd b e he) (by omega)
 tl:=λ_ _ h=>h
 size:=Nat.le_refl _
 os:=rfl
 out:=rfl
 tape:=rfl
 frame:=λ_ _ _=>rfl
theorem Grow.le{m m' h h' w w'}(g:Grow m h w m' h' w')(hd:∀b e,m b=some e->b<h.length):m.le m':=
 λb e he=>by rw[g.ext b (hd b e he)];exact he
theorem Grow.trans{m m1 m2 h h1 h2 w w1 w2}(a:Grow m h w m1 h1 w1)(b:Grow m1 h1 w1 m2 h2 w2)
  (hd:∀b e,m b=some e->b<h.length):Grow m h w m2 h2 w2 where
 ext:=λi hi=>(b.ext i (Nat.lt_of_lt_of_le hi a.len)).trans (a.ext i hi)
 len:=Nat.le_trans a.len b.len
 new:=by
  intro i e hi he;by_cases h1i:h1.length<=i
  ·obtain⟨ho,hc⟩:=b.new i e h1i he;refine⟨ho,?_⟩;rcases hc with hc|⟨b0,e0,hb0,hcb,ho0,ht0,ht0'⟩
   ·exact .inl (Nat.le_trans a.size hc)
   ·by_cases hb:h.length<=b0
    ·obtain⟨_,hc0⟩:=a.new b0 e0 hb hb0;rcases hc0 with hc0|⟨b00,e00,hb00,hcb0,ho00,ht00,ht00'⟩
     ·exact .inl (hcb▸hc0)
     ·refine .inr ⟨b00,e00,hb00,hcb0.trans hcb,ho00,ht00,?_⟩;cases hx:tailOf h2 b00 with
      |false=>rfl
      |true=>
       have hlt:=hd _ _ hb00;rw[b.tl b00 (Nat.lt_of_lt_of_le hlt a.len) hx]at ht00';cases ht00'
    ·have hlt:b0<h.length:=by omega
     rw[a.ext b0 hlt]at hb0;exact .inr ⟨b0,e0,hb0,hcb,ho0,a.tl b0 hlt ht0,ht0'⟩
  ·have hi1:i<h1.length:=by omega
   rw[b.ext i hi1]at he;obtain⟨ho,hc⟩:=a.new i e hi he;refine⟨ho,?_⟩;rcases hc with hc|⟨b0,e0,hb0,hcb,ho0,ht0,ht0'⟩
   ·exact .inl hc
   ·refine .inr ⟨b0,e0,hb0,hcb,ho0,ht0,?_⟩;cases hx:tailOf h2 b0 with
    |false=>rfl
    |true=>
     have hlt:=hd _ _ hb0;rw[b.tl b0 (Nat.lt_of_lt_of_le hlt a.len) hx]at ht0';cases ht0'
 tl:=λi hi ht=>a.tl i hi (b.tl i (Nat.lt_of_lt_of_le hi a.len) ht)
 size:=Nat.le_trans a.size b.size
 os:=b.os.trans a.os
 out:=b.out.trans a.out
 tape:=b.tape.trans a.tape
 frame:=by
  intro i hi hno;refine(b.frame i (Nat.lt_of_lt_of_le hi a.size) ?_).trans (a.frame i hi hno);intro j e he ho hcb;by_cases hj:h.length<=j
  ·obtain⟨_,hc⟩:=a.new j e hj he;rcases hc with hc|⟨b0,e0,hb0,hcb0,ho0,_,_⟩
   ·omega
   ·exact hno b0 e0 hb0 ho0 (hcb0.trans hcb)
  ·rw[a.ext j (by omega)]at he;exact hno j e he ho hcb
theorem BR.heap{P m w w' e k}(h:BR P m w e k)(hw:w'.heap[e.cb]? =w.heap[e.cb]?):BR P m w' e k:=by
 cases k<;>simp only[BR,hw]at h ⊢<;>exact h
theorem BR.mono{P m m' w e k}(hm:m.le m')(h:BR P m w e k):BR P m' w e k:=by
 cases k with
 |cells c mu tl=>
  obtain⟨cc,el,fz,h1,h2,h3,h4⟩:=h;exact⟨cc,el,fz,h1,h2,λi x hx=>by obtain⟨ho,v,hv,hr⟩:=h3 i x hx;exact⟨ho,v,hv,VR.mono hm _ _ hr⟩,h4⟩
 |dead=>trivial
 |mapb es=>
  obtain⟨ho,ces,clock,h1,h2,h3⟩:=h;exact⟨ho,ces,clock,h1,h2,λi p hp=>by obtain⟨q,hq,ha,hb⟩:=h3 i p hp;exact⟨q,hq,VR.mono hm _ _ ha,VR.mono hm _ _ hb⟩⟩
 |iter s pos=>exact h
 |loop st ex ts ps asg body=>
  obtain⟨ho,fn,tmps,casg,cbody,df,h1,h2,h3,h4⟩:=h;exact⟨ho,fn,tmps,casg,cbody,df,h1,VRs.mono hm _ _ h2,h3,h4⟩
theorem HR.drew{P m h w}(hr:HR P m h w):HR P m h w.drew where
 dom:=hr.dom
 blk:=λb e k hb hk=>(hr.blk b e k hb hk).heap rfl
 sep:=hr.sep
 glob:=hr.glob
 lt:=hr.lt
theorem Grow.drew{m h w m' h' w'}(g:Grow m h w m' h' w'):Grow m h w m' h' w'.drew:=
 ⟨g.ext,g.len,g.new,g.tl,g.size,g.os,g.out,g.tape,g.frame⟩
def Grow.drew0{m h w m' h' w'}(g:Grow m h w.drew m' h' w'):Grow m h w m' h' w':=
 ⟨g.ext,g.len,g.new,g.tl,g.size,g.os,g.out,g.tape,g.frame⟩
def BR.lt{P m w e k}(h:BR P m w e k)(hl:k.live=true):e.cb<w.heap.size:=by
 cases k with
 |cells c mu tl=>obtain⟨cc,el,fz,h1,_⟩:=h;exact(Array.getElem?_eq_some_iff.1 h1).1
 |dead=>cases hl
 |mapb es=>obtain⟨_,ces,clock,h1,_⟩:=h;exact(Array.getElem?_eq_some_iff.1 h1).1
 |iter s pos=>exact(Array.getElem?_eq_some_iff.1 h.2.2).1
 |loop st ex ts ps asg body=>obtain⟨_,fn,tmps,casg,cbody,df,h1,_⟩:=h;exact(Array.getElem?_eq_some_iff.1 h1).1
def Emb.add(m:Emb)(b:Nat)(e:Ent):Emb:=λx=>if x=b then some e else m x
def Emb.add_le{m:Emb}{b:Nat}(e:Ent)(h:m b=none):m.le (m.add b e):=by
 intro x y hx;unfold Emb.add;by_cases hb:x=b
 ·subst hb;rw[h]at hx;cases hx
 ·rw[if_neg hb];exact hx
def tailOf_append_lt{h k b}(hb:b<h.length):tailOf (h++[k]) b=tailOf h b:=by
 unfold tailOf;rw[List.getElem?_append_left hb]
def alloc_ok{P:Program}{m:Emb}{h:AHeap}{w:World}(hr:HR P m h w)(o:Obj)(k:ABlk)(e:Ent)(he:e.cb=w.heap.size)(ho:e.own=true)
  (hk:∀m':Emb,m.le m'->BR P m' (w.alloc o) e k):
  HR P (m.add h.length e) (h++[k]) (w.alloc o)/\Grow m h w (m.add h.length e) (h++[k]) (w.alloc o):=by
 have hnone:m h.length=none:=by
  cases hx:m h.length with
  |none=>rfl
  |some y=>exact absurd (hr.dom _ _ hx) (by omega)
 have hle:=Emb.add_le e hnone;have hold:∀b x,m b=some x->(m.add h.length e) b=some x:=hle;have hheap:∀i,i<w.heap.size->(w.alloc o).heap[i]? =w.heap[i]? :=λi hi=>Go.RowKit.Below.heap_alloc w o i hi
 have hlive:∀b x k',m b=some x->h[b]? =some k'->k'.live=true->x.cb<w.heap.size:=λb x k' hb hk' hl=>(hr.blk b x k' hb hk').lt hl
 refine⟨⟨?_,?_,?_,?_,?_⟩,⟨?_,by simp,?_,?_,by simp,rfl,rfl,rfl,λi hi _=>hheap i hi⟩⟩
 ·intro b x hb;unfold Emb.add at hb;by_cases hbl:b=h.length
  ·subst hbl;simp
  ·rw[if_neg hbl]at hb;have:=hr.dom _ _ hb;simp;omega
 ·intro b x k' hb hk';unfold Emb.add at hb;by_cases hbl:b=h.length
  ·subst hbl;rw[if_pos rfl]at hb;cases hb;simp at hk';subst hk';exact hk _ hle
  ·rw[if_neg hbl]at hb;have hlt:=hr.dom _ _ hb;rw[List.getElem?_append_left hlt]at hk';have h0:=hr.blk b x k' hb hk';by_cases hl:k'.live=true
   ·exact(h0.mono hle).heap (hheap _ (h0.lt hl))
   ·cases k'<;>first|trivial|exact absurd rfl hl
 ·intro b1 b2 e1 e2 k1 k2 hne h1 h2 hk1 hk2 hcb;unfold Emb.add at h1 h2;by_cases hb1:b1=h.length
  ·subst hb1;rw[if_pos rfl]at h1;cases h1;have hb2:b2≠h.length:=λx=>hne x.symm
   rw[if_neg hb2]at h2;have hlt:=hr.dom _ _ h2;rw[List.getElem?_append_left hlt]at hk2;by_cases hl:k2.live=true
   ·have:=hlive _ _ _ h2 hk2 hl;omega
   ·cases k2<;>first|(cases k1<;>trivial)|exact absurd rfl hl
  ·rw[if_neg hb1]at h1;have hlt1:=hr.dom _ _ h1;rw[List.getElem?_append_left hlt1]at hk1;by_cases hb2:b2=h.length
   ·subst hb2;rw[if_pos rfl]at h2;cases h2;by_cases hl:k1.live=true
    ·have:=hlive _ _ _ h1 hk1 hl;omega
    ·cases k1<;>first|trivial|exact absurd rfl hl
   ·rw[if_neg hb2]at h2;have hlt2:=hr.dom _ _ h2;rw[List.getElem?_append_left hlt2]at hk2;exact hr.sep b1 b2 e1 e2 k1 k2 hne h1 h2 hk1 hk2 hcb
 ·intro g hg;obtain⟨x,hx,h1⟩:=hr.glob g hg;exact⟨x,hold _ _ hx,h1⟩
 ·intro b x hb;unfold Emb.add at hb;simp only[World.size_alloc];by_cases hbl:b=h.length
  ·rw[if_pos hbl]at hb;cases hb;omega
  ·rw[if_neg hbl]at hb;have:=hr.lt _ _ hb;omega
 ·intro b hb;unfold Emb.add;rw[if_neg (by omega)]
 ·intro b x hb hx;unfold Emb.add at hx;by_cases hbl:b=h.length
  ·rw[if_pos hbl]at hx;cases hx;exact⟨ho,.inl (by omega)⟩
  ·rw[if_neg hbl]at hx;exact absurd (hr.dom _ _ hx) (by omega)
 ·intro b hb ht
  rwa [tailOf_append_lt hb]at ht
def BR_new_cells{P:Program}{m:Emb}{w:World}{c:List AV}{vs:List Value}(hc:VRs m c vs)(h1:c.all AV.one=true)(el:TypeId)(mu tl:Bool)(m':Emb)(hm:m.le m'):
  BR P m' (w.alloc (.cells ⟨vs⟩ el)) ⟨w.heap.size,0,vs.length,true⟩ (.cells c mu tl):=by
 refine⟨⟨vs⟩,el,(0,0),World.alloc_heap_new w _,⟨by simp[hc.length],by simp[hc.length]⟩,?_,?_,λ_=>⟨rfl,λ_=>by simp[hc.length]⟩⟩
 ·intro i x hx;obtain⟨v,hv,hr⟩:=hc.get hx;exact⟨List.all_eq_true.1 h1 x (List.mem_of_getElem? hx),v,by simpa using hv,VR.mono hm _ _ hr⟩
 ·intro _;exact⟨by simp,λi _=>by simp⟩
def alloc_cells{P m h w}(hr:HR P m h w){c vs}(hc:VRs m c vs)(h1:c.all AV.one=true)(el:TypeId)(mu tl:Bool):
  ∃m',m' h.length=some ⟨w.heap.size,0,vs.length,true⟩/\HR P m' (h++[.cells c mu tl]) (w.alloc (.cells ⟨vs⟩ el))/\Grow m h w m' (h++[.cells c mu tl]) (w.alloc (.cells ⟨vs⟩ el)):=
 ⟨_,by simp[Emb.add],alloc_ok hr (.cells ⟨vs⟩ el) (.cells c mu tl) ⟨w.heap.size,0,vs.length,true⟩ rfl rfl (λm' hm=>BR_new_cells hc h1 el mu tl m' hm)⟩
def Addr_add(b o n:Nat):(⟨b,o,none⟩:Addr).add n=⟨b,o+n,none⟩:=by
 unfold Addr.add;by_cases h:n=0
 ·simp[h]
 ·simp[h]
def cell_of{P m h w}(hr:HR P m h w){b e c mu tl}(he:m b=some e)(hb:h[b]? =some (.cells c mu tl))
  {i}{x}(hx:c[i]? =some x):x.one=true/\∃v,w.cell? ⟨e.cb,i+e.d,none⟩=some v/\VR m x v:=by
 obtain⟨cc,el,fz,h1,_,h3,_⟩:=hr.blk b e _ he hb;obtain⟨ho,v,hv,hvr⟩:=h3 i x hx;exact⟨ho,v,by simp only[World.cell?,h1];rw[Nat.add_comm];simpa using hv,hvr⟩
def load_cells{P m h w}(hr:HR P m h w){b e c mu tl}(he:m b=some e)(hb:h[b]? =some (.cells c mu tl))
  (o n:Nat) (hn:o+n<=c.length):∃vs,(loadCells ⟨e.cb,o+e.d,none⟩ n).run P w=.ok ⟨vs⟩ w/\VRs m ((c.drop o).take n) vs/\((c.drop o).take n).all AV.one=true:=by
 have hget:∀j,j<n->∃x,c[o+j]? =some x:=λj hj=>⟨c[o+j],List.getElem?_eq_getElem (by omega)⟩
 have hcell:∀j,j<n->∃v,w.cell? ⟨e.cb,o+e.d+j,none⟩=some v/\∃x,c[o+j]? =some x/\VR m x v:=by
  intro j hj;obtain⟨x,hx⟩:=hget j hj;obtain⟨_,v,hv,hvr⟩:=cell_of hr he hb hx;exact⟨v,by rw[show o+e.d+j=o+j+e.d from by omega];exact hv,x,hx,hvr⟩
 obtain⟨f,hf⟩:∃f:Nat->Value,∀j,j<n->w.cell? ⟨e.cb,o+e.d+j,none⟩=some (f j):=
  ⟨λj=>(w.cell? ⟨e.cb,o+e.d+j,none⟩).getD default,λj hj=>by obtain⟨v,hv,_⟩:=hcell j hj;simp[hv]⟩
 have hvs:VRs m ((c.drop o).take n) ((List.range n).map f):=by
  refine VRs.of_get (by simp;omega) λi x hx=>?_
  have hi:i<n:=by
   have:=(List.getElem?_eq_some_iff.1 hx).1;simp at this;omega
  rw[List.getElem?_take_of_lt hi,List.getElem?_drop]at hx;obtain⟨v,hv,y,hy,hvr⟩:=hcell i hi;rw[hx]at hy;cases hy;refine⟨f i,by simp[hi],?_⟩;have:=hf i hi;rw[hv]at this;cases this;exact hvr
 refine⟨(List.range n).map f,?_,hvs,?_⟩
 ·have:=run_loadCells_list (P:=P) (w:=w) ⟨e.cb,o+e.d,none⟩ ((List.range n).map f) (λj v hj=>by
   have hi:j<n:=by
    have:=(List.getElem?_eq_some_iff.1 hj).1
    simpa using this
   rw[Addr_add];simp[hi]at hj;rw[<-hj];exact hf j hi)
  simpa using this
 ·rw[List.all_eq_true];intro x hx;have hx':x∈c:=List.mem_of_mem_drop (List.mem_of_mem_take hx);obtain⟨i,hi,rfl⟩:=List.getElem_of_mem hx';exact(cell_of hr he hb (List.getElem?_eq_getElem hi)).1
def setL(c:List AV)(o:Nat):List AV->List AV
 |[]=>c
 |x::xs=>setL (c.set o x) (o+1) xs
def getElem?_set_blk(h:AHeap)(b b':Nat)(k:ABlk)(hb:b<h.length):(h.set b k)[b']? =if b' =b then some k else h[b']? :=by
 rw[List.getElem?_set];by_cases e:b=b'
 ·subst e;simp[hb]
 ·have e':¬b' =b:=λx=>e x.symm
  rw[if_neg e,if_neg e']
def frozen_false{w:World}{cb i:Nat}{cc:Array Value}{el:TypeId}{fz:Nat×Nat}(h1:w.heap[cb]? =some (.cells cc el fz))(h:¬(fz.1<=i/\i<fz.2)):w.frozen? ⟨cb,i,none⟩=false:=by
 obtain⟨lo,hi⟩:=fz;simp only[World.frozen?,h1];simp only[Bool.and_eq_false_iff,decide_eq_false_iff_not];simp only at h;omega
def heap_setCell_same{w:World}{cb i:Nat}{cc:Array Value}{el:TypeId}{fz:Nat×Nat}(h1:w.heap[cb]? =some (.cells cc el fz))(v:Value):
  (w.setCell ⟨cb,i,none⟩ v).heap[cb]? =some (.cells (cc.setIfInBounds i v) el fz):=by
 obtain⟨hlt,hk⟩:=Array.getElem?_eq_some_iff.1 h1;simp only[World.setCell];rw[Array.getElem?_eq_getElem (by rw[Array.size_modify];exact hlt),Array.getElem_modify_self,hk];simp
def store1_ok{P:Program}{m:Emb}{h:AHeap}{w:World}(hr:HR P m h w){b:Nat}{e:Ent}{c:List AV}{tl:Bool}(he:m b=some e)(hb:h[b]? =some (.cells c true tl))
  {i:Nat}(hi:i<c.length) {x:AV}{v:Value}(hx:x.one=true) (hv:VR m x v):
  (store ⟨e.cb,i+e.d,none⟩ v).run P w=.ok () (w.setCell ⟨e.cb,i+e.d,none⟩ v)/\
  HR P m (h.set b (.cells (c.set i x) true tl)) (w.setCell ⟨e.cb,i+e.d,none⟩ v)/\Grow m h w m (h.set b (.cells (c.set i x) true tl)) (w.setCell ⟨e.cb,i+e.d,none⟩ v):=by
 obtain⟨cc,el,fz,h1,⟨h2,h2'⟩,h3,h4,h5⟩:=hr.blk b e _ he hb;have hown:e.own=true:=(h5 (.inl rfl)).1;obtain⟨hsz,hfz⟩:=h4 hown;have hbl:b<h.length:=hr.dom _ _ he;have hcell:∃u,w.cell? ⟨e.cb,i+e.d,none⟩=some u:=⟨cc[i+e.d]'(by omega),by simp only[World.cell?,h1];exact Array.getElem?_eq_getElem (by omega)⟩;obtain⟨u,hu⟩:=hcell;have hfr:w.frozen? ⟨e.cb,i+e.d,none⟩=false:=frozen_false h1 (hfz _ (by omega));have hother:∀k,k≠e.cb->(w.setCell ⟨e.cb,i+e.d,none⟩ v).heap[k]? =w.heap[k]? :=λk hk=>Go.RowKit.Below.heap_setCell w _ v k hk
 have hsame:=heap_setCell_same (i:=i+e.d) h1 v;refine⟨?_,⟨?_,?_,?_,hr.glob,λb' e' hb'=>by simpa using hr.lt b' e' hb'⟩,⟨λ_ _=>rfl,by simp,?_,?_,by simp,rfl,rfl,rfl,?_⟩⟩
 ·rw[run_store P w _ v .plain (hv.oneCell hx),hu];simp[hfr]
 ·intro b' e' hb';simpa using hr.dom b' e' hb'
 ·intro b' e' k he' hk;rw[getElem?_set_blk h b b' _ hbl]at hk;by_cases hbb:b' =b
  ·subst hbb;rw[if_pos rfl]at hk;cases hk;rw[he]at he';cases he';refine⟨_,el,fz,hsame,⟨by simpa using h2,by simpa using h2'⟩,?_,λho=>⟨by simpa using hsz,λj hj=>hfz j (by simpa using hj)⟩,λz=>⟨hown,λy=>by rw[List.length_set];exact(h5 (.inl rfl)).2 y⟩⟩;intro j y hy;rw[List.getElem?_set]at hy;by_cases hij:i=j
   ·subst hij;rw[if_pos rfl,if_pos hi]at hy;cases hy;refine⟨hx,v,?_,hv⟩;rw[show e.d+i=i+e.d from by omega];rw[Array.getElem?_setIfInBounds_self_of_lt (by omega)]
   ·rw[if_neg hij]at hy;obtain⟨ho,u',hu',hr'⟩:=h3 j y hy;refine⟨ho,u',?_,hr'⟩;rw[Array.getElem?_setIfInBounds_ne (by omega)];exact hu'
  ·rw[if_neg hbb]at hk;have h0:=hr.blk b' e' k he' hk;by_cases hl:k.live=true
   ·refine h0.heap (hother _ ?_);intro hcb;have:=hr.sep b b' e e' _ k (λx=>hbb x.symm) he he' hb hk hcb.symm;cases k<;>first|(cases hl;done)|exact absurd this.1 (by simp)|exact this
   ·cases k<;>first|trivial|exact absurd rfl hl
 ·intro b1 b2 e1 e2 k1 k2 hne he1 he2 hk1 hk2 hcb;rw[getElem?_set_blk h b _ _ hbl]at hk1 hk2;by_cases hb1:b1=b
  ·subst hb1;rw[if_pos rfl]at hk1;cases hk1;rw[if_neg (λx=>hne x.symm)]at hk2;have:=hr.sep b1 b2 e1 e2 _ k2 hne he1 he2 hb hk2 hcb;cases k2<;>first|trivial|exact absurd this.1 (by simp)|exact this.elim
  ·rw[if_neg hb1]at hk1;by_cases hb2:b2=b
   ·subst hb2;rw[if_pos rfl]at hk2;cases hk2;have:=hr.sep b1 b2 e1 e2 k1 _ hne he1 he2 hk1 hb hcb;cases k1<;>first|trivial|exact absurd this.2.1 (by simp)|exact this.elim
   ·rw[if_neg hb2]at hk2;exact hr.sep b1 b2 e1 e2 k1 k2 hne he1 he2 hk1 hk2 hcb
 ·intro b' e' hb' he';exact absurd (hr.dom _ _ he') (by omega)
 ·intro b' hb' ht;unfold tailOf at ht ⊢;rw[getElem?_set_blk h b b' _ hbl]at ht;by_cases hbb:b' =b
  ·subst hbb;rw[if_pos rfl]at ht;rw[hb];exact ht
  ·rw[if_neg hbb]at ht;exact ht
 ·intro k hk hno;exact hother k (λhcb=>hno b e he hown hcb.symm)
theorem storeN_ok{P m}:∀(xs:List AV) (vs:List Value) {h}{w}(_:HR P m h w) {b}{e}{c}{tl}(_:m b=some e) (_:h[b]? =some (.cells c true tl))
  (a j:Nat) (_:a+j+xs.length<=c.length) (_:xs.all AV.one=true) (_:VRs m xs vs),
  ∃w',(storeCells ⟨e.cb,a+e.d,none⟩ vs j).run P w=.ok () w'/\HR P m (h.set b (.cells (setL c (a+j) xs) true tl)) w'/\Grow m h w m (h.set b (.cells (setL c (a+j) xs) true tl)) w'
 |[],vs,h,w,hr,b,e,c,tl,he,hb,a,j,hlen,h1,hv=>by
  rw[VRs_nil]at hv;subst hv;have hbl:b<h.length:=hr.dom _ _ he;have hset:h.set b (.cells (setL c (a+j) []) true tl)=h:=by
   simp only[setL]
   apply List.ext_getElem?
   intro i;rw[getElem?_set_blk h b i _ hbl];by_cases hi:i=b
   ·subst hi;simp[hb]
   ·simp[hi]
  exact⟨w,rfl,by rw[hset];exact hr,by rw[hset];exact Grow.refl m h w hr.dom⟩
 |x::xs,vs,h,w,hr,b,e,c,tl,he,hb,a,j,hlen,h1,hv=>by
  obtain⟨v,vs',rfl,hxv,hvs⟩:=VRs_cons.1 hv;simp only[List.all_cons,Bool.and_eq_true]at h1;simp only[List.length_cons]at hlen;obtain⟨hrun,hr1,hg1⟩:=store1_ok hr he hb (i:=a+j) (by omega) h1.1 hxv;have hbl:b<h.length:=hr.dom _ _ he;have hb1:(h.set b (.cells (c.set (a+j) x) true tl))[b]? =some (.cells (c.set (a+j) x) true tl):=by rw[getElem?_set_blk h b b _ hbl,if_pos rfl]
  obtain⟨w',hrun',hr',hg'⟩:=storeN_ok xs vs' hr1 he hb1 a (j+1) (by simp;omega) h1.2 hvs;have hset:(h.set b (.cells (c.set (a+j) x) true tl)).set b (.cells (setL (c.set (a+j) x) (a+(j+1)) xs) true tl)=h.set b (.cells (setL c (a+j) (x::xs)) true tl):=by
   rw[List.set_set];rfl
  rw[hset]at hr' hg';refine⟨w',?_,hr',Grow.trans hg1 hg' hr.dom⟩;simp only[storeCells,Sem.run_bind];rw[Addr_add,show a+e.d+j=a+j+e.d from by omega,hrun];exact hrun'
end Go.Abs
namespace Go.Abs
def qnan:FloatKind->Nat
 |.f32=>0x7fc00000
 |.f64=>0x7ff8000000000000
def intBin(op:BinOp)(k:IntKind)(a b:Int):Option AV:=
 match op with
 |.add=>some (.int k (k.wrap (a+b)))
 |.sub=>some (.int k (k.wrap (a-b)))
 |.mul=>some (.int k (k.wrap (a*b)))
 |.quo=>if b=0 then none else some (.int k (k.wrap (a.tdiv b)))
 |.rem=>if b=0 then none else some (.int k (a.tmod b))
 |.and=>some (.int k (k.wrap (BitVec.ofInt k.bits a &&& BitVec.ofInt k.bits b).toNat))
 |.or=>some (.int k (k.wrap (BitVec.ofInt k.bits a |||BitVec.ofInt k.bits b).toNat))
 |.xor=>some (.int k (k.wrap (BitVec.ofInt k.bits a^^^BitVec.ofInt k.bits b).toNat))
 |.andNot=>some (.int k (k.wrap (BitVec.ofInt k.bits a &&& ~~~ (BitVec.ofInt k.bits b)).toNat))
 |.eql=>some (.bool (a==b))
 |.neq=>some (.bool (a !=b))
 |.lss=>some (.bool (decide (a<b)))
 |.leq=>some (.bool (decide (a<=b)))
 |.gtr=>some (.bool (decide (a > b)))
 |.geq=>some (.bool (decide (a>=b)))
 |_=>none
def strBin(op:BinOp)(x y:List UInt8):Option AV:=
 match op with
 |.add=>if x.length+y.length<2^62 then some (.str (x++y))else none
 |.eql=>some (.bool (x==y))
 |.neq=>some (.bool !(x==y))
 |.lss=>some (.bool (Op.bytesLess x y))
 |.leq=>some (.bool (Op.bytesLess x y||x==y))
 |.gtr=>some (.bool !(Op.bytesLess x y||x==y))
 |.geq=>some (.bool !(Op.bytesLess x y))
 |_=>none
def fltRes(k:FloatKind):Option Nat->AV
 |some r=>.flt k r
 |none=>.flt k (qnan k)
def fltBin(op:BinOp)(k:FloatKind)(x y:Nat):Option AV:=
 match op with
 |.add=>some (fltRes k (k.format.add x y))
 |.sub=>some (fltRes k (k.format.sub x y))
 |.mul=>some (fltRes k (k.format.mul x y))
 |.quo=>some (fltRes k (k.format.div x y))
 |.eql=>some (.bool (k.format.order x y==some .eq))
 |.neq=>some (.bool (k.format.order x y !=some .eq))
 |.lss=>some (.bool (k.format.order x y==some .lt))
 |.leq=>some (.bool (k.format.order x y==some .lt||k.format.order x y==some .eq))
 |.gtr=>some (.bool (k.format.order x y==some .gt))
 |.geq=>some (.bool (k.format.order x y==some .gt||k.format.order x y==some .eq))
 |_=>none
def shiftK(op:BinOp)(k:IntKind)(a b:Int):Option AV:=
 if b<0 then none
 else match op with
  |.shl=>some (.int k (k.wrap (a*2^(min b.toNat k.bits))))
  |.shr=>some (.int k (a.fdiv (2^(min b.toNat k.bits))))
  |_=>none
def isShift:BinOp->Bool
 |.shl=>true
 |.shr=>true
 |_=>false
def cxBin(op:BinOp)(k:FloatKind)(a b a' b':Nat):Option AV:=
 match op,k.format.add a a',k.format.add b b' with
 |.add,some r,some s=>some (.cplx k r s)
 |_,_,_=>none
def binK(op:BinOp):AV->AV->Option AV
 |.int k a,.int k' b=>if isShift op then shiftK op k a b else if k=k' then intBin op k a b else none
 |.str a,.str b=>strBin op a b
 |.flt k a,.flt k' b=>if k=k' then fltBin op k a b else none
 |.cplx k a b,.cplx k' a' b'=>if k=k' then cxBin op k a b a' b' else none
 |_,_=>none
def unK(op:UnOp):AV->Option AV
 |.int k n=>
  match op with
  |.neg=>some (.int k (k.wrap (0-n)))
  |.xor=>intBin .xor k (if k.signed then -1 else k.max) n
  |_=>none
 |.bool b=>
  match op with
  |.not=>some (.bool !b)
  |_=>none
 |.flt k b=>
  match op with
  |.neg=>some (.flt k (Op.negFloat k b))
  |_=>none
 |_=>none
def eqCell:CK->AV->AV->Option Bool
 |.b,.bool a,.bool b=>some (a==b)
 |.i,.int k a,.int k' b=>if k=k' then some (a==b)else none
 |.s,.str a,.str b=>some (a==b)
 |_,_,_=>none
def eqQ:CK->AV->AV->Option Bool
 |.f,.flt k a,.flt k' b=>if k=k' then some (k.format.order a b==some .eq)else none
 |.c,.cplx k a b,.cplx k' a' b'=>if k=k' then some (k.format.order a a'==some .eq&&k.format.order b b'==some .eq)else none
 |.f,_,_=>none
 |.c,_,_=>none
 |k,x,y=>eqCell k x y
def eqCells:List CK->List AV->List AV->Option Bool
 |[],[],[]=>some true
 |k::ks,x::xs,y::ys=>
  match eqQ k x y with
  |some true=>eqCells ks xs ys
  |some false=>some false
  |none=>none
 |_,_,_=>none
def eqAgg(ks:List CK):AV->AV->Option Bool
 |.agg xs,.agg ys=>if xs.length=ks.length/\ys.length=ks.length then eqCells ks xs ys else none
 |_,_=>none
def eqS:AV->AV->Option Bool
 |.nilSlice,.nilSlice=>some true
 |.nilSlice,.slice _ _ _ _=>some false
 |.slice _ _ _ _,.nilSlice=>some false
 |_,_=>none
def eqP:AV->AV->Option Bool
 |.nilPtr,.nilPtr=>some true
 |.nilPtr,.ptr _ _=>some false
 |.ptr _ _,.nilPtr=>some false
 |_,_=>none
def eqF:AV->AV->Option Bool
 |.nilFunc,.nilFunc=>some true
 |.nilFunc,.func _ _ _=>some false
 |.func _ _ _,.nilFunc=>some false
 |_,_=>none
def eqM:AV->AV->Option Bool
 |.nilMap,.nilMap=>some true
 |.nilMap,.map _=>some false
 |.map _,.nilMap=>some false
 |_,_=>none
def eqI:AV->AV->Option Bool
 |.nilIfc,.nilIfc=>some true
 |.someIfc,.nilIfc=>some false
 |.ifc _ _,.nilIfc=>some false
 |_,_=>none
def eqvK(t:EqT)(x y:AV):Option Bool:=
 match t with
 |.one k=>eqQ k x y
 |.agg ks=>eqAgg ks x y
 |.nilS=>eqS x y
 |.nilP=>eqP x y
 |.nilF=>eqF x y
 |.nilM=>eqM x y
 |.nilI=>eqI x y
def byteOf:AV->Option UInt8
 |.int .u8 n=>some (UInt8.ofNat n.toNat)
 |_=>none
def cellsIn(es:Nat)(h:AHeap):AV->Option (List AV×Nat)
 |.nilSlice=>some ([],0)
 |.slice b o n es'=>
  if es' =es then
   match h[b]? with
   |some (.cells c _ _)=>if o+n*es<=c.length then some ((c.drop o).take (n*es),n)else none
   |_=>none
  else none
 |.str s=>if es=1 then some (s.map λb=>.int .u8 b.toNat,s.length)else none
 |_=>none
def convA(k:ConvK)(x:AV)(h:AHeap):Option (AV×AHeap):=
 match k with
 |.i2i k=>
  match x with
  |.int _ n=>some (.int k (k.wrap n),h)
  |_=>none
 |.same=>
  match x with
  |.str s=>some (.str s,h)
  |_=>none
 |.i2f k=>
  match x with
  |.int _ n=>some (.flt k (k.nearest n),h)
  |_=>none
 |.f2i k=>
  match x with
  |.flt s b=>
   match (s.decode b).toInt .zero with
   |some n=>if nanB s b=false/\k.min<=n/\n<=k.max then some (.int k n,h)else none
   |none=>none
  |_=>none
 |.f2f k=>
  match x with
  |.flt s b=>if s=k then some (.flt k b,h)else
   match s.decode b with
   |.nan _ _=>some (.flt k (qnan k),h)
   |.infinity t=>some (.flt k (k.encode (.infinity t)),h)
   |.number t u e=>if(k.decode (k.encode (.number t u e))).isInfinity then none else some (.flt k (k.encode (.number t u e)),h)
  |_=>none
 |.cre=>
  match x with
  |.cplx k a _=>some (.flt k a,h)
  |_=>none
 |.cim=>
  match x with
  |.cplx k _ b=>some (.flt k b,h)
  |_=>none
 |.ifc u=>some (.ifc u x,h)
 |.b2s=>
  match x with
  |.nilSlice=>some (.str [],h)
  |.slice b o n es=>
   match cellsIn 1 h (.slice b o n es)with
   |some (l,_)=>
    match l.mapM byteOf with
    |some r=>some (.str r,h)
    |none=>none
   |none=>none
  |_=>none
 |.s2b=>
  match x with
  |.str s=>some (.slice h.length 0 s.length 1,h++[.cells (s.map λb=>.int .u8 b.toNat) true true])
  |_=>none
def zrep(n:Nat)(z:List AV):List AV:=(List.replicate n z).flatten
def fillA(c:List AV):List (Nat×Nat×AV)->Option (List AV)
 |[]=>some c
 |(off,n,v)::r=>if v.cells.length=n/\off+n<=c.length then fillA (setL c off v.cells) r else none
def loN:Option AV->Option Int
 |none=>some 0
 |some (.int _ i)=>some i
 |_=>none
def hiN(n:Nat):Option AV->Option Int
 |none=>some n
 |some (.int _ i)=>some i
 |_=>none
def bnds(lo hi:Option AV)(n:Nat):Option (Nat×Nat):=
 match loN lo,hiN n hi with
 |some l,some h=>if 0<=l/\l<=h/\h<=n then some (l.toNat,h.toNat)else none
 |_,_=>none
def findA(kk:CK)(k:AV):List (AV×AV)->Option (Option AV)
 |[]=>some none
 |(a,v)::r=>
  match eqCell kk k a with
  |some true=>some (some v)
  |some false=>findA kk k r
  |none=>none
def updA(kk:CK)(k v:AV):List (AV×AV)->Option (List (AV×AV))
 |[]=>some [(k,v)]
 |(a,u)::r=>
  match eqCell kk k a with
  |some true=>some ((k,v)::r)
  |some false=>(updA kk k v r).map ((a,u)::·)
  |none=>none
def max2A:AV->AV->Option AV
 |.int k a,.int k' b=>if k=k' then some (.int k (if b > a then b else a))else none
 |_,_=>none
def min2A:AV->AV->Option AV
 |.int k a,.int k' b=>if k=k' then some (.int k (if b<a then b else a))else none
 |_,_=>none
def foldA(f:AV->AV->Option AV):AV->List AV->Option AV
 |x,[]=>some x
 |x,y::r=>
  match f x y with
  |some z=>foldA f z r
  |none=>none
def lenA(lk:LK)(h:AHeap):AV->Option Nat
 |.str s=>if lk=.st then some s.length else none
 |.slice _ _ n _=>if lk=.sl then some n else none
 |.nilSlice=>if lk=.sl then some 0 else none
 |.map r=>
  match h[r]? with
  |some (.mapb es)=>if lk=.mp then some es.length else none
  |_=>none
 |.nilMap=>if lk=.mp then some 0 else none
 |_=>none
def fnK(k:OpK)(ρ:Opd->AV)(h:AHeap):Option (AV×AHeap):=
 match k with
 |.mov x=>some (ρ x,h)
 |.pick c a b=>
  match ρ c with
  |.bool t=>some (if t then ρ a else ρ b,h)
  |_=>none
 |.box x=>if(ρ x).cells.all AV.one then some (.ptr h.length 0,h++[.cells (ρ x).cells true false])else none
 |.boxn n x=>if(ρ x).cells.all AV.one=true/\(ρ x).cells.length=n then some (.ptr h.length 0,h++[.cells (ρ x).cells true false])else none
 |.build z ps=>
  match fillA z (ps.map λp=>(p.1,p.2.1,ρ p.2.2))with
  |some c=>some (.agg c,h)
  |none=>none
 |.load n a=>
  match ρ a with
  |.ptr b o=>
   match h[b]? with
   |some (.cells c _ _)=>
    match n with
    |none=>
     match c[o]? with
     |some x=>some (x,h)
     |none=>none
    |some n=>if o+n<=c.length then some (.agg ((c.drop o).take n),h)else none
   |_=>none
  |_=>none
 |.store n a x=>
  match ρ a with
  |.ptr b o=>
   match h[b]? with
   |some (.cells c true tl)=>
    if(ρ x).cells.length=n/\(ρ x).cells.all AV.one=true/\o+n<=c.length then some (undefA,h.set b (.cells (setL c o (ρ x).cells) true tl))else none
   |_=>none
  |_=>none
 |.nilchk x=>
  match ρ x with
  |.ptr b o=>some (.ptr b o,h)
  |.func (.func f) a c=>some (.func (.func f) a c,h)
  |.func (.yield f) a c=>some (.func (.yield f) a c,h)
  |.func (.methodOf t n) a c=>some (.func (.methodOf t n) a c,h)
  |.func (.via t p f q) a c=>some (.func (.via t p f q) a c,h)
  |_=>none
 |.bin op x y=>
  match binK op (ρ x) (ρ y)with
  |some v=>some (v,h)
  |none=>none
 |.eqv neg t x y=>
  match eqvK t (ρ x) (ρ y)with
  |some b=>some (.bool (if neg then !b else b),h)
  |none=>none
 |.eqp neg x y=>
  match ρ x,ρ y with
  |.ptr b o,.ptr b' o'=>
   match h[b]?,h[b']? with
   |some (.cells c true false),some (.cells c' true false)=>if o<c.length/\o'<c'.length then some (.bool (if neg then !decide (b=b'/\o=o')else decide (b=b'/\o=o')),h)else none
   |_,_=>none
  |_,_=>none
 |.un op x=>
  match unK op (ρ x)with
  |some v=>some (v,h)
  |none=>none
 |.cpx x y=>
  match ρ x,ρ y with
  |.flt k a,.flt k' b=>if k=k' then some (.cplx k a b,h)else none
  |_,_=>none
 |.conv k x=>convA k (ρ x) h
 |.mkfn f a c=>some (.func f (a.map ρ) (c.map ρ),h)
 |.mkmap=>some (.map h.length,h++[.mapb []])
 |.mksl es w z l c=>
  match ρ l,ρ c with
  |.int _ l,.int _ c=>
   if 0<=l/\l<=c/\(w:Int)*c<=2^48/\c<2^63 then some (.slice h.length 0 l.toNat es,h++[.cells (zrep l.toNat z) true true])else none
  |_,_=>none
 |.sl es x lo hi=>
  match ρ x with
  |.slice b o n es'=>
   if es' =es then
    match bnds (lo.map ρ) (hi.map ρ) n with
    |some (l,h')=>some (.slice b (o+l*es) (h'-l) es,h)
    |none=>none
   else none
  |.nilSlice=>
   match bnds (lo.map ρ) (hi.map ρ) 0 with
   |some _=>some (.nilSlice,h)
   |none=>none
  |_=>none
 |.sls x lo hi=>
  match ρ x with
  |.str s=>
   match bnds (lo.map ρ) (hi.map ρ) s.length with
   |some (l,h')=>some (.str ((s.drop l).take (h'-l)),h)
   |none=>none
  |_=>none
 |.sla k es x lo hi=>
  match ρ x with
  |.ptr b o=>
   match h[b]? with
   |some (.cells c _ _)=>
    if o+k*es<=c.length then
     match bnds (lo.map ρ) (hi.map ρ) k with
     |some (l,h')=>some (.slice b (o+l*es) (h'-l) es,h)
     |none=>none
    else none
   |_=>none
  |_=>none
 |.fadr off x=>
  match ρ x with
  |.ptr b o=>some (.ptr b (o+off),h)
  |_=>none
 |.iadr es x i=>
  match ρ x,ρ i with
  |.slice b o n es',.int _ i=>if es' =es/\0<=i/\i<n then some (.ptr b (o+i.toNat*es),h)else none
  |_,_=>none
 |.iada len es x i=>
  match ρ x,ρ i with
  |.ptr b o,.int _ i=>if 0<=i/\i<len then some (.ptr b (o+i.toNat*es),h)else none
  |_,_=>none
 |.part n off x=>
  match ρ x with
  |.agg cs=>
   match n with
   |none=>
    match cs[off]? with
    |some v=>some (v,h)
    |none=>none
   |some n=>some (.agg ((cs.drop off).take n),h)
  |_=>none
 |.ixa len es n x i=>
  match ρ x,ρ i with
  |.agg cs,.int _ i=>
   if 0<=i/\i<len then
    match n with
    |none=>
     match cs[i.toNat*es]? with
     |some v=>some (v,h)
     |none=>none
    |some n=>some (.agg ((cs.drop (i.toNat*es)).take n),h)
   else none
  |_,_=>none
 |.ixs x i=>
  match ρ x,ρ i with
  |.str s,.int _ i=>
   if 0<=i then
    match s[i.toNat]? with
    |some b=>some (.int .u8 b.toNat,h)
    |none=>none
   else none
  |_,_=>none
 |.look kk z ok m k=>
  match ρ m with
  |.nilMap=>some (if ok then .tup [z,.bool false]else z,h)
  |.map r=>
   match h[r]? with
   |some (.mapb es)=>
    match findA kk (ρ k) es with
    |some (some v)=>some (if ok then .tup [v,.bool true]else v,h)
    |some none=>some (if ok then .tup [z,.bool false]else z,h)
    |none=>none
   |_=>none
  |_=>none
 |.mupd kk m k x=>
  match ρ m with
  |.map r=>
   match h[r]? with
   |some (.mapb es)=>
    match updA kk (ρ k) (ρ x) es with
    |some es'=>some (undefA,h.set r (.mapb es'))
    |none=>none
   |_=>none
  |_=>none
 |.rstr x=>
  match ρ x with
  |.str s=>some (.ptr h.length 0,h++[.iter s 0])
  |_=>none
 |.nexts x=>
  match ρ x with
  |.ptr b 0=>
   match h[b]? with
   |some (.iter s pos)=>
    if pos<s.length then
     let d:=Utf8.decode ⟨⟨s⟩⟩ pos
     some (.tup [.bool true,.int .i64 pos,.int .i32 d.1],h.set b (.iter s (pos+d.2)))
    else some (.tup [.bool false],h)
   |_=>none
  |_=>none
 |.ext x i=>
  match ρ x with
  |.tup l=>
   match l[i]? with
   |some v=>some (v,h)
   |none=>none
  |_=>none
 |.len lk x=>
  match lenA lk h (ρ x)with
  |some n=>some (.int .i64 n,h)
  |none=>none
 |.lenc n=>some (.int .i64 n,h)
 |.cpy es x y=>
  match ρ x,cellsIn es h (ρ y)with
  |.slice b o n es',some (ys,k)=>
   if es' =es then
    if min k n=0 then some (.int .i64 0,h)
    else
     match h[b]? with
     |some (.cells c true tl)=>if o+min k n*es<=c.length then some (.int .i64 (min k n:Nat),h.set b (.cells (setL c o (ys.take (min k n*es))) true tl))else none
     |_=>none
   else none
  |.nilSlice,some _=>some (.int .i64 0,h)
  |_,_=>none
 |.mx x l=>
  match foldA max2A (ρ x) (l.map ρ)with
  |some v=>some (v,h)
  |none=>none
 |.mn x l=>
  match foldA min2A (ρ x) (l.map ρ)with
  |some v=>some (v,h)
  |none=>none
 |_=>none
inductive AppR (es w:Nat) (s y:AV) (h:AHeap):AV->AHeap->Prop
 |none (hy:cellsIn es h y=some ([],0)) (hs:s=.nilSlice\/∃b o n,s=.slice b o n es):AppR es w s y h s h
 |new (ys:List AV) (k:Nat) (mu:Bool) (hy:cellsIn es h y=some (ys,k)) (hk:0<k) (hb:k*w<=2^46) (hs:s=.nilSlice):
   AppR es w s y h (.slice h.length 0 k es) (h++[.cells ys mu true])
 |on (ys:List AV) (k b o n:Nat) (c:List AV) (mu:Bool) (hy:cellsIn es h y=some (ys,k)) (hk:0<k) (hb:(n+k)*w<=2^46) (hs:s=.slice b o n es)
   (hc:h[b]? =some (.cells c mu true)) (hl:o+n*es=c.length):
   AppR es w s y h (.slice h.length 0 (n+k) es) (h.set b (.cells c false false)++[.cells (c.drop o++ys) false true])
 |over (ys:List AV) (k b o n:Nat) (c:List AV) (mu:Bool) (hy:cellsIn es h y=some (ys,k)) (hk:0<k) (hb:(n+k)*w<=2^46) (hs:s=.slice b o n es)
   (hc:h[b]? =some (.cells c true true)) (hl:o+n*es<=c.length):
   AppR es w s y h (.slice h.length 0 (n+k) es) (h.set b .dead++[.cells ((c.drop o).take (n*es)++ys) mu true])
 |full (ys:List AV) (k b o n:Nat) (c:List AV) (hy:cellsIn es h y=some (ys,k)) (hk:0<k) (hb:(n+k)*w<=2^46) (hs:s=.slice b o n es)
   (hc:h[b]? =some (.cells c true false)) (hl:o+n*es=c.length):
   AppR es w s y h (.slice h.length 0 (n+k) es) (h++[.cells (c.drop o++ys) true true])
def wrap64{n}(h0:-9223372036854775808<=n)(h1:n<9223372036854775808):IntKind.i64.wrap n=n:=by
 show(if(true&&decide (n%(18446744073709551616:Int)>=(9223372036854775808:Int)))=true then n%(18446744073709551616:Int)-18446744073709551616 else n%(18446744073709551616:Int))=n;simp only[Bool.true_and,decide_eq_true_eq];split<;>omega
def wrapU64{n}(h0:0<=n)(h1:n<18446744073709551616):IntKind.u64.wrap n=n:=by
 show(if(false&&decide (n%(18446744073709551616:Int)>=(9223372036854775808:Int)))=true then n%(18446744073709551616:Int)-18446744073709551616 else n%(18446744073709551616:Int))=n;simp only[Bool.false_and,Bool.false_eq_true,if_false];omega
end Go.Abs
namespace Go.Abs
def Post(P:Program)(m:Emb)(h:AHeap)(w:World)(v:AV)(h':AHeap)(r:Result Next):Prop:=
 ∃cv w' m',(r=.ok (.value cv) w'\/(r=.ok .skip w'/\cv=undef))/\VR m' v cv/\HR P m' h' w'/\Grow m h w m' h' w'
def Post.same{P m h w v cv r}(hr:HR P m h w)(hv:VR m v cv)(e:r=.ok (.value cv) w):Post P m h w v h r:=
 ⟨cv,w,m,.inl e,hv,hr,Grow.refl m h w hr.dom⟩
def undef_VR(m:Emb):VR m undefA undef:=⟨[],rfl,rfl⟩
theorem mapM_VRs(m:Emb)(n:Nat)(ih:∀v a,absV n v=some a->VR m a v):∀(l:List Value) (r:List AV),l.mapM (absV n)=some r->VRs m r l
 |[],r,h=>by simp at h;subst h;exact VRs_nil.2 rfl
 |v::l,r,h=>by
  simp only[List.mapM_cons,Option.bind_eq_bind,Option.pure_def]at h;cases hv:absV n v with
  |none=>simp[hv]at h
  |some a=>
   cases hl:l.mapM (absV n)with
   |none=>simp[hv,hl]at h
   |some r'=>
    simp[hv,hl]at h;subst h;exact VRs_cons.2 ⟨v,l,rfl,ih v a hv,mapM_VRs m n ih l r' hl⟩
theorem absV_VR(m:Emb):∀(n:Nat) (v:Value) (a:AV),absV n v=some a->VR m a v
 | 0,v,a,h=>by simp[absV]at h
 |n+1,v,a,h=>by
  unfold absV at h;split at h
  ·cases h;rfl
  ·cases h;rfl
  ·cases h;exact⟨_,rfl,.inl rfl⟩
  ·cases h;exact⟨_,_,rfl,.inl rfl,.inl rfl⟩
  ·cases h;rfl
  ·cases h;rfl
  ·cases h;rfl
  ·cases h;rfl
  ·cases h;rfl
  ·cases h;rfl
  ·rename_i cs;cases hl:cs.toList.mapM (absV n)with
   |none=>simp[hl]at h
   |some r=>simp[hl]at h;subst h;exact⟨cs.toList,rfl,mapM_VRs m n (absV_VR m n) _ _ hl⟩
  ·rename_i cs;cases hl:cs.toList.mapM (absV n)with
   |none=>simp[hl]at h
   |some r=>simp[hl]at h;subst h;exact⟨cs.toList,rfl,mapM_VRs m n (absV_VR m n) _ _ hl⟩
  ·cases h
def opd_const{x:Operand}{x':Opd}(h:opd? x=some x'):∀c,x' =.c c->∃v,x=.const v:=by
 rintro c rfl;cases x with
 |const v=>exact⟨v,rfl⟩
 |tmp t=>simp[opd?]at h
 |global g=>simp[opd?]at h
 |func f=>simp[opd?]at h
def run_sizeOf'{P}{t:TypeId}{n}(h:sizeN P t=some n)(w:World):(sizeOf t).run P w=.ok n w:=by
 unfold sizeN at h;cases hi:P.info? t with
 |none=>simp[hi]at h
 |some i=>simp[hi]at h;subst h;simp[sizeOf,typeInfo,hi]
def run_isAgg{P}{t:TypeId}{d:TypeDesc}(h:P.underlying t=some d)(w:World):(isAgg t).run P w=.ok (isAggD d) w:=by
 cases d<;>simp[isAgg,run_underlying h,isAggD]
def nOf_some{P}{t:TypeId}{n}(h:nOf P t=some (some n))(w:World):(isAgg t).run P w=.ok true w/\sizeN P t=some n:=by
 unfold nOf at h;split at h
 case h_2=>cases h
 rename_i d hu;split at h
 case isFalse=>simp at h
 rename_i hd;refine⟨by rw[run_isAgg hu,hd],?_⟩;cases hi:P.info? t with
 |none=>simp[hi]at h
 |some i=>simp[hi]at h;simp[sizeN,hi,h]
def nOf_none{P}{t:TypeId}(h:nOf P t=some none)(w:World):(isAgg t).run P w=.ok false w:=by
 unfold nOf at h;split at h
 case h_2=>cases h
 rename_i d hu;split at h
 case isTrue=>cases hi:P.info? t<;>simp[hi]at h
 rename_i hd;rw[run_isAgg hu];simp at hd;rw[hd]
def zeroA_run{P}{t:TypeId}{z}(h:zeroA P t=some z)(w:World)(m:Emb):∃cz,(zeroValue t).run P w=.ok cz w/\VR m z cz:=by
 unfold zeroA at h;cases hi:P.info? t with
 |none=>simp[hi]at h
 |some i=>
  cases hz:i.zero with
  |none=>simp[hi,hz]at h
  |some cz=>
   simp[hi,hz]at h;exact⟨cz,by simp[zeroValue,typeInfo,hi,hz],absV_VR m 4 cz z h⟩
section
variable {P:Program}{m:Emb}{h h':AHeap}{w:World}{v:AV}{ρ:Opd->AV}{hr:HR P m h w}
def newVar_ok(hr:HR P m h w){x cx}(hx:VR m x cx)(h1:x.cells.all AV.one=true)(t:TypeId)(mu tl:Bool):
  ∃m',(newVar t cx).run P w=.ok ⟨w.heap.size,0,none⟩ (w.alloc (.cells cx.cells t))/\VR m' (.ptr h.length 0) (.pointer (some ⟨w.heap.size,0,none⟩))/\
   HR P m' (h++[.cells x.cells mu tl]) (w.alloc (.cells cx.cells t))/\Grow m h w m' (h++[.cells x.cells mu tl]) (w.alloc (.cells cx.cells t)):=by
 obtain⟨m',h0,h2,h3⟩:=alloc_cells hr hx.cells h1 t mu tl;refine⟨m',by simp[newVar,newRow],⟨_,h0,rfl⟩,h2,h3⟩
def s_load{t:TypeId}{n a ca}(hn:nOf P t=some n)(hr:HR P m h w)(ha:VR m (ρ a) ca)(hf:fnK (.load n a) ρ h=some (v,h')):
  ∃cv,(Instr.loadAt t ca).run P w=.ok cv w/\VR m v cv/\h' =h:=by
 simp only[fnK]at hf;split at hf
 case h_2=>cases hf
 rename_i b o hρ;rw[hρ]at ha;obtain⟨e,he,rfl⟩:=ha;split at hf
 case h_2=>cases hf
 rename_i c mu tl hb;cases n with
 |none=>
  simp only at hf;split at hf
  case h_2=>cases hf
  rename_i x hx;cases hf;obtain⟨_,cv,hcv,hvr⟩:=cell_of hr he hb hx;exact⟨cv,by simp[Instr.loadAt,Instr.sureAddr,loadVar,nOf_none hn,hcv],hvr,rfl⟩
 |some n=>
  simp only at hf;split at hf
  case isFalse=>cases hf
  rename_i hle;cases hf;obtain⟨hagg,hsz⟩:=nOf_some hn w;obtain⟨vs,hrun,hvs,_⟩:=load_cells hr he hb o n hle;exact⟨.agg ⟨vs⟩,by simp[Instr.loadAt,Instr.sureAddr,loadVar,hagg,run_sizeOf' hsz,hrun],⟨vs,rfl,hvs⟩,rfl⟩
def s_store{t:TypeId}{n a x ca cx}(hn:sizeN P t=some n)(hr:HR P m h w)(ha:VR m (ρ a) ca)(hx:VR m (ρ x) cx)(hf:fnK (.store n a x) ρ h=some (v,h')):
  ∃w',(Instr.storeAt t ca cx).run P w=.ok () w'/\v=undefA/\HR P m h' w'/\Grow m h w m h' w':=by
 simp only[fnK]at hf;split at hf
 case h_2=>cases hf
 rename_i b o hρ;rw[hρ]at ha;obtain⟨e,he,rfl⟩:=ha;split at hf
 case h_2=>cases hf
 rename_i c tl hb;split at hf
 case isFalse=>cases hf
 rename_i hc;cases hf;obtain⟨h1,h2,h3⟩:=hc;have hcl:=hx.cells;obtain⟨w',hrun,hr',hg'⟩:=storeN_ok (ρ x).cells cx.cells.toList hr he hb o 0 (by omega) h2 hcl;have hlen:cx.cells.size=n:=by have:=hcl.length;simp at this;omega
 refine⟨w',?_,rfl,hr',hg'⟩;simp only[Instr.storeAt,Instr.sureAddr,storeVar,Sem.run_bind,Sem.run_pure,Result.andThen_ok,run_sizeOf' hn];simp[hlen,hrun]
def setLV(c:List Value)(o:Nat):List Value->List Value
 |[]=>c
 |x::xs=>setLV (c.set o x) (o+1) xs
theorem setLV_VRs{m}:∀{xs}{vs},VRs m xs vs->∀{c}{cv}(o:Nat),VRs m c cv->VRs m (setL c o xs) (setLV cv o vs)
 |[],vs,hx,c,cv,o,hc=>by rw[VRs_nil]at hx;subst hx;exact hc
 |x::xs,vs,hx,c,cv,o,hc=>by
  obtain⟨v,vs',rfl,hv,hvs⟩:=VRs_cons.1 hx;exact setLV_VRs hvs (o+1) (hc.set o hv)
theorem foldl_zip(off:Nat):∀(xs:List Value) (k:Nat) (cs:Array Value),(List.foldl (λcs (p:Value×Nat)=>cs.setIfInBounds (off+p.2) p.1) cs (xs.zipIdx k)).toList=setLV cs.toList (off+k) xs
 |[],k,cs=>rfl
 |x::xs,k,cs=>by
  simp only[List.zipIdx_cons,List.foldl_cons,setLV];rw[foldl_zip off xs (k+1)];simp[Nat.add_assoc]
theorem fill_ok{m}(place:Nat->Option (Nat×Nat)):∀(ps:List (Nat×Value)) (qs:List (Nat×Nat×AV)) (c:List AV) (cc:Array Value) (c':List AV),
  ps.length=qs.length->(∀(i:Nat) p q,ps[i]? =some p->qs[i]? =some q->place p.1=some (q.1,q.2.1)/\VR m q.2.2 p.2)->VRs m c cc.toList->fillA c qs=some c'->
  ∃cc',Instr.fill place cc ps=some cc'/\VRs m c' cc'.toList
 |[],[],c,cc,c',_,_,hc,hf=>by simp[fillA]at hf;subst hf;exact⟨cc,rfl,hc⟩
 |[],q::qs,c,cc,c',hl,_,_,_=>by simp at hl
 |p::ps,[],c,cc,c',hl,_,_,_=>by simp at hl
 |(i,x)::ps,(off,n,y)::qs,c,cc,c',hl,hp,hc,hf=>by
  obtain⟨hpl,hxy⟩:=hp 0 (i,x) (off,n,y) (by simp) (by simp);simp only at hpl hxy;simp only[fillA]at hf;split at hf
  case isFalse=>cases hf
  rename_i hcond;obtain⟨hlen,hle⟩:=hcond;have hcells:=hxy.cells;have hsz:x.cells.size=n:=by have:=hcells.length;simp at this;omega
  have hcs:cc.size=c.length:=by have:=hc.length;simpa using this
  have hfold:(x.cells.zipIdx.foldl (λcs (p:Value×Nat)=>cs.setIfInBounds (off+p.2) p.1) cc).toList=setLV cc.toList off x.cells.toList:=by
   rw[<-Array.foldl_toList];have:=foldl_zip off x.cells.toList 0 cc
   simpa using this
  obtain⟨cc',h1,h2⟩:=fill_ok place ps qs (setL c off y.cells) (x.cells.zipIdx.foldl (λcs (p:Value×Nat)=>cs.setIfInBounds (off+p.2) p.1) cc) c' (by simpa using hl)
   (λj p q hj hq=>hp (j+1) p q (by simpa using hj) (by simpa using hq)) (by rw[hfold];exact setLV_VRs hcells off hc) hf
  refine⟨cc',?_,h2⟩;simp only[Instr.fill,hpl];rw[if_neg (by simp;omega)];exact h1
theorem buildPs_len{P}{t:TypeId}:∀{ps}{l},buildPs P t ps=some l->ps.length=l.length/\
  ∀(i:Nat) p q,ps[i]? =some p->l[i]? =some q->placeAt P t p.1=some (q.1,q.2.1)/\opd? p.2=some q.2.2
 |[],l,h=>by simp[buildPs]at h;subst h;exact⟨rfl,λi p q hp=>by simp at hp⟩
 |(i,x)::ps,l,h=>by
  simp only[buildPs]at h;split at h
  case h_2=>cases h
  rename_i off n y r h1 h2 h3;cases h;obtain⟨hl,hp⟩:=buildPs_len h3;refine⟨by simp[hl],λj p q hj hq=>?_⟩;cases j with
  |zero=>simp at hj hq;subst hj;subst hq;exact⟨h1,h2⟩
  |succ j=>exact hp j p q (by simpa using hj) (by simpa using hq)
def built_eq{t:TypeId}{z:AV}{ps:List (Nat×Value)}{cz:Value}{cc':Array Value}(hz:(P.info? t).bind (·.zero)=some cz)(hp:placesOk P t=true)(hf:Instr.fill (placeAt P t) cz.cells ps=some cc'):
  P.built t ps=some cc':=by
 unfold Program.built;cases hi:P.info? t with
 |none=>simp[hi]at hz
 |some it=>
  simp[hi]at hz;unfold placesOk at hp;split at hp
  ·rename_i fs hu;obtain⟨places,hpls⟩:=Option.isSome_iff_exists.1 hp;have hpl:placeAt P t=λi=>places[i]? :=by
    funext i;simp only[placeAt,hu,hpls]
   rw[hpl]at hf;simp only[hu,hz,hpls]
   simpa using hf
  ·rename_i n e hu;obtain⟨ie,hie⟩:=Option.isSome_iff_exists.1 hp;have hpl:placeAt P t=λi=>some (i*ie.size,ie.size):=by
    funext i;simp only[placeAt,hu,hie];rfl
   rw[hpl]at hf;simp only[hu,hz,hie];exact hf
  ·cases hp
def s_build{t:TypeId}{z:AV}{ps:Array (Nat×Operand)}{l:List (Nat×Nat×Opd)}{σ:Operand->Value}(hz:zeroA P t=some z)(hl:buildPs P t ps.toList=some l)(hp:placesOk P t=true)
  (hρ:∀p∈ps.toList,∀y,opd? p.2=some y->VR m (ρ y) (σ p.2)) (hf:fnK (.build z.cells l) ρ h=some (v,h')):
  ∃cv,(Instr.build t (ps.map λ(i,x)=>(i,σ x))).run P w=.ok cv w/\VR m v cv/\h' =h:=by
 simp only[fnK]at hf;split at hf
 case h_2=>cases hf
 rename_i c hc;cases hf;obtain⟨hlen,hpq⟩:=buildPs_len hl;have hz0:∃cz,(P.info? t).bind (·.zero)=some cz/\VR m z cz:=by
  unfold zeroA at hz;cases hi:P.info? t with
  |none=>simp[hi]at hz
  |some i=>
   cases hzz:i.zero with
   |none=>simp[hi,hzz]at hz
   |some cz=>simp[hi,hzz]at hz;exact⟨cz,by simp[hzz],absV_VR m 4 cz z hz⟩
 obtain⟨cz,hcz,hvz⟩:=hz0;obtain⟨cc',hfill,hvs⟩:=fill_ok (m:=m) (placeAt P t) (ps.toList.map λp=>(p.1,σ p.2)) (l.map λp=>(p.1,p.2.1,ρ p.2.2)) z.cells cz.cells c (by simp[hlen])
  (λi p q hp' hq=>by
   simp only[List.getElem?_map,Option.map_eq_some_iff]at hp' hq;obtain⟨p0,hp0,rfl⟩:=hp';obtain⟨q0,hq0,rfl⟩:=hq;obtain⟨h1,h2⟩:=hpq i p0 q0 hp0 hq0;exact⟨h1,hρ p0 (List.mem_of_getElem? hp0) _ h2⟩) hvz.cells hc
 refine⟨.agg cc',run_build w t _ cc' ?_,⟨cc'.toList,rfl,hvs⟩,rfl⟩;have:=built_eq (z:=z) hcz hp hfill
 simpa using this
def s_part{t:TypeId}{n off l l'}(hn:nOf P t=some n)(hl:VRs m l l')
  (hf:(match n with|none=>(match l[off]? with|some v=>some (v,h)|none=>none)|some n=>some (.agg ((l.drop off).take n),h))=some (v,h')):
  ∃cv,(part t ⟨l'⟩ off).run P w=.ok cv w/\VR m v cv/\h' =h:=by
 cases n with
 |none=>
  simp only at hf;split at hf
  case h_2=>cases hf
  rename_i x hx;cases hf;obtain⟨cv,hcv,hvr⟩:=hl.get hx;exact⟨cv,by simp[part,nOf_none hn,hcv],hvr,rfl⟩
 |some n=>
  cases hf;obtain⟨h1,h2⟩:=nOf_some hn w;refine⟨.agg ⟨(l'.drop off).take n⟩,?_,⟨_,rfl,(hl.drop off).take n⟩,rfl⟩;simp only[part,Sem.run_bind,h1,Result.andThen_ok,if_true,run_sizeOf' h2,Sem.run_pure];simp[List.extract_eq_take_drop]
end
end Go.Abs
namespace Go.Abs
section
variable {P:Program}{m:Emb}{h h':AHeap}{w:World}
def run_intBin{op k a b v}(hs:isShift op=false)(hf:intBin op k a b=some v)(t:TypeId):
  ∃cv,(binOp op t (.int k a) (.int k b)).run P w=.ok cv w/\VR m v cv:=by
 cases op<;>simp only[intBin,isShift]at hf hs<;>first
  |(cases hs;done)
  |(cases hf;done)
  |skip
 all_goals first
  |(cases hf;exact⟨_,by simp[binOp,Op.intArith,Op.intBits,Op.intCmp],rfl⟩)
  |(split at hf
    ·cases hf
    ·rename_i hb;cases hf;exact⟨_,by simp[binOp,Op.intDiv,hb],rfl⟩)
def run_shiftK{op k k' a b v}(hs:isShift op=true)(hf:shiftK op k a b=some v)(t:TypeId):
  ∃cv,(binOp op t (.int k a) (.int k' b)).run P w=.ok cv w/\VR m v cv:=by
 unfold shiftK at hf;split at hf
 ·cases hf
 ·rename_i hb;cases op<;>first
   |(cases hs;done)
   |(cases hf;exact⟨_,by simp[binOp,Op.shift,hb],rfl⟩)
def toList_mk(l:List UInt8):(⟨⟨l⟩⟩:ByteArray).toList=l:=by rw[ByteArray.toList_eq]
def append_mk(a b:List UInt8):(⟨⟨a⟩⟩:ByteArray)++⟨⟨b⟩⟩=⟨⟨a++b⟩⟩:=by
 apply ByteArray.ext
 rw[ByteArray.data_append];simp
def run_strBin{op a b v}(hf:strBin op a b=some v)(t:TypeId):
  ∃cv,(binOp op t (.string ⟨⟨a⟩⟩) (.string ⟨⟨b⟩⟩)).run P w=.ok cv w/\VR m v cv:=by
 cases op<;>simp only[strBin]at hf<;>first
  |(cases hf;done)
  |skip
 all_goals first
  |(cases hf;exact⟨_,by simp[binOp,Op.stringOp,toList_mk],rfl⟩)
  |(split at hf
    ·rename_i hlen;cases hf;refine⟨.string ⟨⟨a++b⟩⟩,?_,rfl⟩;have hn:¬(IntKind.i64.max<(((⟨⟨a⟩⟩:ByteArray).size+(⟨⟨b⟩⟩:ByteArray).size:Nat):Int)):=by
      show ¬((9223372036854775807:Int)<((a.length+b.length:Nat):Int));omega
     simp only[binOp,Op.stringOp,GT.gt,if_neg hn,append_mk,Sem.run_pure]
    ·cases hf)
def run_fltArith{op k x y r}(hop:(match op with|.add=>some (k.format.add x y)|.sub=>some (k.format.sub x y)|.mul=>some (k.format.mul x y)|.quo=>some (k.format.div x y)|_=>none)=some r)
  (hn:r=none->nanB k (qnan k)=true/\∀q:Nat,nanB k ((Question.nanBits k x y).cut q)=true) (hr:HR P m h w) (t:TypeId):
  ∃cv w',(binOp op t (.float k x) (.float k y)).run P w=.ok cv w'/\VR m (fltRes k r) cv/\(w' =w\/w' =w.drew):=by
 cases r with
 |some r=>
  refine⟨.float k r,w,?_,⟨r,rfl,.inl rfl⟩,.inl rfl⟩;cases op<;>simp only[]at hop<;>first
   |(cases hop;done)
   |(simp only[Option.some.injEq]at hop;simp[binOp,Op.floatArith,hop])
 |none=>
  obtain⟨h1,h2⟩:=hn rfl;refine⟨.float k ((Question.nanBits k x y).cut (w.tape w.drawn (.nanBits k x y))),w.drew,?_,⟨_,rfl,.inr ⟨h1,h2 _⟩⟩,.inr rfl⟩;cases op<;>simp only[]at hop<;>first
   |(cases hop;done)
   |(simp only[Option.some.injEq]at hop;simp[binOp,Op.floatArith,hop,Question.forced])
def rung_nan(f:Ieee.Format)(hb:f.binade<=f.infRung)(w:Nat):(f.read w).isNaN=decide (f.infRung<w%f.signWeight):=by
 unfold Ieee.Format.read;dsimp only;split
 ·rw[decide_eq_false (by omega)];rfl
 ·split
  ·rw[decide_eq_false (by omega)];rfl
  ·split
   ·rw[decide_eq_false (by omega)];rfl
   ·rw[decide_eq_true (by omega)];rfl
def nanB_isNaN{k b}:nanB k b=(k.format.read b).isNaN:=by
 unfold nanB Ieee.Format.order;cases k.format.read b<;>simp[Ieee.Datum.order,Ieee.Datum.isNaN]
def nanB_rung{k b}:nanB k b=decide (k.format.infRung<b%k.format.signWeight):=by
 rw[nanB_isNaN];exact rung_nan _ (by cases k<;>decide) _
def nan_read{k b}(h:nanB k b=true):∃s t,k.format.read b=.nan s t:=by
 rw[nanB_isNaN]at h;cases hr:k.format.read b with
 |nan s t=>exact⟨s,t,rfl⟩
 |number s u e=>rw[hr]at h;cases h
 |infinity s=>rw[hr]at h;cases h
def nan_sum{d e:Ieee.Datum}(h:(∃s t,d=.nan s t)\/∃s t,e=.nan s t):d.sum e=none:=by
 rcases h with⟨s,t,rfl⟩|⟨s,t,rfl⟩
 ·rfl
 ·cases d<;>rfl
def nan_prod{d e:Ieee.Datum}(h:(∃s t,d=.nan s t)\/∃s t,e=.nan s t):d.product e=none:=by
 rcases h with⟨s,t,rfl⟩|⟨s,t,rfl⟩
 ·rfl
 ·cases d<;>rfl
def nan_quot{n}{d e:Ieee.Datum}(h:(∃s t,d=.nan s t)\/∃s t,e=.nan s t):d.quotient n e=none:=by
 rcases h with⟨s,t,rfl⟩|⟨s,t,rfl⟩
 ·rfl
 ·cases d<;>rfl
def nan_ord{d e:Ieee.Datum}(h:(∃s t,d=.nan s t)\/∃s t,e=.nan s t):d.order e=none:=by
 rcases h with⟨s,t,rfl⟩|⟨s,t,rfl⟩
 ·rfl
 ·cases d<;>rfl
def nan_or{k a b}(h:nanB k a=true\/nanB k b=true):(∃s t,k.format.read a=.nan s t)\/∃s t,k.format.read b=.nan s t:=h.imp nan_read nan_read
def nan_opp{d:Ieee.Datum}(h:∃s t,d=.nan s t):∃s t,d.opposite=.nan s t:=by obtain⟨s,t,rfl⟩:=h;exact⟨_,_,rfl⟩
def FR.nan{k b b'}(h:FR k b b')(hn:nanB k b=true):nanB k b' =true:=by
 rcases h with rfl|⟨_,h⟩
 ·exact hn
 ·exact h
def FR_order{k a b a' b'}(ha:FR k a a')(hb:FR k b b'):k.format.order a' b' =k.format.order a b:=by
 by_cases hn:nanB k a=true\/nanB k b=true
 ·exact(nan_ord (nan_or (hn.imp ha.nan hb.nan))).trans (nan_ord (nan_or hn)).symm
 ·rcases ha with rfl|⟨h,_⟩
  ·rcases hb with rfl|⟨h,_⟩
   ·rfl
   ·exact absurd (.inr h) hn
  ·exact absurd (.inl h) hn
def fltBin_FR{op k a b a' b'}(ha:FR k a a')(hb:FR k b b'):fltBin op k a' b' =fltBin op k a b:=by
 by_cases hn:nanB k a=true\/nanB k b=true
 ·have h1:=nan_or hn;have h2:=nan_or (hn.imp ha.nan hb.nan);have e1:k.format.order a' b' =k.format.order a b:=FR_order ha hb;have e2:k.format.add a' b' =k.format.add a b:=by unfold Ieee.Format.add;rw[nan_sum h1,nan_sum h2]
  have e3:k.format.sub a' b' =k.format.sub a b:=by unfold Ieee.Format.sub;rw[nan_sum (h1.imp id nan_opp),nan_sum (h2.imp id nan_opp)]
  have e4:k.format.mul a' b' =k.format.mul a b:=by unfold Ieee.Format.mul;rw[nan_prod h1,nan_prod h2]
  have e5:k.format.div a' b' =k.format.div a b:=by unfold Ieee.Format.div;rw[nan_quot h1,nan_quot h2]
  cases op<;>simp only[fltBin,e1,e2,e3,e4,e5]
 ·rcases ha with rfl|⟨h,_⟩
  ·rcases hb with rfl|⟨h,_⟩
   ·rfl
   ·exact absurd (.inr h) hn
  ·exact absurd (.inl h) hn
def qnan_nan(k:FloatKind):nanB k (qnan k)=true:=by cases k<;>decide+kernel
def nan_num{s r B I:Nat}(hr:I+1+r<B):I<(s*B+I+1+r)%B:=by
 have e:s*B+I+1+r=(I+1+r)+B*s:=by rw[Nat.mul_comm s B];omega
 rw[e,Nat.add_mul_mod_self_left,Nat.mod_eq_of_lt hr];omega
def cut_nan(k:FloatKind)(x y q:Nat):nanB k ((Question.nanBits k x y).cut q)=true:=by
 rw[nanB_rung,decide_eq_true_eq];cases k with
 |f32=>
  have h1:FloatKind.f32.format.infRung=2139095040:=by decide
  have h2:FloatKind.f32.format.signWeight=2147483648:=by decide
  rw[h1,h2];exact nan_num (B:=2147483648) (I:=2139095040) (by have:=Nat.mod_lt (q / 2) (show 0<2^23-1 by decide);omega)
 |f64=>
  have h1:FloatKind.f64.format.infRung=9218868437227405312:=by decide
  have h2:FloatKind.f64.format.signWeight=9223372036854775808:=by decide
  rw[h1,h2];exact nan_num (B:=9223372036854775808) (I:=9218868437227405312) (by have:=Nat.mod_lt (q / 2) (show 0<2^52-1 by decide);omega)
def cut_nanC(k:FloatKind)(x q:Nat):nanB k ((Question.nanConv k x).cut q)=true:=by
 rw[nanB_rung,decide_eq_true_eq];cases k with
 |f32=>
  have h1:FloatKind.f32.format.infRung=2139095040:=by decide
  have h2:FloatKind.f32.format.signWeight=2147483648:=by decide
  rw[h1,h2];exact nan_num (B:=2147483648) (I:=2139095040) (by have:=Nat.mod_lt (q / 2) (show 0<2^23-1 by decide);omega)
 |f64=>
  have h1:FloatKind.f64.format.infRung=9218868437227405312:=by decide
  have h2:FloatKind.f64.format.signWeight=9223372036854775808:=by decide
  rw[h1,h2];exact nan_num (B:=9223372036854775808) (I:=9218868437227405312) (by have:=Nat.mod_lt (q / 2) (show 0<2^52-1 by decide);omega)
def run_fltBin{op k x y v}(hf:fltBin op k x y=some v)(hr:HR P m h w)(t:TypeId):
  ∃cv w',(binOp op t (.float k x) (.float k y)).run P w=.ok cv w'/\VR m v cv/\(w' =w\/w' =w.drew):=by
 have hn:∀{r:Option Nat},r=none->nanB k (qnan k)=true/\∀q:Nat,nanB k ((Question.nanBits k x y).cut q)=true:=λ_=>⟨qnan_nan k,cut_nan k x y⟩
 cases op<;>simp only[fltBin]at hf<;>first
  |(cases hf;done)
  |skip
 case add=>cases hf;exact run_fltArith (op:=.add) rfl hn hr t
 case sub=>cases hf;exact run_fltArith (op:=.sub) rfl hn hr t
 case mul=>cases hf;exact run_fltArith (op:=.mul) rfl hn hr t
 case quo=>cases hf;exact run_fltArith (op:=.quo) rfl hn hr t
 all_goals
  cases hf;exact⟨_,w,by simp[binOp,Op.floatCmp],rfl,.inl rfl⟩
def nanB_neg{k b}:nanB k (Op.negFloat k b)=nanB k b:=by
 rw[nanB_rung,nanB_rung];have:Op.negFloat k b%k.format.signWeight=b%k.format.signWeight:=by
  unfold Op.negFloat Ieee.Format.signWeight;rw[Nat.xor_mod_two_pow,Nat.mod_self,Nat.xor_zero]
 rw[this]
def FR_neg{k b b'}(h:FR k b b'):FR k (Op.negFloat k b) (Op.negFloat k b'):=by
 rcases h with rfl|⟨h1,h2⟩
 ·exact .inl rfl
 ·exact .inr ⟨nanB_neg.trans h1,nanB_neg.trans h2⟩
def run_unK{op x v cx}(hx:VR m x cx)(hf:unK op x=some v):∃cv,(Op.unary op cx).run P w=.ok cv w/\VR m v cv:=by
 cases x with
 |int k n=>
  rw[VR]at hx;subst hx;cases op with
  |neg=>simp only[unK,Option.some.injEq]at hf;subst hf;exact⟨_,rfl,rfl⟩
  |xor=>simp only[unK,intBin,Option.some.injEq]at hf;subst hf;exact⟨_,rfl,rfl⟩
  |not=>simp[unK]at hf
  |plus=>simp[unK]at hf
 |bool b=>
  rw[VR]at hx;subst hx;cases op<;>simp only[unK]at hf<;>first
   |(cases hf;done)
   |(cases hf;exact⟨_,by simp[Op.unary],rfl⟩)
 |flt k b=>
  obtain⟨b',rfl,hfr⟩:=hx;cases op<;>simp only[unK]at hf<;>first
   |(cases hf;done)
   |(cases hf;exact⟨.float k (Op.negFloat k b'),by simp[Op.unary],_,rfl,FR_neg hfr⟩)
 |_=>cases op<;>simp[unK]at hf
def run_eqCell{t:TypeId}{k}(ht:match k with|.b=>P.underlying t=some .bool|.i=>∃k,P.underlying t=some (.int k)|.s=>P.underlying t=some .string|.f=>False|.c=>False)
  {x y}{cx cy}{b}(hx:VR m x cx) (hy:VR m y cy) (hf:eqCell k x y=some b) (d:Nat):(Op.equalIn (d+1) t cx cy).run P w=.ok b w:=by
 unfold eqCell at hf;split at hf
 ·rw[VR]at hx hy;subst hx;subst hy;cases hf;exact run_equalIn_bool' w d t _ _ ht
 ·split at hf
  ·rename_i hk;rw[VR]at hx hy;subst hx;subst hy;subst hk;cases hf;obtain⟨k',hu⟩:=ht;exact run_equalIn_int w d t _ k' _ _ hu
  ·cases hf
 ·rw[VR]at hx hy;subst hx;subst hy;cases hf;rw[run_equalIn_string w d t _ _ ht,toList_mk,toList_mk]
 ·cases hf
def run_eqQ{t:TypeId}{k}(ht:match k with|.b=>P.underlying t=some .bool|.i=>∃k,P.underlying t=some (.int k)|.s=>P.underlying t=some .string|.f=>∃k,P.underlying t=some (.float k)|.c=>∃k,P.underlying t=some (.complex k))
  {x y}{cx cy}{b}(hx:VR m x cx) (hy:VR m y cy) (hf:eqQ k x y=some b) (d:Nat):(Op.equalIn (d+1) t cx cy).run P w=.ok b w:=by
 cases k with
 |b=>exact run_eqCell (k:=.b) ht hx hy hf d
 |i=>exact run_eqCell (k:=.i) ht hx hy hf d
 |s=>exact run_eqCell (k:=.s) ht hx hy hf d
 |f=>
  obtain⟨kk,hu⟩:=ht;cases x<;>first
   |(simp only[eqQ]at hf;cases hf;done)
   |skip
  rename_i k1 a;cases y<;>first
   |(simp only[eqQ]at hf;cases hf;done)
   |skip
  rename_i k2 c;simp only[eqQ]at hf;split at hf
  case isFalse=>cases hf
  rename_i hk;subst hk;obtain⟨a',rfl,ha⟩:=hx;obtain⟨c',rfl,hc⟩:=hy;cases hf;simp only[Op.equalIn,Sem.run_bind,run_underlying hu,Result.andThen_ok,if_true,Sem.run_pure,Op.floatEq,FR_order ha hc]
 |c=>
  obtain⟨kk,hu⟩:=ht;cases x<;>first
   |(simp only[eqQ]at hf;cases hf;done)
   |skip
  rename_i k1 a1 a2;cases y<;>first
   |(simp only[eqQ]at hf;cases hf;done)
   |skip
  rename_i k2 c1 c2;simp only[eqQ]at hf;split at hf
  case isFalse=>cases hf
  rename_i hk;subst hk;obtain⟨a1',a2',rfl,ha1,ha2⟩:=hx;obtain⟨c1',c2',rfl,hc1,hc2⟩:=hy;cases hf;simp only[Op.equalIn,Sem.run_bind,run_underlying hu,Result.andThen_ok,if_true,Sem.run_pure,Op.floatEq,FR_order ha1 hc1,FR_order ha2 hc2]
theorem eqCells_append:∀(ks ks':List CK) (xs ys xs' ys':List AV) (b:Bool),xs.length=ks.length->ys.length=ks.length->eqCells (ks++ks') (xs++xs') (ys++ys')=some b->
  (∃c,eqCells ks xs ys=some c/\((c=true/\eqCells ks' xs' ys' =some b)\/(c=false/\b=false)))
 |[],ks',[],[],xs',ys',b,_,_,h=>⟨true,rfl,.inl ⟨rfl,h⟩⟩
 |k::ks,ks',x::xs,y::ys,xs',ys',b,hx,hy,h=>by
  simp only[List.cons_append,eqCells]at h ⊢;cases hc:eqQ k x y with
  |none=>simp[hc]at h
  |some c=>
   cases c with
   |false=>simp[hc]at h;subst h;exact⟨false,by simp,.inr ⟨rfl,rfl⟩⟩
   |true=>
    simp only[hc]at h;obtain⟨c,h1,h2⟩:=eqCells_append ks ks' xs ys xs' ys' b (by simpa using hx) (by simpa using hy) h;exact⟨c,by simpa using h1,h2⟩
 |[],_,_::_,_,_,_,_,h,_,_=>by simp at h
 |[],_,_,_::_,_,_,_,_,h,_=>by simp at h
 |_::_,_,[],_,_,_,_,h,_,_=>by simp at h
 |_::_,_,_,[],_,_,_,_,h,_=>by simp at h
def ofCells(d:TypeDesc)(l:List Value):Value:=if isAggD d then .agg ⟨l⟩else l.headD default
def run_part{t:TypeId}{d:TypeDesc}{n}(hd:P.underlying t=some d)(hn:sizeN P t=some n)(h1:isAggD d=false->n=1){l off}(hl:off+n<=l.length):
  (part t ⟨l⟩ off).run P w=.ok (ofCells d ((l.drop off).take n)) w:=by
 unfold ofCells;cases ha:isAggD d with
 |true=>
  simp only[part,Sem.run_bind,run_isAgg hd,ha,Result.andThen_ok,if_true,run_sizeOf' hn,Sem.run_pure];simp[List.extract_eq_take_drop]
 |false=>
  have:=h1 ha;subst this;have hlt:off<l.length:=by omega
  simp only[part,Sem.run_bind,run_isAgg hd,ha,Result.andThen_ok];have e:(l.drop off).take 1=[l[off]]:=by
   rw[List.drop_eq_getElem_cons hlt,List.take_succ_cons,List.take_zero]
  simp[e,hlt]
def flat_info{d}{t:TypeId}{ks}(hf:flat P d t=some ks):∃ds,P.underlying t=some ds/\(isAggD ds=false->ks.length=1):=by
 cases d with
 |zero=>simp[flat]at hf
 |succ d=>
  unfold flat at hf;split at hf
  ·rename_i hu;cases hf;exact⟨_,hu,λ_=>rfl⟩
  ·rename_i hu;cases hf;exact⟨_,hu,λ_=>rfl⟩
  ·rename_i hu;cases hf;exact⟨_,hu,λ_=>rfl⟩
  ·rename_i hu;cases hf;exact⟨_,hu,λ_=>rfl⟩
  ·rename_i hu;cases hf;exact⟨_,hu,λ_=>rfl⟩
  ·rename_i hu;exact⟨_,hu,λh=>by cases h⟩
  ·rename_i hu;exact⟨_,hu,λh=>by cases h⟩
  ·cases hf
def fieldsOf_eq{t:TypeId}{fs}(hu:P.underlying t=some (.struct fs)):P.fieldsOf t=fs:=by simp[Program.fieldsOf,hu]
def run_flat:∀(d:Nat) (t:TypeId) (ks:List CK),flat P d t=some ks->∀(D:Nat),d<=D->∀(ds:TypeDesc),P.underlying t=some ds->
  ∀(xs ys:List AV) (vx vy:List Value) (b:Bool),xs.length=ks.length->ys.length=ks.length->VRs m xs vx->VRs m ys vy->eqCells ks xs ys=some b->
  ∀w:World,(Op.equalIn D t (ofCells ds vx) (ofCells ds vy)).run P w=.ok b w:=by
 intro d
 induction d with
 |zero=>intro t ks hf;simp[flat]at hf
 |succ d ih=>
  intro t ks hf D hD ds hds xs ys vx vy b hlx hly hx hy he w;obtain⟨D,rfl⟩:∃D',D=D'+1:=⟨D-1,by omega⟩;have hone:∀{k:CK},ks=[k]->isAggD ds=false->(match k with|.b=>P.underlying t=some .bool|.i=>∃k,P.underlying t=some (.int k)|.s=>P.underlying t=some .string|.f=>∃k,P.underlying t=some (.float k)|.c=>∃k,P.underlying t=some (.complex k))->(Op.equalIn (D+1) t (ofCells ds vx) (ofCells ds vy)).run P w=.ok b w:=by
   intro k hk hd ht;subst hk
   match xs,ys,hlx,hly with
   |[x],[y],_,_=>
    obtain⟨cx,_,rfl,hcx,h2⟩:=VRs_cons.1 hx;obtain⟨cy,_,rfl,hcy,h3⟩:=VRs_cons.1 hy;rw[VRs_nil]at h2 h3;subst h2;subst h3;simp only[eqCells]at he;have he':eqQ k x y=some b:=by
     cases hc:eqQ k x y with
     |none=>simp[hc]at he
     |some c=>cases c<;>simp[hc]at he<;>simp[he]
    simp only[ofCells,hd,List.headD_cons,Bool.false_eq_true,if_false];exact run_eqQ ht hcx hcy he' D
  unfold flat at hf;split at hf
  ·rename_i hu;rw[hu]at hds;cases hds;cases hf;exact hone rfl rfl hu
  ·rename_i hu;rw[hu]at hds;cases hds;cases hf;exact hone rfl rfl ⟨_,hu⟩
  ·rename_i hu;rw[hu]at hds;cases hds;cases hf;exact hone rfl rfl hu
  ·rename_i hu;rw[hu]at hds;cases hds;cases hf;exact hone rfl rfl ⟨_,hu⟩
  ·rename_i hu;rw[hu]at hds;cases hds;cases hf;exact hone rfl rfl ⟨_,hu⟩
  ·rename_i fs hu;rw[hu]at hds;cases hds;split at hf
   case isFalse=>cases hf
   rename_i hst;simp only[ofCells,isAggD,if_true];rw[run_equalIn_struct w D t ⟨vx⟩ ⟨vy⟩ (by rw[fieldsOf_eq hu];exact hu) hst,fieldsOf_eq hu];have key:∀(fl:List Field) (off:Nat) (ks:List CK) (xs ys:List AV) (b:Bool),flats P (flat P d) fl off=some ks->xs.length=ks.length->ys.length=ks.length->
     VRs m xs (vx.drop off)->VRs m ys (vy.drop off)->eqCells ks xs ys=some b->(Op.eqFields D ⟨vx⟩ ⟨vy⟩ fl).run P w=.ok b w:=by
    intro fl
    induction fl with
    |nil=>
     intro off ks xs ys b hfl hlx hly hx hy he;simp only[flats,Option.some.injEq]at hfl;subst hfl
     match xs,ys,hlx,hly with
     |[],[],_,_=>cases he;rfl
    |cons f fl ihf=>
     intro off ks xs ys b hfl hlx hly hx hy he;simp only[flats]at hfl;split at hfl
     case h_2=>cases hfl
     rename_i k1 i hk1 hi;split at hfl
     case isFalse=>cases hfl
     rename_i hcond;obtain⟨hname,hoff,hsz,hpos⟩:=hcond;split at hfl
     case h_2=>cases hfl
     rename_i k2 hk2;cases hfl;subst hoff;obtain⟨ds',hds',h1'⟩:=flat_info hk1;have hsn:sizeN P f.type=some k1.length:=by simp[sizeN,hi,hsz]
     have hlx':xs=xs.take k1.length++xs.drop k1.length:=(List.take_append_drop _ _).symm;have hly':ys=ys.take k1.length++ys.drop k1.length:=(List.take_append_drop _ _).symm;simp only[List.length_append]at hlx hly;rw[hlx',hly']at he;obtain⟨c,hc1,hc2⟩:=eqCells_append k1 k2 _ _ _ _ b (by simp;omega) (by simp;omega) he;have hvx:f.offset+k1.length<=vx.length:=by have:=hx.length;simp at this;omega
     have hvy:f.offset+k1.length<=vy.length:=by have:=hy.length;simp at this;omega
     simp only[Op.eqFields,if_pos hname,Sem.run_bind,run_part hds' hsn (λh=>h1' h) hvx,run_part hds' hsn (λh=>h1' h) hvy,Result.andThen_ok];rw[ih f.type k1 hk1 D (by omega) ds' hds' _ _ _ _ c (by simp;omega) (by simp;omega) (hx.take k1.length) (hy.take k1.length) hc1 w];rcases hc2 with⟨rfl,hr⟩|⟨rfl,rfl⟩
     ·simp only[Result.andThen_ok,Bool.not_true,Bool.false_eq_true,if_false];exact ihf (f.offset+k1.length) k2 _ _ b hk2 (by simp;omega) (by simp;omega) (by have:=hx.drop k1.length;rwa [List.drop_drop]at this) (by have:=hy.drop k1.length;rwa [List.drop_drop]at this) hr
     ·simp
   exact key fs.toList 0 ks xs ys b hf hlx hly (by simpa using hx) (by simpa using hy) he
  ·rename_i len e hu;rw[hu]at hds;cases hds;split at hf
   case h_2=>cases hf
   rename_i k1 i hk1 hi;split at hf
   case isFalse=>cases hf
   rename_i hcond;obtain⟨hsz,hpos⟩:=hcond;cases hf;obtain⟨ds',hds',h1'⟩:=flat_info hk1;have hsn:sizeN P e=some k1.length:=by simp[sizeN,hi,hsz]
   simp only[ofCells,isAggD,if_true];have key:∀(n j:Nat) (xs ys:List AV) (b:Bool),j+n=len->xs.length=(List.replicate n k1).flatten.length->ys.length=(List.replicate n k1).flatten.length->
     VRs m xs (vx.drop (j*k1.length))->VRs m ys (vy.drop (j*k1.length))->eqCells (List.replicate n k1).flatten xs ys=some b->
     (forIn (m:=Sem) (List.range' j n) ((none,()):Option Bool×Unit) λ(i:Nat) (_:Option Bool×Unit)=>do
      let a <-part e ⟨vx⟩ (i*k1.length)
      let c <-part e ⟨vy⟩ (i*k1.length)
      let r <-Op.equalIn D e a c
      if(!r)=true then pure (ForInStep.done (some false,()))else pure (ForInStep.yield (none,()))).run P w=.ok (if b then(none,())else(some false,())) w:=by
    intro n
    induction n with
    |zero=>
     intro j xs ys b _ hlx hly _ _ he;simp only[List.replicate_zero,List.flatten_nil,List.length_nil]at hlx hly he
     match xs,ys,hlx,hly with
     |[],[],_,_=>cases he;rfl
    |succ n ihn=>
     intro j xs ys b hj hlx hly hx hy he;simp only[List.replicate_succ,List.flatten_cons,List.length_append]at hlx hly he;have hlx':xs=xs.take k1.length++xs.drop k1.length:=(List.take_append_drop _ _).symm;have hly':ys=ys.take k1.length++ys.drop k1.length:=(List.take_append_drop _ _).symm;rw[hlx',hly']at he;obtain⟨c,hc1,hc2⟩:=eqCells_append k1 _ _ _ _ _ b (by simp;omega) (by simp;omega) he;have hvx:j*k1.length+k1.length<=vx.length:=by have:=hx.length;simp at this;omega
     have hvy:j*k1.length+k1.length<=vy.length:=by have:=hy.length;simp at this;omega
     simp only[List.range'_succ,List.forIn_cons,Sem.run_bind,run_part hds' hsn (λh=>h1' h) hvx,run_part hds' hsn (λh=>h1' h) hvy,Result.andThen_ok];rw[ih e k1 hk1 D (by omega) ds' hds' _ _ _ _ c (by simp;omega) (by simp;omega) (hx.take k1.length) (hy.take k1.length) hc1 w];rcases hc2 with⟨rfl,hr⟩|⟨rfl,rfl⟩
     ·simp only[Result.andThen_ok,Bool.not_true,Bool.false_eq_true,if_false,Sem.run_pure];exact ihn (j+1) _ _ b (by omega) (by rw[List.length_drop];omega) (by rw[List.length_drop];omega) (by have:=hx.drop k1.length;rw[List.drop_drop]at this;rwa [Nat.succ_mul]) (by have:=hy.drop k1.length;rw[List.drop_drop]at this;rwa [Nat.succ_mul]) hr
     ·simp
   have hk:=key len 0 xs ys b (by omega) hlx hly (by simpa using hx) (by simpa using hy) he;simp only[Op.equalIn,Sem.run_bind,run_underlying hu,Result.andThen_ok,run_sizeOf' hsn,Std.Legacy.Range.forIn_eq_forIn_range',Std.Legacy.Range.size];simp only[Nat.sub_zero,Nat.add_one_sub_one,Nat.div_one];rw[hk];cases b<;>rfl
  ·cases hf
end
end Go.Abs
namespace Go.Abs
def OptVR(m:Emb)(ρ:Opd->AV):Option Opd->Option Value->Prop
 |none,none=>True
 |some x,some cx=>VR m (ρ x) cx
 |_,_=>False
section
variable {P:Program}{m:Emb}{h h':AHeap}{w:World}{ρ:Opd->AV}{v:AV}
def sliceElem_some{t e:TypeId}{i:TypeInfo}(hs:sliceElem P t=some (e,i)):P.underlying t=some (.slice e)/\P.info? e=some i:=by
 unfold sliceElem at hs;split at hs
 ·rename_i e' hu;cases hi:P.info? e' with
  |none=>simp[hi]at hs
  |some i'=>simp[hi]at hs;obtain⟨rfl,rfl⟩:=hs;exact⟨hu,hi⟩
 ·cases hs
def zrep_length(n:Nat)(z:List AV):(zrep n z).length=n*z.length:=by simp[zrep]
def zeros_VRs{z:List AV}{cz:Array Value}(hz:VRs m z cz.toList)(hpos:0<z.length)(n k:Nat)(hk:k<=n):
  VRs m (zrep k z) (((Array.range (n*cz.size)).map (cz[·% cz.size]!)).toList.take (k*z.length)):=by
 have hsz:cz.size=z.length:=by have:=hz.length;simpa using this
 refine VRs.of_get ?_ ?_
 ·rw[zrep_length];simp[hsz,Nat.min_eq_left hk]
 ·intro i x hx;have hi:i<k*z.length:=by have:=(List.getElem?_eq_some_iff.1 hx).1;rw[zrep_length]at this;exact this
  have hmod:i%z.length<z.length:=Nat.mod_lt _ hpos;have hget:(zrep k z)[i]? =z[i%z.length]? :=by
   clear hx hk;unfold zrep
   induction k generalizing i with
   |zero=>omega
   |succ k ih=>
    rw[List.replicate_succ,List.flatten_cons];by_cases hlt:i<z.length
    ·rw[List.getElem?_append_left hlt,Nat.mod_eq_of_lt hlt]
    ·rw[List.getElem?_append_right (by omega),ih (i-z.length) (by rw[Nat.succ_mul]at hi;omega) (Nat.mod_lt _ hpos)];congr 1;rw[<-Nat.mod_eq_sub_mod (by omega)]
  rw[hget]at hx;obtain⟨y,hy,hr⟩:=hz.get hx;refine⟨y,?_,hr⟩;have hin:i<n*z.length:=Nat.lt_of_lt_of_le hi (Nat.mul_le_mul_right _ hk);rw[List.getElem?_take_of_lt hi,Array.getElem?_toList,Array.getElem?_map,Array.getElem?_range,hsz,if_pos hin];simp only[Option.map_some,Option.some.injEq];rw[getElem!_pos cz _ (by omega)];have:=(List.getElem?_eq_some_iff.1 hy).2
  simpa using this
def zrep_one{z}(hz:z.all AV.one=true)(n:Nat):(zrep n z).all AV.one=true:=by
 rw[List.all_eq_true]at hz ⊢;intro x hx;simp only[zrep,List.mem_flatten,List.mem_replicate]at hx;obtain⟨l,⟨_,rfl⟩,hx⟩:=hx;exact hz x hx
def s_mksl{t e:TypeId}{i:TypeInfo}{z:AV}{l c:Opd}{cl cc:Value}(hs:sliceElem P t=some (e,i))(hz:zeroA P e=some z)(hpos:0<i.size)(hzl:z.cells.length=i.size)(h1:z.cells.all AV.one=true)
  (hr:HR P m h w) (hl:VR m (ρ l) cl) (hc:VR m (ρ c) cc) (hf:fnK (.mksl i.size i.bytes z.cells l c) ρ h=some (v,h')):
  ∃cv w' m',(Instr.makeSlice t cl cc).run P w=.ok cv w'/\VR m' v cv/\HR P m' h' w'/\Grow m h w m' h' w':=by
 obtain⟨hu,hi⟩:=sliceElem_some hs;simp only[fnK]at hf;split at hf
 case h_2=>cases hf
 rename_i kl l' kc c' hρl hρc;rw[hρl,VR]at hl;rw[hρc,VR]at hc;subst hl;subst hc;split at hf
 case isFalse=>cases hf
 rename_i hcond;obtain⟨h0,hlc,hb,hc63⟩:=hcond;cases hf;obtain⟨cz,hcz,hvz⟩:=zeroA_run hz w m;have hzc:=hvz.cells;obtain⟨n,rfl⟩:=Int.eq_ofNat_of_zero_le (Int.le_trans h0 hlc);obtain⟨k,rfl⟩:=Int.eq_ofNat_of_zero_le h0;have hkn:k<=n:=by omega
 have hwl:IntKind.i64.wrap (k:Int)=k:=wrap64 (by omega) (by omega);have hwc:IntKind.i64.wrap (n:Int)=n:=wrap64 (by omega) (by omega);have hsz:cz.cells.size=z.cells.length:=by have:=hzc.length;simpa using this
 let row:Array Value:=(Array.range (n*cz.cells.size)).map (cz.cells[·% cz.cells.size]!)
 have hrow:VRs m (zrep k z.cells) (row.toList.take (k*z.cells.length)):=zeros_VRs hzc (by omega) n k hkn;have hrs:row.size=n*i.size:=by simp[row,hsz,hzl]
 let e':Ent:=⟨w.heap.size,0,row.size,true⟩
 have hal:=alloc_ok hr (.cells row e) (.cells (zrep k z.cells) true true) e' rfl rfl (λm' hm=>by
  refine⟨row,e,(0,0),World.alloc_heap_new w _,⟨?_,?_,rfl⟩,?_,λ_=>⟨rfl,λi _=>by simp⟩,λ_=>⟨rfl,λx=>by cases x⟩⟩
  ·show 0+(zrep k z.cells).length<=row.size;rw[zrep_length,hrs,hzl,Nat.zero_add];exact Nat.mul_le_mul_right _ hkn
  ·show 0+(zrep k z.cells).length<=row.size;rw[zrep_length,hrs,hzl,Nat.zero_add];exact Nat.mul_le_mul_right _ hkn
  ·intro j x hx;obtain⟨y,hy,hvr⟩:=hrow.get hx;have hj:j<k*z.cells.length:=by have:=(List.getElem?_eq_some_iff.1 hx).1;rw[zrep_length]at this;exact this
   rw[List.getElem?_take_of_lt hj]at hy;refine⟨List.all_eq_true.1 (zrep_one h1 k) x (List.mem_of_getElem? hx),y,?_,VR.mono hm _ _ hvr⟩;show row[0+j]? =some y;rw[Nat.zero_add,<-Array.getElem?_toList];exact hy)
 refine⟨.slice (some ⟨w.heap.size,0,none⟩) k n,w.alloc (.cells row e),m.add h.length e',?_,⟨e',⟨w.heap.size,0,none⟩,n,by simp[Emb.add],rfl,hkn,λ_=>rfl,?_⟩,hal.1,hal.2⟩
 ·have hsize:(sizeOf e).run P w=.ok i.size w:=run_sizeOf' (by simp[sizeN,hi]) w;have hbn:¬((i.bytes:Int)*n > 2^48):=by omega
  have hinfo:(typeInfo e).run P w=.ok i w:=by simp[typeInfo,hi]
  have hn0:¬((n:Int)<0):=by omega
  have hk0:¬((k:Int)<0):=by omega
  have hkn':¬((k:Int)> (n:Int)):=by omega
  simp only[Instr.makeSlice,Sem.run_bind,run_underlying hu,Result.andThen_ok,asInt,asIntOf,Sem.run_pure,hinfo,hwl,hwc,hn0,hk0,hkn',hbn];simp only[decide_false,Bool.or_self,Bool.false_eq_true,if_false,run_askRoom,Result.andThen_ok,hsize,Int.toNat_natCast,Sem.run_bind,Sem.run_ite,Sem.run_pure,hcz];by_cases hz0:n*i.size=0
  ·simp only[hz0,if_true,Result.andThen_ok,newRow,run_newObj,Sem.run_bind,Sem.run_pure];have:row=#[]:=by apply Array.eq_empty_of_size_eq_zero;omega
   have e0:(Array.range 0).map (λx=>(#[] :Array Value)[x%(#[] :Array Value).size]!)=#[]:=by simp
   rw[this,e0];rfl
  ·simp only[hz0,if_false,Result.andThen_ok,newRow,run_newObj,Sem.run_bind,Sem.run_pure];have:row=(Array.range (n*i.size)).map (cz.cells[·% cz.cells.size]!):=by show(Array.range (n*cz.cells.size)).map _=_;rw[hsz,hzl]
   rw[this];rfl
 ·show 0+0+n*i.size<=row.size;omega
def bnds_some{lo hi}{n l u:Nat}(hb:bnds lo hi n=some (l,u)):l<=u/\u<=n/\loN lo=some (l:Int)/\hiN n hi=some (u:Int):=by
 unfold bnds at hb;split at hb
 case h_2=>cases hb
 rename_i a b ha hb';split at hb
 case isFalse=>cases hb
 rename_i hc;obtain⟨h0,h1,h2⟩:=hc;simp only[Option.some.injEq,Prod.mk.injEq]at hb;obtain⟨rfl,rfl⟩:=hb;exact⟨by omega,by omega,by rw[ha];congr 1;omega,by rw[hb'];congr 1;omega⟩
def run_sliceBounds{lo hi clo chi}(hlo:OptVR m ρ lo clo)
  (hhi:OptVR m ρ hi chi) {n l u}(hb:bnds (lo.map ρ) (hi.map ρ) n=some (l,u)) (isSlice:Bool) (cap:Nat) (hcap:n<=cap):
  (Instr.sliceBounds isSlice n cap clo chi none).run P w=.ok (l,u,cap) w:=by
 obtain⟨hlu,hun,h1,h2⟩:=bnds_some hb;have hh:∀(x:Opd) (cx:Value),VR m (ρ x) cx->hiN n (some (ρ x))=some (u:Int)->∃k,cx=.int k u:=by
  intro x cx hx hu;cases hρ:ρ x<;>simp[hiN,hρ]at hu;subst hu;rw[hρ,VR]at hx;exact⟨_,hx⟩
 have hl:∀(x:Opd) (cx:Value),VR m (ρ x) cx->loN (some (ρ x))=some (l:Int)->∃k,cx=.int k l:=by
  intro x cx hx hu;cases hρ:ρ x<;>simp[loN,hρ]at hu;subst hu;rw[hρ,VR]at hx;exact⟨_,hx⟩
 have hcu:(u:Int)<=cap:=by omega
 have hlu':(l:Int)<=u:=by omega
 have hbu:∀(k:IntKind) (code:BoundsCode) (w:World),(Instr.sliceBound (.int k u) cap code).run P w=.ok u w:=by
  intro k code w;simp[Instr.sliceBound,asIntOf,hcu]<;>omega
 have hbl:∀(k:IntKind) (code:BoundsCode) (w:World),(Instr.sliceBound (.int k l) u code).run P w=.ok l w:=by
  intro k code w;simp[Instr.sliceBound,asIntOf]<;>omega
 cases lo with
 |none=>
  cases clo with
  |some _=>exact hlo.elim
  |none=>
   simp only[Option.map_none,loN,Option.some.injEq]at h1;cases hi with
   |none=>
    cases chi with
    |some _=>exact hhi.elim
    |none=>
     simp only[Option.map_none,hiN,Option.some.injEq]at h2;have hn:u=n:=by omega
     have hl0:l=0:=by omega
     subst hn;subst hl0;simp[Instr.sliceBounds]
   |some y=>
    cases chi with
    |none=>exact hhi.elim
    |some cy=>
     obtain⟨k,rfl⟩:=hh y cy hhi h2;have hl0:l=0:=by omega
     subst hl0;simp[Instr.sliceBounds,hbu]
 |some x=>
  cases clo with
  |none=>exact hlo.elim
  |some cx=>
   obtain⟨kx,rfl⟩:=hl x cx hlo h1;cases hi with
   |none=>
    cases chi with
    |some _=>exact hhi.elim
    |none=>
     simp only[Option.map_none,hiN,Option.some.injEq]at h2;have hn:u=n:=by omega
     subst hn;simp[Instr.sliceBounds,hbl]
   |some y=>
    cases chi with
    |none=>exact hhi.elim
    |some cy=>
     obtain⟨k,rfl⟩:=hh y cy hhi h2;simp[Instr.sliceBounds,hbu,hbl]
def extract_mk(s:List UInt8)(l u:Nat):(⟨⟨s⟩⟩:ByteArray).extract l u=⟨⟨(s.drop l).take (u-l)⟩⟩:=by
 apply ByteArray.ext
 simp[ByteArray.data_extract,List.extract_eq_take_drop]
def s_sl{t:TypeId}{es x lo hi cx clo chi}{e:TypeId}(hu:P.underlying t=some (.slice e))(hes:sizeN P e=some es)
  (hx:VR m (ρ x) cx) (hlo:OptVR m ρ lo clo)
  (hhi:OptVR m ρ hi chi) (hf:fnK (.sl es x lo hi) ρ h=some (v,h')):
  ∃cv,(Instr.sliceAt t cx clo chi none).run P w=.ok cv w/\VR m v cv/\h' =h:=by
 simp only[fnK]at hf;split at hf
 ·rename_i b o n es' hρ;rw[hρ]at hx;obtain⟨en,ca,cap,hen,rfl,hncap,hca,hroom⟩:=hx;split at hf
  case isFalse=>cases hf
  rename_i hees;subst hees;split at hf
  case h_2=>cases hf
  rename_i l u hb;cases hf;obtain⟨hlu,hun,_,_⟩:=bnds_some hb;refine⟨.slice (some (if cap=l then ca else ca.add (l*es'))) (u-l) (cap-l),?_,⟨en,_,cap-l,hen,rfl,by omega,?_,?_⟩,rfl⟩
  ·simp only[Instr.sliceAt,Sem.run_bind,run_underlying hu,Result.andThen_ok,Instr.slice,run_sliceBounds hlo hhi hb true cap hncap,run_sizeOf' hes,Sem.run_pure];by_cases hcl:cap=l<;>simp[hcl]
  ·intro hpos;rw[if_neg (by omega),hca (by omega),Addr_add];simp only[Addr.mk.injEq,true_and,and_true];omega
  ·have:cap=l+(cap-l):=by omega
   rw[this,Nat.add_mul]at hroom;omega
 ·rename_i hρ;rw[hρ,VR]at hx;subst hx;split at hf
  case h_2=>cases hf
  rename_i p hb;obtain⟨l,u⟩:=p;cases hf;obtain⟨hlu,hun,_,_⟩:=bnds_some hb;have hl0:l=0:=by omega
  have hu0:u=0:=by omega
  subst hl0;subst hu0;refine⟨.slice none 0 0,?_,rfl,rfl⟩;simp only[Instr.sliceAt,Sem.run_bind,run_underlying hu,Result.andThen_ok,Instr.slice,run_sliceBounds hlo hhi hb true 0 (Nat.le_refl _),run_sizeOf' hes,Sem.run_pure];simp
 ·cases hf
def s_sls{t:TypeId}{x lo hi cx clo chi}(hu:P.underlying t=some .string)
  (hx:VR m (ρ x) cx) (hlo:OptVR m ρ lo clo)
  (hhi:OptVR m ρ hi chi) (hf:fnK (.sls x lo hi) ρ h=some (v,h')):
  ∃cv,(Instr.sliceAt t cx clo chi none).run P w=.ok cv w/\VR m v cv/\h' =h:=by
 simp only[fnK]at hf;split at hf
 case h_2=>cases hf
 rename_i s hρ;rw[hρ,VR]at hx;subst hx;split at hf
 case h_2=>cases hf
 rename_i l u hb;cases hf;refine⟨.string ((⟨⟨s⟩⟩:ByteArray).extract l u),?_,by rw[extract_mk];rfl,rfl⟩;have hs:(⟨⟨s⟩⟩:ByteArray).size=s.length:=rfl;simp only[Instr.sliceAt,Sem.run_bind,run_underlying hu,Result.andThen_ok,Instr.slice];simp[hs,run_sliceBounds hlo hhi hb false s.length (Nat.le_refl _)]
def s_sla{t:TypeId}{k es x lo hi cx clo chi}{e:TypeId}(hu:P.underlying t=some (.array k e))(hes:sizeN P e=some es)(hr:HR P m h w)
  (hx:VR m (ρ x) cx) (hlo:OptVR m ρ lo clo)
  (hhi:OptVR m ρ hi chi) (hf:fnK (.sla k es x lo hi) ρ h=some (v,h')):
  ∃cv,(Instr.sliceAt t cx clo chi none).run P w=.ok cv w/\VR m v cv/\h' =h:=by
 simp only[fnK]at hf;split at hf
 case h_2=>cases hf
 rename_i b o hρ;rw[hρ]at hx;obtain⟨en,hen,rfl⟩:=hx;split at hf
 case h_2=>cases hf
 rename_i c mu tl hbk;split at hf
 case isFalse=>cases hf
 rename_i hle;split at hf
 case h_2=>cases hf
 rename_i l u hb;cases hf;obtain⟨hlu,hun,_,_⟩:=bnds_some hb;obtain⟨_,_,_,_,⟨_,hsz⟩,_⟩:=hr.blk b en _ hen hbk;refine⟨.slice (some (if k=l then⟨en.cb,o+en.d,none⟩else(⟨en.cb,o+en.d,none⟩:Addr).add (l*es))) (u-l) (k-l),?_,⟨en,_,k-l,hen,rfl,by omega,?_,?_⟩,rfl⟩
 ·simp only[Instr.sliceAt,Sem.run_bind,run_underlying hu,Result.andThen_ok,Instr.sureAddr,Sem.run_pure,run_sliceBounds hlo hhi hb false k (Nat.le_refl _),run_sizeOf' hes]
 ·intro hpos;rw[if_neg (by omega),Addr_add];simp only[Addr.mk.injEq,true_and,and_true];omega
 ·have:k=l+(k-l):=by omega
  rw[this,Nat.add_mul]at hle;omega
def run_fieldPlace{a f n}(hn:sizeN P f.type=some n)(hpos:0<n):(fieldPlace a f).run P w=.ok (a.add f.offset) w:=by
 have:n≠0:=by omega
 simp[fieldPlace,run_sizeOf' hn,this]
def s_fadr{t:TypeId}{i n f x cx}(hfa:fieldAt P t i=some f)(hn:sizeN P f.type=some n)(hpos:0<n)(hx:VR m (ρ x) cx)(hf:fnK (.fadr f.offset x) ρ h=some (v,h')):
  ∃cv,(Instr.fieldAt t cx i).run P w=.ok cv w/\VR m v cv/\h' =h:=by
 unfold Abs.fieldAt at hfa;split at hfa
 case h_2=>cases hfa
 rename_i fs hu;simp only[fnK]at hf;split at hf
 case h_2=>cases hf
 rename_i b o hρ;cases hf;rw[hρ]at hx;obtain⟨e,he,rfl⟩:=hx;refine⟨_,?_,⟨e,he,rfl⟩,rfl⟩;simp only[Instr.fieldAt,Sem.run_bind,run_underlying hu,Result.andThen_ok,hfa,Instr.sureAddr,Sem.run_pure,run_fieldPlace hn hpos,Addr_add];rw[Nat.add_right_comm]
def s_iadr{t e:TypeId}{es x i cx ci}(hu:P.underlying t=some (.slice e))(hes:sizeN P e=some es)(hx:VR m (ρ x) cx)(hi:VR m (ρ i) ci)(hf:fnK (.iadr es x i) ρ h=some (v,h')):
  ∃cv,(Instr.indexAt t cx ci).run P w=.ok cv w/\VR m v cv/\h' =h:=by
 simp only[fnK]at hf;split at hf
 case h_2=>cases hf
 rename_i b o n es' k j hρx hρi;rw[hρx]at hx;rw[hρi,VR]at hi;subst hi;obtain⟨en,ca,cap,hen,rfl,hncap,hca,hroom⟩:=hx;split at hf
 case isFalse=>cases hf
 rename_i hc;obtain⟨rfl,h0,h1⟩:=hc;cases hf;refine⟨_,?_,⟨en,hen,rfl⟩,rfl⟩;simp only[Instr.indexAt,asIntOf,Sem.run_bind,Sem.run_pure,Result.andThen_ok,run_underlying hu];rw[if_pos ⟨h0,h1⟩];simp only[Sem.run_bind,run_sizeOf' hes,Result.andThen_ok,Sem.run_pure,hca (by omega),Addr_add];rw[Nat.add_right_comm]
def s_iada{t e:TypeId}{len es x i cx ci}(hu:P.underlying t=some (.array len e))(hes:sizeN P e=some es)(hx:VR m (ρ x) cx)(hi:VR m (ρ i) ci)(hf:fnK (.iada len es x i) ρ h=some (v,h')):
  ∃cv,(Instr.indexAt t cx ci).run P w=.ok cv w/\VR m v cv/\h' =h:=by
 simp only[fnK]at hf;split at hf
 case h_2=>cases hf
 rename_i b o k j hρx hρi;rw[hρx]at hx;rw[hρi,VR]at hi;subst hi;obtain⟨en,hen,rfl⟩:=hx;split at hf
 case isFalse=>cases hf
 rename_i hc;obtain⟨h0,h1⟩:=hc;cases hf;refine⟨_,?_,⟨en,hen,rfl⟩,rfl⟩;simp only[Instr.indexAt,asIntOf,Sem.run_bind,Sem.run_pure,Result.andThen_ok,run_underlying hu,Instr.sureAddr];rw[if_pos ⟨h0,h1⟩];simp only[Sem.run_bind,run_sizeOf' hes,Result.andThen_ok,Sem.run_pure,Addr_add];rw[Nat.add_right_comm]
def s_partf{t:TypeId}{i f n x cx}(hfa:fieldAt P t i=some f)(hn:nOf P f.type=some n)(hx:VR m (ρ x) cx)(hf:fnK (.part n f.offset x) ρ h=some (v,h')):
  ∃cv,(Instr.field t cx i).run P w=.ok cv w/\VR m v cv/\h' =h:=by
 unfold Abs.fieldAt at hfa;split at hfa
 case h_2=>cases hfa
 rename_i fs hu;simp only[fnK]at hf;split at hf
 case h_2=>cases hf
 rename_i cs hρ;rw[hρ]at hx;obtain⟨l',rfl,hl⟩:=hx;obtain⟨cv,h1,h2,h3⟩:=s_part (w:=w) hn hl (by cases n<;>exact hf);exact⟨cv,by simp only[Instr.field,Sem.run_bind,run_underlying hu,Result.andThen_ok,hfa,asAgg,Sem.run_pure,h1],h2,h3⟩
def s_ixa{t e:TypeId}{len es n x i cx ci}(hu:P.underlying t=some (.array len e))(hes:sizeN P e=some es)(hn:nOf P e=some n)(hx:VR m (ρ x) cx)(hi:VR m (ρ i) ci)
  (hf:fnK (.ixa len es n x i) ρ h=some (v,h')):∃cv,(Instr.index t cx ci).run P w=.ok cv w/\VR m v cv/\h' =h:=by
 simp only[fnK]at hf;split at hf
 case h_2=>cases hf
 rename_i cs k j hρx hρi;rw[hρx]at hx;rw[hρi,VR]at hi;subst hi;obtain⟨l',rfl,hl⟩:=hx;split at hf
 case isFalse=>cases hf
 rename_i hc;obtain⟨cv,h1,h2,h3⟩:=s_part (w:=w) (off:=j.toNat*es) hn hl (by cases n<;>exact hf);refine⟨cv,?_,h2,h3⟩;simp only[Instr.index,asIntOf,Sem.run_bind,Sem.run_pure,Result.andThen_ok,run_underlying hu];rw[if_pos hc];simp only[Sem.run_bind,run_sizeOf' hes,Result.andThen_ok,h1]
def s_ixs{t:TypeId}{x i cx ci}(hu:P.underlying t=some .string)(hx:VR m (ρ x) cx)(hi:VR m (ρ i) ci)
  (hf:fnK (.ixs x i) ρ h=some (v,h')):∃cv,(Instr.index t cx ci).run P w=.ok cv w/\VR m v cv/\h' =h:=by
 simp only[fnK]at hf;split at hf
 case h_2=>cases hf
 rename_i s k j hρx hρi;rw[hρx,VR]at hx;rw[hρi,VR]at hi;subst hi;subst hx;split at hf
 case isFalse=>cases hf
 rename_i h0;split at hf
 case h_2=>cases hf
 rename_i b hb;cases hf;refine⟨.int .u8 b.toNat,?_,rfl,rfl⟩;have hb':(⟨⟨s⟩⟩:ByteArray)[j.toNat]? =some b:=by
  show(if h:j.toNat<s.length then some (s[j.toNat])else none)=some b;obtain⟨hlt,he⟩:=List.getElem?_eq_some_iff.1 hb;rw[dif_pos hlt,he]
 simp only[Instr.index,asIntOf,Sem.run_bind,Sem.run_pure,Result.andThen_ok,run_underlying hu,if_pos h0,hb']
end
end Go.Abs
namespace Go.Abs
def ABlk.isObj:ABlk->Bool
 |.mapb _=>true
 |.iter _ _=>true
 |.loop _ _ _ _ _ _=>true
 |_=>false
section
variable {P:Program}{m:Emb}{h h':AHeap}{w:World}{ρ:Opd->AV}{v:AV}
def putObj_ok(hr:HR P m h w){b e k k' o}(he:m b=some e)(hb:h[b]? =some k)(hk:k.isObj=true)(hk':k'.isObj=true\/k' =.dead)
  (hnew:BR P m (w.putObj e.cb o) e k'):HR P m (h.set b k') (w.putObj e.cb o)/\Grow m h w m (h.set b k') (w.putObj e.cb o):=by
 have hbl:b<h.length:=hr.dom _ _ he;have hlive:k.live=true:=by cases k<;>first|rfl|cases hk
 have hown:e.own=true:=by
  have:=hr.blk b e k he hb;cases k<;>first|exact this.1|(cases hk;done)
 have hother:∀i,i≠e.cb->(w.putObj e.cb o).heap[i]? =w.heap[i]? :=λi hi=>World.putObj_heap_other hi
 have hsep:∀b' e' k2,b'≠b->m b' =some e'->h[b']? =some k2->k2.live=true->e'.cb≠e.cb:=by
  intro b' e' k2 hne he' hk2 hl hcb;have:=hr.sep b' b e' e k2 k hne he' he hk2 hb hcb;cases k<;>cases k2<;>first|exact this|(cases hk;done)|(cases hl;done)
 refine⟨⟨?_,?_,?_,hr.glob,λb' e' hb'=>by simpa using hr.lt b' e' hb'⟩,⟨λ_ _=>rfl,by simp,?_,?_,by simp,rfl,rfl,rfl,?_⟩⟩
 ·intro b' e' hb';simpa using hr.dom b' e' hb'
 ·intro b' e' k2 he' hk2;rw[getElem?_set_blk h b b' _ hbl]at hk2;by_cases hbb:b' =b
  ·subst hbb;rw[if_pos rfl]at hk2;cases hk2;rw[he]at he';cases he';exact hnew
  ·rw[if_neg hbb]at hk2;have h0:=hr.blk b' e' k2 he' hk2;by_cases hl:k2.live=true
   ·exact h0.heap (hother _ (hsep b' e' k2 hbb he' hk2 hl))
   ·cases k2<;>first|trivial|exact absurd rfl hl
 ·intro b1 b2 e1 e2 k1 k2 hne he1 he2 hk1 hk2 hcb;rw[getElem?_set_blk h b _ _ hbl]at hk1 hk2;by_cases hb1:b1=b
  ·subst hb1;rw[if_pos rfl]at hk1;cases hk1;rw[if_neg (λx=>hne x.symm)]at hk2;rw[he]at he1;cases he1;by_cases hl:k2.live=true
   ·exact absurd hcb.symm (hsep b2 e2 k2 (λx=>hne x.symm) he2 hk2 hl)
   ·cases k2<;>first|(cases k'<;>trivial)|exact absurd rfl hl
  ·rw[if_neg hb1]at hk1;by_cases hb2:b2=b
   ·subst hb2;rw[if_pos rfl]at hk2;cases hk2;rw[he]at he2;cases he2;by_cases hl:k1.live=true
    ·exact absurd hcb (hsep b1 e1 k1 hne he1 hk1 hl)
    ·cases k1<;>first|trivial|exact absurd rfl hl
   ·rw[if_neg hb2]at hk2;exact hr.sep b1 b2 e1 e2 k1 k2 hne he1 he2 hk1 hk2 hcb
 ·intro b' e' hb' he';exact absurd (hr.dom _ _ he') (by omega)
 ·intro b' hb' ht;unfold tailOf at ht ⊢;rw[getElem?_set_blk h b b' _ hbl]at ht;by_cases hbb:b' =b
  ·subst hbb;rw[if_pos rfl]at ht;rcases hk' with hk'|hk'
   ·cases k'<;>first|(cases hk';done)|(cases ht;done)
   ·subst hk';cases ht
  ·rw[if_neg hbb]at ht;exact ht
 ·intro i hi hno;exact hother i (λhcb=>hno b e he hown hcb.symm)
def run_getObj{r o}(ho:w.heap[r]? =some o)(hc:o.isCells=false):(getObj r).run P w=.ok o w:=by
 cases o<;>first|(cases hc;done)|simp[getObj,Sem.run,ho]
def run_setObj{r o o'}(ho:w.heap[r]? =some o)(hc:o.isCells=false):(setObj r o').run P w=.ok () (w.putObj r o'):=by
 cases o<;>first|(cases hc;done)|simp[setObj,Sem.run,ho,World.putObj]
def s_rstr{t:TypeId}{x cx}(hu:P.underlying t=some .string)(hr:HR P m h w)(hx:VR m (ρ x) cx)(hf:fnK (.rstr x) ρ h=some (v,h')):
  ∃cv w' m',(Instr.range t cx).run P w=.ok cv w'/\VR m' v cv/\HR P m' h' w'/\Grow m h w m' h' w':=by
 simp only[fnK]at hf;split at hf
 case h_2=>cases hf
 rename_i s hρ;rw[hρ,VR]at hx;subst hx;cases hf;have hal:=alloc_ok hr (.stringIter ⟨⟨s⟩⟩ 0) (.iter s 0) ⟨w.heap.size,0,0,true⟩ rfl rfl (λm' _=>⟨rfl,rfl,World.alloc_heap_new w _⟩);exact⟨.pointer (some ⟨w.heap.size,0,none⟩),_,_,by simp[Instr.range,run_underlying hu],⟨⟨w.heap.size,0,0,true⟩,by simp[Emb.add],rfl⟩,hal.1,hal.2⟩
def s_nexts{t:TypeId}{x cx}(hr:HR P m h w)(hx:VR m (ρ x) cx)(hf:fnK (.nexts x) ρ h=some (v,h')):
  ∃cv w' m',(Instr.next cx true t).run P w=.ok cv w'/\VR m' v cv/\HR P m' h' w'/\Grow m h w m' h' w':=by
 simp only[fnK]at hf;split at hf
 case h_2=>cases hf
 rename_i b hρ;rw[hρ]at hx;obtain⟨e,he,rfl⟩:=hx;split at hf
 case h_2=>cases hf
 rename_i s pos hb;obtain⟨hown,hd0,hheap⟩:=hr.blk b e _ he hb;have hg:=run_getObj (P:=P) hheap rfl;have hsz:(⟨⟨s⟩⟩:ByteArray).size=s.length:=rfl;split at hf
 ·rename_i hlt;cases hf;have hbl:e.cb<w.heap.size:=(Array.getElem?_eq_some_iff.1 hheap).1;obtain⟨h1,h2⟩:=putObj_ok hr he hb rfl (k':=.iter s (pos+(Utf8.decode ⟨⟨s⟩⟩ pos).2)) (o:=.stringIter ⟨⟨s⟩⟩ (pos+(Utf8.decode ⟨⟨s⟩⟩ pos).2)) (.inl rfl) ⟨hown,hd0,World.putObj_heap_same hbl⟩;refine⟨.tuple #[.bool true,goInt pos,.int .i32 (Utf8.decode ⟨⟨s⟩⟩ pos).1],_,m,?_,⟨_,rfl,?_⟩,h1,h2⟩
  ·simp[Instr.next,hd0,hg,hsz,hlt,run_setObj hheap rfl]
  ·exact⟨_,_,rfl,rfl,_,_,rfl,rfl,_,_,rfl,rfl,rfl⟩
 ·rename_i hlt;cases hf;refine⟨.tuple #[.bool false],w,m,?_,⟨_,rfl,_,_,rfl,rfl,rfl⟩,hr,Grow.refl m h w hr.dom⟩;simp[Instr.next,hd0,hg,hsz,hlt]
def keyD(kk:CK)(d:TypeDesc):Prop:=
 match kk with
 |.b=>d=.bool
 |.i=>∃i,d=.int i
 |.s=>d=.string
 |.f=>False
 |.c=>False
def keyK_some{t:TypeId}{kk}(hk:keyK P t=some kk):∃d,P.underlying t=some d/\keyD kk d:=by
 unfold keyK at hk;split at hk
 ·rename_i k hu;cases hk;exact⟨_,hu,k,rfl⟩
 ·rename_i hu;cases hk;exact⟨_,hu,rfl⟩
 ·rename_i hu;cases hk;exact⟨_,hu,rfl⟩
 ·cases hk
def key_run{kk}{d:TypeDesc}(hd:keyD kk d){k k' ck ck' b}(hk:VR m k ck)(hk':VR m k' ck')(he:eqCell kk k k' =some b):
  Instr.sameNow d ck ck' =some b:=by
 unfold eqCell at he;split at he
 ·rw[VR]at hk hk';subst hk;subst hk';cases hd;cases he;rfl
 ·split at he
  ·rename_i hkk;rw[VR]at hk hk';subst hk;subst hk';subst hkk;obtain⟨i,rfl⟩:=hd;cases he;simp[Instr.sameNow]
  ·cases he
 ·rw[VR]at hk hk';subst hk;subst hk';cases hd;cases he;simp[Instr.sameNow,toList_mk,beq_toListBytes]
 ·cases he
def EntR(m:Emb):List (AV×AV)->List MapEntry->Prop
 |[],l=>l=[]
 |p::r,l=>∃q s,l=q::s/\VR m p.1 q.key/\VR m p.2 q.val/\EntR m r s
theorem EntR.of_get:∀{es}{l},l.length=es.length->(∀(i:Nat) (p:AV×AV),es[i]? =some p->∃q,l[i]? =some q/\VR m p.1 q.key/\VR m p.2 q.val)->EntR m es l
 |[],l,hl,_=>List.length_eq_zero_iff.1 (by simpa using hl)
 |p::r,[],hl,_=>by simp at hl
 |p::r,q::s,hl,h=>by
  obtain⟨q',hq,h1,h2⟩:=h 0 p (by simp);simp at hq;subst hq;exact⟨q,s,rfl,h1,h2,EntR.of_get (by simpa using hl) λi p hp=>by simpa using h (i+1) p (by simpa using hp)⟩
theorem EntR.get:∀{es}{l},EntR m es l->l.length=es.length/\∀(i:Nat) (p:AV×AV),es[i]? =some p->∃q,l[i]? =some q/\VR m p.1 q.key/\VR m p.2 q.val
 |[],l,h=>by cases h;exact⟨rfl,λi p hp=>by simp at hp⟩
 |p::r,l,h=>by
  obtain⟨q,s,rfl,h1,h2,h3⟩:=h;obtain⟨hl,hg⟩:=EntR.get h3;refine⟨by simp[hl],λi p' hp=>?_⟩;cases i with
  |zero=>simp at hp;subst hp;exact⟨q,by simp,h1,h2⟩
  |succ i=>simpa using hg i p' (by simpa using hp)
theorem find_run{kk}{d:TypeDesc}(hd:keyD kk d){k ck}(hk:VR m k ck):∀{es}{l}{r}(i:Nat),EntR m es l->findA kk k es=some r->
  ∃cr,Instr.findNow d ck l i=some cr/\(match r,cr with|none,none=>True|some v,some (_,cv)=>VR m v cv|_,_=>False)
 |[],l,r,i,h,hf=>by cases h;cases hf;exact⟨none,rfl,trivial⟩
 |(a,v)::es,l,r,i,h,hf=>by
  obtain⟨q,s,rfl,h1,h2,h3⟩:=h;simp only[findA]at hf;cases he:eqCell kk k a with
  |none=>simp[he]at hf
  |some b=>
   have hs:=key_run hd hk h1 he;cases b with
   |true=>
    simp[he]at hf;subst hf;exact⟨some (i,q.val),by simp[Instr.findNow,hs],h2⟩
   |false=>
    simp only[he]at hf;obtain⟨cr,hcr,hm⟩:=find_run hd hk (i+1) h3 hf;exact⟨cr,by simp[Instr.findNow,hs,hcr],hm⟩
def run_checkKeyS{t:TypeId}{d:TypeDesc}{kk}(hu:P.underlying t=some d)(hd:keyD kk d)(b:Bool)(v:Value)(n:Nat):(Instr.checkKey b (n+1) t v).run P w=.ok () w:=by
 cases kk with
 |b=>cases hd;cases v<;>simp[Instr.checkKey,run_underlying hu]
 |i=>obtain⟨i,rfl⟩:=hd;cases v<;>simp[Instr.checkKey,run_underlying hu]
 |s=>cases hd;cases v<;>simp[Instr.checkKey,run_underlying hu]
 |f=>cases hd
 |c=>cases hd
def run_checkKey{t:TypeId}{d:TypeDesc}{kk}(hu:P.underlying t=some d)(hd:keyD kk d)(b:Bool)(v:Value):(Instr.checkKey b 10000 t v).run P w=.ok () w:=run_checkKeyS hu hd b v 9999
def s_look{t kt e:TypeId}{kk z ok x k cx ck}(hu:P.underlying t=some (.map kt e))(hkk:keyK P kt=some kk)(hz:zeroA P e=some z)(hr:HR P m h w)(hx:VR m (ρ x) cx)(hk:VR m (ρ k) ck)
  (hf:fnK (.look kk z ok x k) ρ h=some (v,h')):∃cv,(Instr.lookup t cx ck ok).run P w=.ok cv w/\VR m v cv/\h' =h:=by
 obtain⟨d,hud,hd⟩:=keyK_some hkk;obtain⟨cz,hcz,hvz⟩:=zeroA_run hz w m;simp only[fnK]at hf;split at hf
 ·rename_i hρ;rw[hρ,VR]at hx;subst hx;cases hf;refine⟨if ok then .tuple #[cz,.bool false]else cz,?_,?_,rfl⟩
  ·simp only[Instr.lookup,Sem.run_bind,run_underlying hu,Result.andThen_ok,Sem.run_pure,run_checkKey hud hd,Instr.findKey,run_underlying hud];simp[Instr.findNow,hcz]
  ·cases ok
   ·exact hvz
   ·exact⟨_,rfl,_,_,rfl,hvz,_,_,rfl,rfl,rfl⟩
 ·rename_i r hρ;rw[hρ]at hx;obtain⟨en,hen,rfl⟩:=hx;split at hf
  case h_2=>cases hf
  rename_i es hb;obtain⟨_,ces,clock,hheap,hlen,hget⟩:=hr.blk r en _ hen hb;have hent:EntR m es ces.toList:=EntR.of_get (by simpa using hlen) (λi p hp=>by obtain⟨q,hq,h1,h2⟩:=hget i p hp;exact⟨q,by simpa using hq,h1,h2⟩);have hg:=run_getObj (P:=P) hheap rfl;split at hf
  ·rename_i u hfind;cases hf;obtain⟨cr,hcr,hm⟩:=find_run hd hk 0 hent hfind;cases cr with
   |none=>exact hm.elim
   |some p=>
    obtain⟨i,cu⟩:=p;refine⟨if ok then .tuple #[cu,.bool true]else cu,?_,?_,rfl⟩
    ·simp only[Instr.lookup,Sem.run_bind,run_underlying hu,Result.andThen_ok,hg,Sem.run_pure,run_checkKey hud hd,Instr.findKey,run_underlying hud,hcr]
    ·cases ok
     ·exact hm
     ·exact⟨_,rfl,_,_,rfl,hm,_,_,rfl,rfl,rfl⟩
  ·rename_i hfind;cases hf;obtain⟨cr,hcr,hm⟩:=find_run hd hk 0 hent hfind;cases cr with
   |some p=>exact hm.elim
   |none=>
    refine⟨if ok then .tuple #[cz,.bool false]else cz,?_,?_,rfl⟩
    ·simp only[Instr.lookup,Sem.run_bind,run_underlying hu,Result.andThen_ok,hg,Sem.run_pure,run_checkKey hud hd,Instr.findKey,run_underlying hud,hcr,hcz]
    ·cases ok
     ·exact hvz
     ·exact⟨_,rfl,_,_,rfl,hvz,_,_,rfl,rfl,rfl⟩
  ·cases hf
 ·cases hf
theorem VR.sameBits{kk k k' ck ck'}(hk:VR m k ck)(hk':VR m k' ck')(he:eqCell kk k k' =some true)(n:Nat):Instr.sameBits n ck' ck=true:=by
 unfold eqCell at he;split at he
 ·rw[VR]at hk hk';subst hk;subst hk';simp at he;simp[Instr.sameBits,he]
 ·split at he
  ·rename_i hkk;rw[VR]at hk hk';subst hk;subst hk';subst hkk;simp at he;simp[Instr.sameBits,he]
  ·cases he
 ·rw[VR]at hk hk';subst hk;subst hk';simp at he;subst he;simp[Instr.sameBits,beq_toListBytes]
 ·cases he
theorem upd_run{kk}{d:TypeDesc}(hd:keyD kk d){k x ck cx}(hk:VR m k ck)(hx:VR m x cx)(clock:Nat):∀{es es'}{l}(i:Nat),EntR m es l->updA kk k x es=some es'->
  (∃j q,Instr.findNow d ck l i=some (some (i+j,q.val))/\l[j]? =some q/\Instr.sameBits 10000 q.key ck=true/\EntR m es' (l.set j {q with key:=ck,val:=cx}))\/
  (Instr.findNow d ck l i=some none/\EntR m es' (l++[{key:=ck,val:=cx,born:=clock}]))
 |[],es',l,i,h,hf=>by cases h;cases hf;exact .inr ⟨rfl,_,_,rfl,hk,hx,rfl⟩
 |(a,u)::es,es',l,i,h,hf=>by
  obtain⟨q,s,rfl,h1,h2,h3⟩:=h;simp only[updA]at hf;cases he:eqCell kk k a with
  |none=>simp[he]at hf
  |some b=>
   have hs:=key_run hd hk h1 he;cases b with
   |true=>
    simp[he]at hf;subst hf;exact .inl ⟨0,q,by simp[Instr.findNow,hs],by simp,VR.sameBits hk h1 he 10000,_,_,rfl,hk,hx,h3⟩
   |false=>
    simp only[he,Option.map_eq_some_iff]at hf;obtain⟨es2,hes2,rfl⟩:=hf;rcases upd_run hd hk hx clock (i+1) h3 hes2 with⟨j,q',hj,hq',hb,hr⟩|⟨hj,hr⟩
    ·exact .inl ⟨j+1,q',by simp[Instr.findNow,hs,hj];omega,by simpa using hq',hb,_,_,rfl,h1,h2,hr⟩
    ·exact .inr ⟨by simp[Instr.findNow,hs,hj],_,_,rfl,h1,h2,hr⟩
def s_mupd{t kt e:TypeId}{kk x k u cx ck cu}(hu:P.underlying t=some (.map kt e))(hkk:keyK P kt=some kk)(hr:HR P m h w)(hx:VR m (ρ x) cx)(hk:VR m (ρ k) ck)(hv:VR m (ρ u) cu)
  (hf:fnK (.mupd kk x k u) ρ h=some (v,h')):∃w',(Instr.mapUpdate t cx ck cu).run P w=.ok () w'/\v=undefA/\HR P m h' w'/\Grow m h w m h' w':=by
 obtain⟨d,hud,hd⟩:=keyK_some hkk;simp only[fnK]at hf;split at hf
 case h_2=>cases hf
 rename_i r hρ;rw[hρ]at hx;obtain⟨en,hen,rfl⟩:=hx;split at hf
 case h_2=>cases hf
 rename_i es hb;split at hf
 case h_2=>cases hf
 rename_i es' hupd;cases hf;obtain⟨hown,ces,clock,hheap,hlen,hget⟩:=hr.blk r en _ hen hb;have hent:EntR m es ces.toList:=EntR.of_get (by simpa using hlen) (λi p hp=>by obtain⟨q,hq,h1,h2⟩:=hget i p hp;exact⟨q,by simpa using hq,h1,h2⟩);have hg:=run_getObj (P:=P) hheap rfl;have hbl:en.cb<w.heap.size:=(Array.getElem?_eq_some_iff.1 hheap).1;have done:∀(ces':Array MapEntry) (c:Nat),EntR m es' ces'.toList->HR P m (h.set r (.mapb es')) (w.putObj en.cb (.map ces' c))/\Grow m h w m (h.set r (.mapb es')) (w.putObj en.cb (.map ces' c)):=by
  intro ces' c hent';obtain⟨hl',hg'⟩:=hent'.get;exact putObj_ok hr hen hb rfl (.inl rfl) ⟨hown,ces',c,World.putObj_heap_same hbl,by simpa using hl',λi p hp=>by obtain⟨q,hq,h1,h2⟩:=hg' i p hp;exact⟨q,by simpa using hq,h1,h2⟩⟩
 rcases upd_run hd hk hv clock 0 hent hupd with⟨j,q,hj,hq,hbits,hent'⟩|⟨hj,hent'⟩
 ·have hq':ces[j]? =some q:=by simpa using hq
  obtain⟨h1,h2⟩:=done (ces.modify j λe=>{e with key:=ck,val:=cu}) clock (by
   have:(ces.modify j λe=>{e with key:=ck,val:=cu}).toList=ces.toList.set j {q with key:=ck,val:=cu}:=by
    apply List.ext_getElem?
    intro i;rw[Array.getElem?_toList,Array.getElem?_modify,List.getElem?_set];by_cases hij:j=i
    ·subst hij;obtain⟨hlt,heq⟩:=Array.getElem?_eq_some_iff.1 hq';simp[hq',hlt,heq]
    ·simp[hij]
   rw[this];exact hent')
  refine⟨_,?_,rfl,h1,h2⟩;simp only[Instr.mapUpdate,Sem.run_bind,run_underlying hu,Result.andThen_ok,hg,run_checkKey hud hd,Instr.findKey,run_underlying hud,hj,Sem.run_pure,Nat.zero_add,hq',Option.map_some,Option.getD_some,Instr.keyThatStays,hbits,if_true,run_setObj hheap rfl]
 ·obtain⟨h1,h2⟩:=done (ces.push {key:=ck,val:=cu,born:=clock}) (clock+1) (by simpa using hent');refine⟨_,?_,rfl,h1,h2⟩;simp only[Instr.mapUpdate,Sem.run_bind,run_underlying hu,Result.andThen_ok,hg,run_checkKey hud hd,Instr.findKey,run_underlying hud,hj,Sem.run_pure,run_setObj hheap rfl]
end
end Go.Abs
namespace Go.Abs
section
variable {P:Program}{m:Emb}{h h':AHeap}{w:World}{ρ:Opd->AV}{v:AV}
theorem map_u8_VRs(m:Emb):∀(s:List UInt8),VRs m (s.map λb=>AV.int .u8 b.toNat) (s.map λb=>Value.int .u8 b.toNat)
 |[]=>VRs_nil.2 rfl
 |b::s=>VRs_cons.2 ⟨_,_,rfl,rfl,map_u8_VRs m s⟩
def map_u8_one(s:List UInt8):(s.map λb=>AV.int .u8 b.toNat).all AV.one=true:=by
 rw[List.all_eq_true];intro x hx;simp only[List.mem_map]at hx;obtain⟨b,_,rfl⟩:=hx;rfl
def cells_run{es y cy ys k}(hr:HR P m h w)(hy:VR m y cy)(hc:cellsIn es h y=some (ys,k)):
  (Builtin.lenOf cy).run P w=.ok k w/\ys.length=k*es/\ys.all AV.one=true/\
   ∀n,n<=k->∃vs,(Builtin.firstCells es n cy).run P w=.ok ⟨vs⟩ w/\VRs m (ys.take (n*es)) vs:=by
 unfold cellsIn at hc;split at hc
 ·rw[VR]at hy;subst hy;cases hc;exact⟨rfl,by simp,rfl,λn hn=>⟨[],by simp[Builtin.firstCells],by simp[VRs_nil]⟩⟩
 ·rename_i b o n es';obtain⟨e,ca,cap,he,rfl,hncap,hca,hroom⟩:=hy;split at hc
  case isFalse=>cases hc
  rename_i hes;subst hes;split at hc
  case h_2=>cases hc
  rename_i c mu tl hb;split at hc
  case isFalse=>cases hc
  rename_i hle;cases hc;obtain⟨_,_,_,hone⟩:=load_cells hr he hb o (k*es') hle;refine⟨rfl,by simp;omega,hone,λn hn=>?_⟩;have hmul:n*es'<=k*es':=Nat.mul_le_mul_right _ hn;by_cases h0:cap=0
  ·have hk0:k=0:=by omega
   have hn0:n=0:=by omega
   subst hn0;exact⟨[],by simp[Builtin.firstCells,loadCells,loadCellsFrom],by simp[VRs_nil]⟩
  ·rw[hca (by omega)];obtain⟨vs,hrun,hvs,_⟩:=load_cells hr he hb o (n*es') (by omega);refine⟨vs,by simp[Builtin.firstCells,hrun],?_⟩;rw[List.take_take,Nat.min_eq_left hmul];exact hvs
 ·rename_i s;rw[VR]at hy;subst hy;split at hc
  case isFalse=>cases hc
  rename_i hes;subst hes;cases hc;refine⟨rfl,by simp,map_u8_one s,λn hn=>⟨(s.take n).map λb=>Value.int .u8 b.toNat,?_,?_⟩⟩
  ·simp only[Builtin.firstCells,Sem.run_pure,extract_mk];simp
  ·rw[Nat.mul_one,<-List.map_take];exact map_u8_VRs m _
 ·cases hc
theorem store_raw{cb}{el:TypeId}{fz}:∀(vs:List Value) (p j:Nat) (cc:Array Value) (w:World),w.heap[cb]? =some (.cells cc el fz)->p+j+vs.length<=cc.size->
  (∀i,i<cc.size->¬(fz.1<=i/\i<fz.2))->(∀v∈vs,v.oneCell' =true)->
  ∃w' cc',(storeCells ⟨cb,p,none⟩ vs j).run P w=.ok () w'/\w'.heap[cb]? =some (.cells cc' el fz)/\cc'.size=cc.size/\
   (∀i,cc'[i]? =if p+j<=i/\i<p+j+vs.length then vs[i-(p+j)]? else cc[i]?)/\(∀k,k≠cb->w'.heap[k]? =w.heap[k]?)/\w'.heap.size=w.heap.size/\w'.os=w.os/\w'.output=w.output/\w'.tape=w.tape
 |[],p,j,cc,w,hw,_,_,_=>⟨w,cc,rfl,hw,rfl,λi=>by simp;omega,λ_ _=>rfl,rfl,rfl,rfl,rfl⟩
 |v::vs,p,j,cc,w,hw,hlen,hfz,hone=>by
  simp only[List.length_cons]at hlen;have hcell:w.cell? ⟨cb,p+j,none⟩=some (cc[p+j]'(by omega)):=by simp only[World.cell?,hw];exact Array.getElem?_eq_getElem (by omega)
  have hfr:w.frozen? ⟨cb,p+j,none⟩=false:=frozen_false hw (hfz _ (by omega));have hsame:=heap_setCell_same (i:=p+j) hw v;have hs1:(cc.setIfInBounds (p+j) v).size=cc.size:=by simp
  obtain⟨w',cc',h1,h2,h3,h4,h5,h6,h7,h8,h9⟩:=store_raw vs p (j+1) (cc.setIfInBounds (p+j) v) (w.setCell ⟨cb,p+j,none⟩ v) hsame (by rw[hs1];omega) (by rw[hs1];exact hfz) (λu hu=>hone u (List.mem_cons_of_mem _ hu));refine⟨w',cc',?_,h2,by omega,?_,?_,by simpa using h6,h7,h8,h9⟩
  ·simp only[storeCells,Sem.run_bind];rw[Addr_add,run_store P w _ v .plain (hone v (List.mem_cons_self ..)),hcell];simp only[hfr,Bool.false_eq_true,if_false,Result.andThen_ok];exact h1
  ·intro i;rw[h4 i];by_cases hi:i=p+j
   ·subst hi;rw[if_neg (by omega),if_pos (by simp only[List.length_cons];omega)];rw[Array.getElem?_setIfInBounds_self_of_lt (by omega)];simp
   ·rw[Array.getElem?_setIfInBounds_ne (λx=>hi x.symm)];by_cases hin:p+(j+1)<=i/\i<p+(j+1)+vs.length
    ·rw[if_pos hin,if_pos (by simp only[List.length_cons];omega)];rw[show i-(p+j)=(i-(p+(j+1)))+1 from by omega];simp
    ·rw[if_neg hin,if_neg (by simp only[List.length_cons];omega)]
  ·intro k hk;rw[h5 k hk];exact Go.RowKit.Below.heap_setCell w _ v k hk
def next_le(need cap:Nat)(hc:cap<need):Builtin.nextslicecap need cap<=2*need+192:=by
 unfold Builtin.nextslicecap;split
 ·omega
 ·split
  ·omega
  ·have grow:∀(r c:Nat),c<need+(need+768) / 4->Builtin.growBy need r c<=need+(need+768) / 4:=by
    intro r
    induction r with
    |zero=>intro c hcc;simp only[Builtin.growBy];omega
    |succ r ih=>
     intro c hcc;simp only[Builtin.growBy];split
     ·omega
     ·rename_i hlt;have h1:c<need:=by omega
      by_cases hh:c+(c+768) / 4<need+(need+768) / 4
      ·exact ih _ hh
      ·have:c+(c+768) / 4<=need+(need+768) / 4:=by omega
       have e:c+(c+768) / 4=need+(need+768) / 4:=by omega
       rw[e];cases r with
       |zero=>simp[Builtin.growBy]
       |succ r=>simp only[Builtin.growBy];rw[if_pos (by omega)];exact Nat.le_refl _
   have:=grow 4 cap (by omega);omega
theorem VRs.oneCells:∀{l}{vs},VRs m l vs->l.all AV.one=true->∀v∈vs,v.oneCell' =true
 |[],vs,h,_,v,hv=>by rw[VRs_nil]at h;subst h;cases hv
 |x::xs,vs,h,h1,v,hv=>by
  obtain⟨y,ys,rfl,hy,hys⟩:=VRs_cons.1 h;simp only[List.all_cons,Bool.and_eq_true]at h1;rcases List.mem_cons.1 hv with rfl|hv
  ·exact hy.oneCell h1.1
  ·exact VRs.oneCells hys h1.2 v hv
def inplace_ok(hr:HR P m h w){b o q e c ys mu mu' k0}(he:m b=some e)(hb:h[b]? =some (.cells c mu true))(hoq:o+q<=c.length)
  (hk0:(k0=.cells c false false/\o+q=c.length/\mu' =false)\/(k0=.dead/\mu=true)) {vs}(hys:VRs m ys vs) (h1:ys.all AV.one=true) (hroom:o+q+e.d+ys.length<=e.sz) (j:Nat):
  ∃w' m',(storeCells ⟨e.cb,o+e.d+q,none⟩ vs 0).run P w=.ok () w'/\m' h.length=some ⟨e.cb,e.d+o,e.sz,true⟩/\
   HR P m' (h.set b k0++[.cells ((c.drop o).take q++ys) mu' true]) w'/\Grow m h w m' (h.set b k0++[.cells ((c.drop o).take q++ys) mu' true]) w':=by
 have _:=j;obtain⟨cc,el,fz,hw,⟨hle,hle'⟩,hget,hown,hmt⟩:=hr.blk b e _ he hb;have ho:e.own=true:=(hmt (.inr rfl)).1;obtain⟨hsz,hfz⟩:=hown ho;have hlv:=hys.length;obtain⟨w',cc',hrun,hw',hsz',hcc',hoth,hhs,hos,hout,htape⟩:=store_raw (P:=P) vs (o+e.d+q) 0 cc w hw (by omega) hfz (hys.oneCells h1);have hbl:b<h.length:=hr.dom _ _ he
 let e':Ent:=⟨e.cb,e.d+o,e.sz,true⟩
 have hnone:m h.length=none:=by
  cases hx:m h.length with
  |none=>rfl
  |some y=>exact absurd (hr.dom _ _ hx) (by omega)
 have hle2:m.le (m.add h.length e'):=Emb.add_le e' hnone;have hlen:(h.set b k0).length=h.length:=by simp
 have hshare:∀b2 e2 k2,b2≠b->m b2=some e2->h[b2]? =some k2->k2.live=true->e2.cb=e.cb->mu=false/\∃c2,k2=.cells c2 false false/\e2.d+c2.length<=e.d+c.length:=by
  intro b2 e2 k2 hne he2 hk2 hl hcb;have:=hr.sep b b2 e e2 _ k2 (λx=>hne x.symm) he he2 hb hk2 hcb.symm;cases k2 with
  |cells c2 mu2 tl2=>
   obtain⟨hm1,hm2,ht⟩:=this;obtain⟨ht2,hend⟩:=ht rfl;subst hm2;subst ht2;exact⟨hm1,c2,rfl,hend⟩
  |dead=>cases hl
  |mapb _=>exact this.elim
  |iter _ _=>exact this.elim
  |loop _ _ _ _ _ _=>exact this.elim
 have hkeep:∀i,i<e.d+o+q->cc'[i]? =cc[i]? :=by
  intro i hi;rw[hcc' i,if_neg (by omega)]
 have hnew:BR P (m.add h.length e') w' e' (.cells ((c.drop o).take q++ys) mu' true):=by
  refine⟨cc',el,fz,hw',⟨?_,?_,(by rw[hsz',hsz])⟩,?_,λ_=>⟨by rw[hsz',hsz],λi hi=>hfz i (by omega)⟩,λ_=>⟨rfl,λx=>by cases x⟩⟩
  ·show e.d+o+((c.drop o).take q++ys).length<=cc'.size;simp;omega
  ·show e.d+o+((c.drop o).take q++ys).length<=e.sz;simp;omega
  ·intro i x hx;by_cases hi:i<q
   ·rw[List.getElem?_append_left (by simp;omega),List.getElem?_take_of_lt hi,List.getElem?_drop]at hx;obtain⟨hone,v,hv,hvr⟩:=hget (o+i) x hx;refine⟨hone,v,?_,VR.mono hle2 _ _ hvr⟩;show cc'[e.d+o+i]? =some v;rw[hkeep _ (by omega),show e.d+o+i=e.d+(o+i)from by omega];exact hv
   ·have hlq:((c.drop o).take q).length=q:=by simp;omega
    rw[List.getElem?_append_right (by omega),hlq]at hx;obtain⟨v,hv,hvr⟩:=hys.get hx;have hlt:i-q<ys.length:=(List.getElem?_eq_some_iff.1 hx).1;refine⟨List.all_eq_true.1 h1 x (List.mem_of_getElem? hx),v,?_,VR.mono hle2 _ _ hvr⟩;show cc'[e.d+o+i]? =some v;rw[hcc',if_pos (by omega),show e.d+o+i-(o+e.d+q+0)=i-q from by omega];exact hv
 have hbr0:∀b2 e2 k2,m b2=some e2->(h.set b k0)[b2]? =some k2->BR P (m.add h.length e') w' e2 k2:=by
  intro b2 e2 k2 he2 hk2;rw[getElem?_set_blk h b b2 _ hbl]at hk2;by_cases hbb:b2=b
  ·subst hbb;rw[if_pos rfl]at hk2;cases hk2;rw[he]at he2;cases he2;rcases hk0 with⟨rfl,hcl,_⟩|⟨rfl,_⟩
   ·refine⟨cc',el,fz,hw',⟨by omega,by omega⟩,?_,λ_=>⟨by rw[hsz',hsz],λi hi=>hfz i (by omega)⟩,λx=>by rcases x with x|x<;>cases x⟩;intro i x hx;obtain⟨hone,v,hv,hvr⟩:=hget i x hx;have hi:i<c.length:=(List.getElem?_eq_some_iff.1 hx).1;exact⟨hone,v,by rw[hkeep _ (by omega)];exact hv,VR.mono hle2 _ _ hvr⟩
   ·trivial
  ·rw[if_neg hbb]at hk2;have h0:=hr.blk b2 e2 k2 he2 hk2;by_cases hl:k2.live=true
   ·by_cases hcb:e2.cb=e.cb
    ·obtain⟨hmf,c2,rfl,hend⟩:=hshare b2 e2 k2 hbb he2 hk2 hl hcb;rcases hk0 with⟨_,hcl,_⟩|⟨_,hmt'⟩
     ·obtain⟨cc2,el2,fz2,hw2,⟨hle2a,hle2b⟩,hget2,hown2,hmt2⟩:=h0;rw[hcb,hw]at hw2;cases hw2;refine⟨cc',el,fz,by rw[hcb];exact hw',⟨by omega,by omega⟩,?_,λho2=>by have:=hown2 ho2;exact⟨by omega,λi hi=>this.2 i (by omega)⟩,hmt2⟩;intro i x hx;obtain⟨hone,v,hv,hvr⟩:=hget2 i x hx;have hi:i<c2.length:=(List.getElem?_eq_some_iff.1 hx).1;exact⟨hone,v,by rw[hkeep _ (by omega)];exact hv,VR.mono hle2 _ _ hvr⟩
     ·rw[hmf]at hmt';cases hmt'
    ·exact(h0.mono hle2).heap (hoth _ hcb)
   ·cases k2<;>first|trivial|exact absurd rfl hl
 have hget0:∀b2 k2,b2<h.length->(h.set b k0++[.cells ((c.drop o).take q++ys) mu' true])[b2]? =some k2->(h.set b k0)[b2]? =some k2:=by
  intro b2 k2 hlt hk2
  rwa [List.getElem?_append_left (by omega)]at hk2
 have hsep1:∀b2 e2 k2,m b2=some e2->(h.set b k0)[b2]? =some k2->e2.cb=e.cb->sepOk e' e2 (.cells ((c.drop o).take q++ys) mu' true) k2/\sepOk e2 e' k2 (.cells ((c.drop o).take q++ys) mu' true):=by
  intro b2 e2 k2 he2 hk2 hcb;rw[getElem?_set_blk h b b2 _ hbl]at hk2;by_cases hbb:b2=b
  ·subst hbb;rw[if_pos rfl]at hk2;cases hk2;rw[he]at he2;cases he2;rcases hk0 with⟨rfl,hcl,rfl⟩|⟨rfl,_⟩
   ·refine⟨⟨rfl,rfl,λ_=>⟨rfl,?_⟩⟩,⟨rfl,rfl,λx=>by cases x⟩⟩;show e.d+c.length<=e.d+o+((c.drop o).take q++ys).length;simp;omega
   ·exact⟨trivial,trivial⟩
  ·rw[if_neg hbb]at hk2;by_cases hl:k2.live=true
   ·obtain⟨hmf,c2,rfl,hend⟩:=hshare b2 e2 k2 hbb he2 hk2 hl hcb;rcases hk0 with⟨_,hcl,rfl⟩|⟨_,hmt'⟩
    ·refine⟨⟨rfl,rfl,λ_=>⟨rfl,?_⟩⟩,⟨rfl,rfl,λx=>by cases x⟩⟩;show e2.d+c2.length<=e.d+o+((c.drop o).take q++ys).length;simp;omega
    ·rw[hmf]at hmt';cases hmt'
   ·cases k2<;>first|exact⟨trivial,trivial⟩|exact absurd rfl hl
 have hsep2:∀b1 b2 e1 e2 k1 k2,b1≠b2->m b1=some e1->m b2=some e2->(h.set b k0)[b1]? =some k1->(h.set b k0)[b2]? =some k2->e1.cb=e2.cb->sepOk e1 e2 k1 k2:=by
  intro b1 b2 e1 e2 k1 k2 hne he1 he2 hk1 hk2 hcb;rw[getElem?_set_blk h b _ _ hbl]at hk1 hk2;by_cases hb1:b1=b
  ·subst hb1;rw[if_pos rfl]at hk1;cases hk1;rw[if_neg (λx=>hne x.symm)]at hk2;have:=hr.sep b1 b2 e1 e2 _ k2 hne he1 he2 hb hk2 hcb;rcases hk0 with⟨rfl,_⟩|⟨rfl,_⟩
   ·cases k2<;>first|exact⟨rfl,this.2.1,λx=>by cases x⟩|trivial|exact this
   ·trivial
  ·rw[if_neg hb1]at hk1;by_cases hb2:b2=b
   ·subst hb2;rw[if_pos rfl]at hk2;cases hk2;have:=hr.sep b1 b2 e1 e2 k1 _ hne he1 he2 hk1 hb hcb;rcases hk0 with⟨rfl,_⟩|⟨rfl,_⟩
    ·cases k1<;>first|exact⟨this.1,rfl,λx=>absurd (this.2.2 x).1 (by simp)⟩|trivial|exact this
    ·cases k1<;>trivial
   ·rw[if_neg hb2]at hk2;exact hr.sep b1 b2 e1 e2 k1 k2 hne he1 he2 hk1 hk2 hcb
 refine⟨w',m.add h.length e',by simpa using hrun,by simp[Emb.add,e'],⟨?_,?_,?_,?_,?_⟩,⟨?_,by simp,?_,?_,by omega,hos,hout,htape,?_⟩⟩
 ·intro b2 e2 hb2;unfold Emb.add at hb2;by_cases hx:b2=h.length
  ·subst hx;simp
  ·rw[if_neg hx]at hb2;have:=hr.dom _ _ hb2;simp;omega
 ·intro b2 e2 k2 he2 hk2;unfold Emb.add at he2;by_cases hx:b2=h.length
  ·subst hx;rw[if_pos rfl]at he2;cases he2;rw[List.getElem?_append_right (by omega)]at hk2;simp at hk2;subst hk2;exact hnew
  ·rw[if_neg hx]at he2;exact hbr0 b2 e2 k2 he2 (hget0 b2 k2 (hr.dom _ _ he2) hk2)
 ·intro b1 b2 e1 e2 k1 k2 hne he1 he2 hk1 hk2 hcb;unfold Emb.add at he1 he2;by_cases hx1:b1=h.length
  ·subst hx1;rw[if_pos rfl]at he1;cases he1;rw[if_neg (λx=>hne x.symm)]at he2;rw[List.getElem?_append_right (by omega)]at hk1;simp at hk1;subst hk1;exact(hsep1 b2 e2 k2 he2 (hget0 b2 k2 (hr.dom _ _ he2) hk2) hcb.symm).1
  ·rw[if_neg hx1]at he1;have hk1':=hget0 b1 k1 (hr.dom _ _ he1) hk1;by_cases hx2:b2=h.length
   ·subst hx2;rw[if_pos rfl]at he2;cases he2;rw[List.getElem?_append_right (by omega)]at hk2;simp at hk2;subst hk2;exact(hsep1 b1 e1 k1 he1 hk1' hcb).2
   ·rw[if_neg hx2]at he2;exact hsep2 b1 b2 e1 e2 k1 k2 hne he1 he2 hk1' (hget0 b2 k2 (hr.dom _ _ he2) hk2) hcb
 ·intro g hg;obtain⟨x,hx,h2⟩:=hr.glob g hg;exact⟨x,hle2 _ _ hx,h2⟩
 ·intro b2 e2 he2;unfold Emb.add at he2;by_cases hx:b2=h.length
  ·rw[if_pos hx]at he2;cases he2;have:=hr.lt _ _ he;show e.cb<_;omega
  ·rw[if_neg hx]at he2;have:=hr.lt _ _ he2;omega
 ·intro b2 hb2;unfold Emb.add;rw[if_neg (by omega)]
 ·intro b2 e2 hb2 he2;unfold Emb.add at he2;by_cases hx:b2=h.length
  ·rw[if_pos hx]at he2;cases he2;refine⟨rfl,.inr ⟨b,e,he,rfl,ho,by simp[tailOf,hb],?_⟩⟩;unfold tailOf;rw[List.getElem?_append_left (by omega),getElem?_set_blk h b b _ hbl,if_pos rfl];rcases hk0 with⟨rfl,_⟩|⟨rfl,_⟩<;>rfl
  ·rw[if_neg hx]at he2;exact absurd (hr.dom _ _ he2) (by omega)
 ·intro b2 hb2 ht;unfold tailOf at ht ⊢;rw[List.getElem?_append_left (by omega),getElem?_set_blk h b b2 _ hbl]at ht;by_cases hbb:b2=b
  ·subst hbb;rw[if_pos rfl]at ht;rcases hk0 with⟨rfl,_⟩|⟨rfl,_⟩<;>cases ht
  ·rw[if_neg hbb]at ht;exact ht
 ·intro i hi hno;exact hoth i (λx=>hno b e he ho x.symm)
end
end Go.Abs
namespace Go.Abs
section
variable {P:Program}{m:Emb}{h h':AHeap}{w:World}{ρ:Opd->AV}{v:AV}
def Weak:ABlk->ABlk->Prop
 |.cells c mu tl,k=>k=.dead\/∃mu' tl',k=.cells c mu' tl'/\(mu' =true->mu=true/\(tl' =false->tl=false))/\(tl' =true->tl=true)
 |k,k'=>k' =.dead\/k' =k
def Weak.sep1{e1 e2 k k' k2}(hw:Weak k k')(hs:sepOk e1 e2 k k2):sepOk e1 e2 k' k2:=by
 cases k with
 |cells c mu tl=>
  rcases hw with rfl|⟨mu',tl',rfl,hm,ht⟩
  ·trivial
  ·cases k2 with
   |cells c2 mu2 tl2=>
    refine⟨?_,hs.2.1,λx=>hs.2.2 (ht x)⟩;cases mu' with
    |false=>rfl
    |true=>have:=hs.1;rw[(hm rfl).1]at this;cases this
   |_=>first|trivial|exact hs
 |dead=>rcases hw with rfl|rfl<;>trivial
 |mapb es=>rcases hw with rfl|rfl<;>first|trivial|exact hs
 |iter s p=>rcases hw with rfl|rfl<;>first|trivial|exact hs
 |loop a b c d e f=>rcases hw with rfl|rfl<;>first|trivial|exact hs
def Weak.sep2{e1 e2 k k' k1}(hw:Weak k k')(hs:sepOk e1 e2 k1 k):sepOk e1 e2 k1 k':=by
 cases k with
 |cells c mu tl=>
  rcases hw with rfl|⟨mu',tl',rfl,hm,ht⟩
  ·cases k1<;>trivial
  ·cases k1 with
   |cells c1 mu1 tl1=>
    refine⟨hs.1,?_,λx=>⟨?_,(hs.2.2 x).2⟩⟩
    ·cases mu' with
     |false=>rfl
     |true=>have:=hs.2.1;rw[(hm rfl).1]at this;cases this
    ·cases tl' with
     |false=>rfl
     |true=>have:=(hs.2.2 x).1;rw[ht rfl]at this;cases this
   |_=>first|trivial|exact hs
 |dead=>rcases hw with rfl|rfl<;>cases k1<;>trivial
 |mapb es=>rcases hw with rfl|rfl<;>first|exact hs|(cases k1<;>trivial)
 |iter s p=>rcases hw with rfl|rfl<;>first|exact hs|(cases k1<;>trivial)
 |loop a b c d e f=>rcases hw with rfl|rfl<;>first|exact hs|(cases k1<;>trivial)
def Weak.br{e k k'}(hw:Weak k k')(hb:BR P m w e k):BR P m w e k':=by
 cases k with
 |cells c mu tl=>
  rcases hw with rfl|⟨mu',tl',rfl,hm,ht⟩
  ·trivial
  ·obtain⟨cc,el,fz,h1,h2,h3,h4,h5⟩:=hb;refine⟨cc,el,fz,h1,h2,h3,h4,λx=>⟨(h5 (x.elim (λy=>.inl (hm y).1) (λy=>.inr (ht y)))).1,λy=>?_⟩⟩;rcases x with x|x
   ·exact(h5 (.inl (hm x).1)).2 ((hm x).2 y)
   ·rw[x]at y;cases y
 |dead=>rcases hw with rfl|rfl<;>trivial
 |mapb es=>rcases hw with rfl|rfl<;>first|trivial|exact hb
 |iter s p=>rcases hw with rfl|rfl<;>first|trivial|exact hb
 |loop a b c d e f=>rcases hw with rfl|rfl<;>first|trivial|exact hb
def ghost_ok(hr:HR P m h w){b k k'}(hb:h[b]? =some k)(hk:Weak k k'):HR P m (h.set b k') w/\Grow m h w m (h.set b k') w:=by
 have hbl:b<h.length:=(List.getElem?_eq_some_iff.1 hb).1;refine⟨⟨?_,?_,?_,hr.glob,hr.lt⟩,⟨λ_ _=>rfl,by simp,?_,?_,Nat.le_refl _,rfl,rfl,rfl,λ_ _ _=>rfl⟩⟩
 ·intro b' e' hb';simpa using hr.dom b' e' hb'
 ·intro b' e' k2 he' hk2;rw[getElem?_set_blk h b b' _ hbl]at hk2;by_cases hbb:b' =b
  ·subst hbb;rw[if_pos rfl]at hk2;cases hk2;exact hk.br (hr.blk b' e' k he' hb)
  ·rw[if_neg hbb]at hk2;exact hr.blk b' e' k2 he' hk2
 ·intro b1 b2 e1 e2 k1 k2 hne he1 he2 hk1 hk2 hcb;rw[getElem?_set_blk h b _ _ hbl]at hk1 hk2;by_cases hb1:b1=b
  ·subst hb1;rw[if_pos rfl]at hk1;cases hk1;rw[if_neg (λx=>hne x.symm)]at hk2;exact hk.sep1 (hr.sep b1 b2 e1 e2 k k2 hne he1 he2 hb hk2 hcb)
  ·rw[if_neg hb1]at hk1;by_cases hb2:b2=b
   ·subst hb2;rw[if_pos rfl]at hk2;cases hk2;exact hk.sep2 (hr.sep b1 b2 e1 e2 k1 k hne he1 he2 hk1 hb hcb)
   ·rw[if_neg hb2]at hk2;exact hr.sep b1 b2 e1 e2 k1 k2 hne he1 he2 hk1 hk2 hcb
 ·intro b' e' hb' he';exact absurd (hr.dom _ _ he') (by omega)
 ·intro b' hb' ht;unfold tailOf at ht ⊢;rw[getElem?_set_blk h b b' _ hbl]at ht;by_cases hbb:b' =b
  ·subst hbb;rw[if_pos rfl]at ht;rw[hb];cases k with
   |cells c mu tl=>
    rcases hk with rfl|⟨mu',tl',rfl,_,h2⟩
    ·cases ht
    ·exact h2 ht
   |dead=>rcases hk with rfl|rfl<;>cases ht
   |mapb es=>rcases hk with rfl|rfl<;>cases ht
   |iter s p=>rcases hk with rfl|rfl<;>cases ht
   |loop a b c d e f=>rcases hk with rfl|rfl<;>cases ht
  ·rw[if_neg hbb]at ht;exact ht
def alloc_row(hr:HR P m h w){c vs}(hc:VRs m c vs)(h1:c.all AV.one=true)(rest:List Value)(el:TypeId)(mu tl:Bool)(hml:mu=true->tl=true):
  ∃m',m' h.length=some ⟨w.heap.size,0,vs.length+rest.length,true⟩/\HR P m' (h++[.cells c mu tl]) (w.alloc (.cells ⟨vs++rest⟩ el))/\Grow m h w m' (h++[.cells c mu tl]) (w.alloc (.cells ⟨vs++rest⟩ el)):=by
 have hl:=hc.length;refine⟨_,by simp[Emb.add],alloc_ok hr (.cells ⟨vs++rest⟩ el) (.cells c mu tl) ⟨w.heap.size,0,vs.length+rest.length,true⟩ rfl rfl (λm' hm=>?_)⟩;refine⟨⟨vs++rest⟩,el,(0,0),World.alloc_heap_new w _,⟨by simp;omega,by refine⟨?_,(by simp)⟩;show 0+c.length<=vs.length+rest.length;omega⟩,?_,λ_=>⟨by simp,λi _=>by simp⟩,λx=>⟨rfl,λy=>by
  rcases x with x|x
  ·rw[hml x]at y;cases y
  ·rw[x]at y;cases y⟩⟩
 intro i x hx;obtain⟨v,hv,hvr⟩:=hc.get hx;have hi:i<c.length:=(List.getElem?_eq_some_iff.1 hx).1;refine⟨List.all_eq_true.1 h1 x (List.mem_of_getElem? hx),v,?_,VR.mono hm _ _ hvr⟩;show(⟨vs++rest⟩:Array Value)[0+i]? =some v;rw[Nat.zero_add,List.getElem?_toArray,List.getElem?_append_left (by omega)];exact hv
def run_grow{sT xT e:TypeId}{i:TypeInfo}{y ts}(hts0:ts[0]? =some sT)(hts1:ts[1]? =some xT)(hs:sliceElem P sT=some (e,i))(hbytes:0<i.bytes)(hbytes':i.bytes<=2^20)
  {d:TypeDesc}(hud:P.underlying xT=some d) (hdk:∀k,d≠.int k) {cz}(hz:(zeroValue e).run P w.drew=.ok cz w.drew) {base}{n cap k}(hcap:cap<n+k) (hb:(n+k)*i.bytes<=2^46)
  (hlen:(Builtin.lenOf y).run P w=.ok k w) {vo vn}(ho:(Builtin.firstCells i.size n (.slice base n cap)).run P w.drew=.ok ⟨vo⟩ w.drew) (hn:(Builtin.firstCells i.size k y).run P w.drew=.ok ⟨vn⟩ w.drew) (T:TypeId) (hsz:i.size=cz.cells.size):
  ∃newCap rest,n+k<=newCap/\rest.length=(newCap-(n+k))*i.size/\
   (Builtin.append_ ts T #[.slice base n cap,y]).run P w=.ok (.slice (some ⟨w.heap.size,0,none⟩) (n+k) newCap) (w.drew.alloc (.cells ⟨vo++vn++rest⟩ e)):=by
 obtain⟨hu,hi⟩:=sliceElem_some hs;have hnext:=next_le (n+k) cap hcap;have hno:¬(Builtin.nextslicecap (n+k) cap*i.bytes > 2^48):=by
  have h1:Builtin.nextslicecap (n+k) cap*i.bytes<=(2*(n+k)+192)*i.bytes:=Nat.mul_le_mul_right _ hnext;have h2:(2*(n+k)+192)*i.bytes=2*((n+k)*i.bytes)+192*i.bytes:=by rw[Nat.add_mul,Nat.mul_assoc]
  omega
 obtain⟨q,hq⟩:∃q:Question,q=.appendCap (n+k) cap e:=⟨_,rfl⟩;obtain⟨nc,hncd⟩:∃nc:Nat,nc=q.cut (w.tape w.drawn q):=⟨_,rfl⟩;have hnc:n+k<=nc:=by rw[hncd,hq];show n+k<=(n+k)+_;omega
 have hzeros:(match d with|.int _=>true|_=>false)=false:=by
  cases d<;>first|rfl|exact absurd rfl (hdk _)
 have hsize:∀w,(sizeOf e).run P w=.ok i.size w:=λw=>run_sizeOf' (by simp[sizeN,hi]) w
 have hinfo:∀w,(typeInfo e).run P w=.ok i w:=λw=>by simp[typeInfo,hi]
 have hb0:¬(i.bytes=0):=by omega
 have hchoose:(choose (.appendCap (n+k) cap e)).run P w=.ok nc w.drew:=by
  rw[run_choose,hncd,hq];rfl
 refine⟨nc,(Builtin.zeroCells cz.cells (nc-(n+k))).toList,hnc,by simp[Builtin.zeroCells,hsz],?_⟩;simp only[Builtin.append_,hts0,hts1,List.getElem?_toArray,List.getElem?_cons_zero,List.getElem?_cons_succ,Sem.run_bind,run_underlying hu,Result.andThen_ok,hsize,run_underlying hud,Sem.run_pure,hzeros,
  Bool.false_eq_true,if_false,hlen,Nat.not_le.2 hcap]
 simp only[Sem.run_ite,Sem.run_bind,hinfo,Result.andThen_ok,hno,if_false,hb0,or_false,and_false,Bool.false_eq_true,hchoose,run_askRoom,ho,hn,hz,Bool.not_false,if_true,newRow,run_newObj,Sem.run_pure];have earr:((⟨vo⟩:Array Value)++⟨vn⟩++Builtin.zeroCells cz.cells (nc-(n+k)))=⟨vo++vn++(Builtin.zeroCells cz.cells (nc-(n+k))).toList⟩:=by
  apply Array.ext'
  simp
 rw[earr];rfl
def drop_take_all{c:List AV}{o q:Nat}(h:o+q=c.length):(c.drop o).take q=c.drop o:=List.take_of_length_le (by simp;omega)
def s_app{sT xT e:TypeId}{i:TypeInfo}{ts:Array TypeId}(hts0:ts[0]? =some sT)(hts1:ts[1]? =some xT)(hs:sliceElem P sT=some (e,i))(hspos:0<i.size)(hbytes:0<i.bytes)(hbytes':i.bytes<=2^20)
  {d:TypeDesc}(hud:P.underlying xT=some d) (hdk:∀k,d≠.int k) {z:AV}(hz:i.zero.bind (absV 4)=some z) (hzs:z.cells.length=i.size)
  (hr:HR P m h w) {x y:AV}{cx cy:Value}(hx:VR m x cx) (hy:VR m y cy) (hf:AppR i.size i.bytes x y h v h') (T:TypeId):
  ∃cv w' m',(Builtin.append_ ts T #[cx,cy]).run P w=.ok cv w'/\VR m' v cv/\HR P m' h' w'/\Grow m h w m' h' w':=by
 obtain⟨hu,hi⟩:=sliceElem_some hs;have hzA:zeroA P e=some z:=by simp[zeroA,hi,hz]
 obtain⟨cz,hcz,hvz⟩:=zeroA_run hzA w.drew m;have hszz:i.size=cz.cells.size:=by have:=hvz.cells.length;simp at this;omega
 have hsize:∀w,(sizeOf e).run P w=.ok i.size w:=λw=>run_sizeOf' (by simp[sizeN,hi]) w
 have hzeros:(match d with|.int _=>true|_=>false)=false:=by
  cases d<;>first|rfl|exact absurd rfl (hdk _)
 have room:∀{base:Option Addr}{n cap k:Nat}{vn:List Value}{w1:World},n+k<=cap->(Builtin.lenOf cy).run P w=.ok k w->(Builtin.firstCells i.size k cy).run P w=.ok ⟨vn⟩ w->
   (match base with|some a=>(storeCells (a.add (n*i.size)) vn).run P w=.ok () w1|none=>w1=w)->
   (Builtin.append_ ts T #[.slice base n cap,cy]).run P w=.ok (.slice base (n+k) cap) w1:=by
  intro base n cap k vn w1 hle hlen hfirst hst;cases base with
  |none=>
   subst hst;simp only[Builtin.append_,hts0,hts1,List.getElem?_toArray,List.getElem?_cons_zero,List.getElem?_cons_succ,Sem.run_bind,run_underlying hu,Result.andThen_ok,hsize,run_underlying hud,Sem.run_pure,hzeros,
    Bool.false_eq_true,if_false,hlen,hle,if_true,Bool.not_false,hfirst]
  |some a=>
   simp only at hst;simp only[Builtin.append_,hts0,hts1,List.getElem?_toArray,List.getElem?_cons_zero,List.getElem?_cons_succ,Sem.run_bind,run_underlying hu,Result.andThen_ok,hsize,run_underlying hud,Sem.run_pure,hzeros,
    Bool.false_eq_true,if_false,hlen,hle,if_true,Bool.not_false,hfirst,hst]
 cases hf with
 |none hyc hsn=>
  obtain⟨hlen,_,_,hfirst⟩:=cells_run hr hy hyc;obtain⟨vn,hvn,hvr⟩:=hfirst 0 (Nat.le_refl _);have hvn0:vn=[]:=by simp[VRs_nil]at hvr;exact hvr
  subst hvn0;rcases hsn with rfl|⟨b,o,n,rfl⟩
  ·rw[VR]at hx;subst hx;exact⟨.slice none 0 0,w,m,room (by omega) hlen hvn rfl,rfl,hr,Grow.refl m h w hr.dom⟩
  ·have hx0:=hx;obtain⟨en,ca,cap,hen,rfl,hncap,hca,hroom⟩:=hx;exact⟨.slice (some ca) n cap,w,m,room (by omega) hlen hvn (by simp[storeCells]),hx0,hr,Grow.refl m h w hr.dom⟩
 |new ys k mu hyc hk hb hsn=>
  subst hsn;rw[VR]at hx;subst hx;obtain⟨hlen,hyl,hone,_⟩:=cells_run hr hy hyc;obtain⟨_,_,_,hfirst⟩:=cells_run hr.drew hy hyc;obtain⟨vn,hvn,hvr⟩:=hfirst k (Nat.le_refl _);rw[List.take_of_length_le (by omega)]at hvr;obtain⟨nc,rest,hnc,hrest,hrun⟩:=run_grow (n:=0) (cap:=0) (base:=none) (vo:=[]) hts0 hts1 hs hbytes hbytes' hud hdk hcz (by omega) (by rw[Nat.zero_add];exact hb) hlen (by simp[Builtin.firstCells]) hvn T hszz;obtain⟨m',h0,h1,h2⟩:=alloc_row hr.drew hvr hone rest e mu true (λ_=>rfl);have hvl:=hvr.length;refine⟨_,_,m',hrun,⟨_,_,nc,h0,by rw[Nat.zero_add];rfl,by omega,λ_=>rfl,?_⟩,by simpa using h1,by simpa using h2.drew0⟩
  show 0+0+nc*i.size<=vn.length+rest.length;rw[hrest,hvl,hyl];have:nc*i.size=k*i.size+(nc-(0+k))*i.size:=by rw[<-Nat.add_mul];congr 1;omega
  omega
 |on ys k b o n c mu hyc hk hb hsn hc hl=>
  subst hsn;obtain⟨en,ca,cap,hen,rfl,hncap,hca,hroom⟩:=hx;obtain⟨hlen,hyl,hone,hfirst⟩:=cells_run hr hy hyc;have hxc:cellsIn i.size h (.slice b o n i.size)=some ((c.drop o).take (n*i.size),n):=by simp[cellsIn,hc];omega
  have hdt:=drop_take_all hl;by_cases hfit:n+k<=cap
  ·obtain⟨vn,hvn,hvr⟩:=hfirst k (Nat.le_refl _);rw[List.take_of_length_le (by omega)]at hvr;have hcae:=hca (by omega);have hr1:(n+k)*i.size<=cap*i.size:=Nat.mul_le_mul_right _ hfit;rw[Nat.add_mul]at hr1;obtain⟨w',m',h0,h1,h2,h3⟩:=inplace_ok (mu':=false) (k0:=.cells c false false) (q:=n*i.size) hr hen hc (by omega) (.inl ⟨rfl,hl,rfl⟩) hvr hone (by omega) 0;rw[hdt]at h2 h3;refine⟨_,w',m',room hfit hlen hvn (by simp only[hcae];rw[Addr_add];exact h0),⟨_,_,cap,h1,rfl,hfit,λ_=>?_,?_⟩,h2,h3⟩
   ·rw[hcae];simp only[Addr.mk.injEq,true_and,and_true];omega
   ·show 0+(en.d+o)+cap*i.size<=en.sz;omega
  ·obtain⟨_,_,_,hfo⟩:=cells_run hr.drew (y:=.slice b o n i.size) ⟨en,ca,cap,hen,rfl,hncap,hca,hroom⟩ hxc;obtain⟨vo,hvo,hvor⟩:=hfo n (Nat.le_refl _);obtain⟨_,_,hoone,_⟩:=cells_run hr (y:=.slice b o n i.size) ⟨en,ca,cap,hen,rfl,hncap,hca,hroom⟩ hxc;obtain⟨_,_,_,hfirst'⟩:=cells_run hr.drew hy hyc;obtain⟨vn,hvn,hvr⟩:=hfirst' k (Nat.le_refl _);rw[List.take_of_length_le (by omega)]at hvr;rw[List.take_of_length_le (by simp;omega),hdt]at hvor;rw[hdt]at hoone;obtain⟨nc,rest,hnc,hrest,hrun⟩:=run_grow hts0 hts1 hs hbytes hbytes' hud hdk hcz (by omega) hb hlen hvo hvn T hszz;obtain⟨g1,g2⟩:=ghost_ok (k':=.cells c false false) hr hc (.inr ⟨false,false,rfl,λx=>(by cases x),λx=>(by cases x)⟩)
   obtain⟨m',h0,h1,h2⟩:=alloc_row g1.drew (hvor.append hvr) (by simp[hoone,hone]) rest e false true (λ_=>rfl);have hlen0:(h.set b (.cells c false false)).length=h.length:=by simp
   rw[hlen0]at h0;have hvl:=hvr.length;have hvol:=hvor.length;refine⟨_,_,m',hrun,⟨_,_,nc,h0,rfl,hnc,λ_=>rfl,?_⟩,h1,(g2.drew.trans h2 hr.dom)⟩;show 0+0+nc*i.size<=(vo++vn).length+rest.length;rw[List.length_append,hrest,hvl,hvol,hyl];have e1:nc*i.size=(n+k)*i.size+(nc-(n+k))*i.size:=by rw[<-Nat.add_mul];congr 1;omega
   rw[Nat.add_mul]at e1;simp;omega
 |over ys k b o n c mu hyc hk hb hsn hc hl=>
  subst hsn;obtain⟨en,ca,cap,hen,rfl,hncap,hca,hroom⟩:=hx;obtain⟨hlen,hyl,hone,hfirst⟩:=cells_run hr hy hyc;have hxc:cellsIn i.size h (.slice b o n i.size)=some ((c.drop o).take (n*i.size),n):=by simp[cellsIn,hc];omega
  by_cases hfit:n+k<=cap
  ·obtain⟨vn,hvn,hvr⟩:=hfirst k (Nat.le_refl _);rw[List.take_of_length_le (by omega)]at hvr;have hcae:=hca (by omega);have hr1:(n+k)*i.size<=cap*i.size:=Nat.mul_le_mul_right _ hfit;rw[Nat.add_mul]at hr1;obtain⟨w',m',h0,h1,h2,h3⟩:=inplace_ok (mu':=mu) (k0:=.dead) (q:=n*i.size) hr hen hc (by omega) (.inr ⟨rfl,rfl⟩) hvr hone (by omega) 0;refine⟨_,w',m',room hfit hlen hvn (by simp only[hcae];rw[Addr_add];exact h0),⟨_,_,cap,h1,rfl,hfit,λ_=>?_,?_⟩,h2,h3⟩
   ·rw[hcae];simp only[Addr.mk.injEq,true_and,and_true];omega
   ·show 0+(en.d+o)+cap*i.size<=en.sz;omega
  ·obtain⟨_,_,_,hfo⟩:=cells_run hr.drew (y:=.slice b o n i.size) ⟨en,ca,cap,hen,rfl,hncap,hca,hroom⟩ hxc;obtain⟨vo,hvo,hvor⟩:=hfo n (Nat.le_refl _);obtain⟨_,_,hoone,_⟩:=cells_run hr (y:=.slice b o n i.size) ⟨en,ca,cap,hen,rfl,hncap,hca,hroom⟩ hxc;obtain⟨_,_,_,hfirst'⟩:=cells_run hr.drew hy hyc;obtain⟨vn,hvn,hvr⟩:=hfirst' k (Nat.le_refl _);rw[List.take_of_length_le (by omega)]at hvr;rw[List.take_of_length_le (by simp;omega)]at hvor;obtain⟨nc,rest,hnc,hrest,hrun⟩:=run_grow hts0 hts1 hs hbytes hbytes' hud hdk hcz (by omega) hb hlen hvo hvn T hszz;obtain⟨g1,g2⟩:=ghost_ok (k':=.dead) hr hc (.inl rfl)
   obtain⟨m',h0,h1,h2⟩:=alloc_row g1.drew (hvor.append hvr) (by rw[List.all_append,hoone,hone];rfl) rest e mu true (λ_=>rfl);have hlen0:(h.set b .dead).length=h.length:=by simp
   rw[hlen0]at h0;have hvl:=hvr.length;have hvol:=hvor.length;refine⟨_,_,m',hrun,⟨_,_,nc,h0,rfl,hnc,λ_=>rfl,?_⟩,h1,(g2.drew.trans h2 hr.dom)⟩;show 0+0+nc*i.size<=(vo++vn).length+rest.length;rw[List.length_append,hrest,hvl,hvol,hyl];have e1:nc*i.size=(n+k)*i.size+(nc-(n+k))*i.size:=by rw[<-Nat.add_mul];congr 1;omega
   rw[Nat.add_mul]at e1;simp;omega
 |full ys k b o n c hyc hk hb hsn hc hl=>
  subst hsn;obtain⟨en,ca,cap,hen,rfl,hncap,hca,hroom⟩:=hx;obtain⟨hlen,hyl,hone,hfirst⟩:=cells_run hr hy hyc;have hxc:cellsIn i.size h (.slice b o n i.size)=some ((c.drop o).take (n*i.size),n):=by simp[cellsIn,hc];omega
  have hdt:=drop_take_all hl;have hfull:cap<=n:=by
   obtain⟨_,_,_,_,_,_,_,hex⟩:=hr.blk b en _ hen hc;have he:=(hex (.inl rfl)).2 rfl;by_cases hle:cap<=n
   ·exact hle
   ·have h2:(n+1)*i.size<=cap*i.size:=Nat.mul_le_mul_right _ (by omega);rw[Nat.succ_mul]at h2;omega
  obtain⟨_,_,_,hfo⟩:=cells_run hr.drew (y:=.slice b o n i.size) ⟨en,ca,cap,hen,rfl,hncap,hca,hroom⟩ hxc;obtain⟨vo,hvo,hvor⟩:=hfo n (Nat.le_refl _);obtain⟨_,_,hoone,_⟩:=cells_run hr (y:=.slice b o n i.size) ⟨en,ca,cap,hen,rfl,hncap,hca,hroom⟩ hxc;obtain⟨_,_,_,hfirst'⟩:=cells_run hr.drew hy hyc;obtain⟨vn,hvn,hvr⟩:=hfirst' k (Nat.le_refl _);rw[List.take_of_length_le (by omega)]at hvr;rw[List.take_of_length_le (by simp;omega),hdt]at hvor;rw[hdt]at hoone;obtain⟨nc,rest,hnc,hrest,hrun⟩:=run_grow hts0 hts1 hs hbytes hbytes' hud hdk hcz (by omega) hb hlen hvo hvn T hszz;obtain⟨m',h0,h1,h2⟩:=alloc_row hr.drew (hvor.append hvr) (by simp[hoone,hone]) rest e true true (λ_=>rfl)
  have hvl:=hvr.length;have hvol:=hvor.length;refine⟨_,_,m',hrun,⟨_,_,nc,h0,rfl,hnc,λ_=>rfl,?_⟩,h1,h2.drew0⟩;show 0+0+nc*i.size<=(vo++vn).length+rest.length;rw[List.length_append,hrest,hvl,hvol,hyl];have e1:nc*i.size=(n+k)*i.size+(nc-(n+k))*i.size:=by rw[<-Nat.add_mul];congr 1;omega
  rw[Nat.add_mul]at e1;simp;omega
def sepless(n es cap:Nat)(h:n<=cap):n*es<=cap*es:=Nat.mul_le_mul_right _ h
def s_cpy{dT e:TypeId}{i:TypeInfo}{ts}(hts0:ts[0]? =some dT)(hs:sliceElem P dT=some (e,i))(hspos:0<i.size)
  (hr:HR P m h w) {x y}{cx cy}(hx:VR m (ρ x) cx) (hy:VR m (ρ y) cy) (hf:fnK (.cpy i.size x y) ρ h=some (v,h')) (T:TypeId):
  ∃cv w' m',(Builtin.copy_ ts T #[cx,cy]).run P w=.ok cv w'/\VR m' v cv/\HR P m' h' w'/\Grow m h w m' h' w':=by
 obtain⟨hu,hi⟩:=sliceElem_some hs;have hsize:∀w,(sizeOf e).run P w=.ok i.size w:=λw=>run_sizeOf' (by simp[sizeN,hi]) w
 simp only[fnK]at hf;split at hf
 ·rename_i b o n es' ys k hρx hyc;rw[hρx]at hx;obtain⟨en,ca,cap,hen,rfl,hncap,hca,hroom⟩:=hx;obtain⟨hlen,hyl,hone,hfirst⟩:=cells_run hr hy hyc;obtain⟨vn,hvn,hvr⟩:=hfirst (min k n) (Nat.min_le_left _ _);split at hf
  case isFalse=>cases hf
  rename_i hes;subst hes;have hmin:Nat.min k n=min k n:=rfl;split at hf
  ·rename_i h0;cases hf;have hvn0:vn=[]:=by rw[h0]at hvr;simp[VRs_nil]at hvr;exact hvr
   subst hvn0;refine⟨.int .i64 0,w,m,?_,rfl,hr,Grow.refl m h w hr.dom⟩;simp only[Builtin.copy_,hts0,List.getElem?_toArray,List.getElem?_cons_zero,List.getElem?_cons_succ,Sem.run_bind,run_underlying hu,Result.andThen_ok,hlen,hsize,hmin,hvn,Sem.run_pure,storeCells];simp[goInt,h0]
  ·rename_i h0;split at hf
   case h_2=>cases hf
   rename_i c tl hb;split at hf
   case isFalse=>cases hf
   rename_i hle;cases hf;have hxs:(ys.take (min k n*i.size)).all AV.one=true:=by
    rw[List.all_eq_true]at hone ⊢
    exactλa ha=>hone a (List.mem_of_mem_take ha)
   have hl1:(ys.take (min k n*i.size)).length=min k n*i.size:=by
    have:=sepless (min k n) i.size k (Nat.min_le_left _ _);simp;omega
   obtain⟨w',hst,h1,h2⟩:=storeN_ok (ys.take (min k n*i.size)) vn hr hen hb o 0 (by omega) hxs hvr;refine⟨.int .i64 (min k n:Nat),w',m,?_,rfl,h1,h2⟩;have hcae:=hca (by omega);subst hcae;simp only[Builtin.copy_,hts0,List.getElem?_toArray,List.getElem?_cons_zero,List.getElem?_cons_succ,Sem.run_bind,run_underlying hu,Result.andThen_ok,hlen,hsize,hmin,hvn,Sem.run_pure,hst,goInt]
 ·rename_i hρx hyc;rename_i p;obtain⟨ys,k⟩:=p;rw[hρx,VR]at hx;subst hx;cases hf;obtain⟨hlen,hyl,hone,hfirst⟩:=cells_run hr hy hyc;obtain⟨vn,hvn,hvr⟩:=hfirst 0 (Nat.zero_le _);have hmin:Nat.min k 0=0:=Nat.min_zero k;refine⟨.int .i64 0,w,m,?_,rfl,hr,Grow.refl m h w hr.dom⟩;simp only[Builtin.copy_,hts0,List.getElem?_toArray,List.getElem?_cons_zero,List.getElem?_cons_succ,Sem.run_bind,run_underlying hu,Result.andThen_ok,hlen,hsize,hmin,hvn,Sem.run_pure,goInt];rfl
 ·cases hf
end
end Go.Abs
namespace Go.Abs
section
variable {P:Program}{m:Emb}{h h':AHeap}{w:World}{ρ:Opd->AV}{v:AV}
theorem byte_run:∀{l}{vs}{bs},VRs m l vs->l.mapM byteOf=some bs->
  ∀(acc:ByteArray),(forIn (m:=Sem) vs acc λc s=>
    match c with
    |.int .u8 n=>pure (ForInStep.yield (s.push (UInt8.ofNat n.toNat)))
    |_=>do
     (stuck "bytesToString: byte expected" :Sem PUnit)
     pure (ForInStep.yield s)).run P w=.ok ⟨⟨acc.data.toList++bs⟩⟩ w
 |[],vs,bs,hv,hb,acc=>by
  rw[VRs_nil]at hv;subst hv;simp at hb;subst hb;simp
 |x::xs,vs,bs,hv,hb,acc=>by
  obtain⟨y,ys,rfl,hy,hys⟩:=VRs_cons.1 hv;simp only[List.mapM_cons,Option.bind_eq_bind,Option.pure_def]at hb;cases hx:byteOf x with
  |none=>simp[hx]at hb
  |some b=>
   cases hl:xs.mapM byteOf with
   |none=>simp[hx,hl]at hb
   |some bs'=>
    simp[hx,hl]at hb;subst hb;unfold byteOf at hx;split at hx
    case h_2=>cases hx
    rename_i n;cases hx;rw[VR]at hy;subst hy;have:=byte_run hys hl (acc.push (UInt8.ofNat n.toNat));simp only[List.forIn_cons,Sem.run_bind,Sem.run_pure,Result.andThen_ok];rw[this];simp[ByteArray.push]
def isU8_eq{e:TypeId}(h:isU8 P e=true):P.underlying e=some (.int .u8):=by
 unfold isU8 at h;split at h
 ·assumption
 ·cases h
def s_conv{s d:TypeId}{k x cx}(hk:convK P s d=some k)(hr:HR P m h w)(hx:VR m (ρ x) cx)(hf:fnK (.conv k x) ρ h=some (v,h')):
  ∃cv w' m',(convert s d cx).run P w=.ok cv w'/\VR m' v cv/\HR P m' h' w'/\Grow m h w m' h' w':=by
 simp only[fnK]at hf;have same:∀{cv:Value},(convert s d cx).run P w=.ok cv w->VR m v cv->h' =h->∃cv w' m',(convert s d cx).run P w=.ok cv w'/\VR m' v cv/\HR P m' h' w'/\Grow m h w m' h' w':=by
  intro cv h1 h2 h3;subst h3;exact⟨cv,w,m,h1,h2,hr,Grow.refl m _ w hr.dom⟩
 unfold convK at hk;split at hk
 ·rename_i k1 k2 hs hd;cases hk;simp only[convA]at hf;split at hf
  case h_2=>cases hf
  rename_i hρ;rw[hρ,VR]at hx;subst hx;cases hf;exact same (by simp[convert,run_underlying hs,run_underlying hd,Conv.intToInt]) rfl rfl
 ·rename_i k1 k2 hs hd;cases hk;simp only[convA]at hf;split at hf
  case h_2=>cases hf
  rename_i hρ;rw[hρ,VR]at hx;subst hx;cases hf;exact same (by simp[convert,run_underlying hs,run_underlying hd,Conv.intToFloat]) ⟨_,rfl,.inl rfl⟩ rfl
 ·rename_i k1 k2 hs hd;cases hk;simp only[convA]at hf;split at hf
  case h_2=>cases hf
  rename_i sk b hρ;rw[hρ]at hx;obtain⟨b',rfl,hfr⟩:=hx;split at hf
  case h_2=>cases hf
  rename_i n hn;split at hf
  case isFalse=>cases hf
  rename_i hc;cases hf;have hbb:b' =b:=by
   rcases hfr with h1|⟨h1,_⟩
   ·exact h1
   ·rw[hc.1]at h1;cases h1
  subst hbb;exact same (by simp[convert,run_underlying hs,run_underlying hd,Conv.floatToInt,hn,hc.2]) rfl rfl
 ·rename_i k1 k2 hs hd;cases hk;simp only[convA]at hf;split at hf
  case h_2=>cases hf
  rename_i sk b hρ;rw[hρ]at hx;obtain⟨b',rfl,hfr⟩:=hx;split at hf
  ·rename_i hc;cases hf;subst hc;exact same (by simp[convert,run_underlying hs,run_underlying hd,Conv.floatToFloat]) ⟨_,rfl,hfr⟩ rfl
  ·rename_i hc;by_cases hn:nanB sk b=true
   ·obtain⟨s1,t1,hd1⟩:=nan_read hn;obtain⟨s2,t2,hd2⟩:=nan_read (hfr.nan hn);have hd1:sk.decode b=.nan s1 t1:=hd1;have hd2:sk.decode b' =.nan s2 t2:=hd2;rw[hd1]at hf;cases hf;refine⟨.float k2 ((Question.nanConv k2 b').cut (w.tape w.drawn (.nanConv k2 b'))),w.drew,m,?_,⟨_,rfl,.inr ⟨qnan_nan k2,cut_nanC k2 b' _⟩⟩,hr.drew,(Grow.refl m h w hr.dom).drew⟩;simp[convert,run_underlying hs,run_underlying hd,Conv.floatToFloat,hc,hd2,Question.forced]
   ·have hbb:b' =b:=by
     rcases hfr with h1|⟨h1,_⟩
     ·exact h1
     ·exact absurd h1 hn
    subst hbb;split at hf
    ·rename_i s1 t1 hd1;exact absurd (by rw[nanB_isNaN];show(sk.decode b').isNaN=true;rw[hd1];rfl) hn
    ·rename_i s1 hd1;cases hf;exact same (by simp[convert,run_underlying hs,run_underlying hd,Conv.floatToFloat,hc,hd1]) ⟨_,rfl,.inl rfl⟩ rfl
    ·rename_i s1 u1 e1 hd1;split at hf
     ·cases hf
     ·rename_i hi;cases hf;exact same (by simp[convert,run_underlying hs,run_underlying hd,Conv.floatToFloat,hc,hd1,hi]) ⟨_,rfl,.inl rfl⟩ rfl
 ·rename_i hs hd;cases hk;simp only[convA]at hf;split at hf
  case h_2=>cases hf
  rename_i hρ;rw[hρ,VR]at hx;subst hx;cases hf;exact same (by simp[convert,run_underlying hs,run_underlying hd]) rfl rfl
 ·rename_i e hs hd;split at hk
  case isFalse=>cases hk
  rename_i he;have hue:P.underlying e=some (.int .u8):=isU8_eq he;cases hk;simp only[convA]at hf;split at hf
  case h_2=>cases hf
  rename_i s hρ;rw[hρ,VR]at hx;subst hx;cases hf;obtain⟨q,hq⟩:∃q:Question,q=.appendCap s.length 0 e:=⟨_,rfl⟩;obtain⟨nc,hncd⟩:∃nc:Nat,nc=q.cut (w.tape w.drawn q):=⟨_,rfl⟩;have hnc:s.length<=nc:=by rw[hncd,hq];show s.length<=s.length+_;omega
  have hchoose:(choose (.appendCap s.length 0 e)).run P w=.ok nc w.drew:=by
   rw[run_choose,hncd,hq];rfl
  let vs:List Value:=s.map λb=>.int .u8 b.toNat
  let rest:List Value:=List.replicate (nc-s.length) (.int .u8 0)
  have hvl:vs.length=s.length:=by simp[vs]
  have hrl:rest.length=nc-s.length:=by simp[rest]
  let W:World:=(w.drew.alloc (.cells ⟨vs++rest⟩ e))
  let W':World:=W.freeze ⟨w.heap.size,nc,none⟩ 1
  have hWh:W.heap[w.heap.size]? =some (.cells ⟨vs++rest⟩ e):=World.alloc_heap_new w.drew _;have hlt:w.heap.size<W.heap.size:=(Array.getElem?_eq_some_iff.1 hWh).1;have hW':W'.heap[w.heap.size]? =some (.cells ⟨vs++rest⟩ e (nc,nc+1)):=by
   have hk:W.heap[w.heap.size]=.cells ⟨vs++rest⟩ e:=(Array.getElem?_eq_some_iff.1 hWh).2;show((if(1:Nat)=0 then W else {W with heap:=W.heap.modify w.heap.size _}).heap)[w.heap.size]? =_;rw[if_neg (by omega)];show(W.heap.modify w.heap.size _)[w.heap.size]? =_;rw[Array.getElem?_eq_getElem (by rw[Array.size_modify];exact hlt),Array.getElem_modify_self,hk];rfl
  have hother:∀i,i≠w.heap.size->W'.heap[i]? =W.heap[i]? :=by
   intro i hi;show((if(1:Nat)=0 then W else {W with heap:=W.heap.modify w.heap.size _}).heap)[i]? =_;rw[if_neg (by omega)];show(W.heap.modify w.heap.size _)[i]? =_;rw[Array.getElem?_modify,if_neg (λx=>hi x.symm)]
  have hsize:W'.heap.size=W.heap.size:=by
   show((if(1:Nat)=0 then W else {W with heap:=W.heap.modify w.heap.size _}).heap).size=_;rw[if_neg (by omega)];simp
  obtain⟨m',h0,h1,h2⟩:=alloc_row hr.drew (map_u8_VRs m s) (map_u8_one s) rest e true true (λ_=>rfl);have h0':m' h.length=some ⟨w.heap.size,0,vs.length+rest.length,true⟩:=h0;have hne:∀b e2 k2,m' b=some e2->b≠h.length->(h++[.cells (s.map λb=>.int .u8 b.toNat) true true])[b]? =some k2->k2.live=true->e2.cb≠w.heap.size:=by
   intro b e2 k2 hb hbl hk2 hl hcb;have:=h1.sep h.length b _ e2 (.cells (s.map λb=>.int .u8 b.toNat) true true) k2 (λx=>hbl x.symm) h0' hb (by simp) hk2 hcb.symm;cases k2<;>first|exact absurd this.1 (by simp)|exact this|(cases hl;done)
  have hgrow:Grow m h w m' (h++[.cells (s.map λb=>.int .u8 b.toNat) true true]) W':=by
   have g:=h2.drew0;refine⟨g.ext,g.len,g.new,g.tl,by rw[hsize];exact g.size,?_,?_,?_,?_⟩
   ·exact g.os
   ·exact g.out
   ·exact g.tape
   ·intro i hi hno;rw[hother i (by omega)];exact g.frame i hi hno
  refine⟨.slice (some ⟨w.heap.size,0,none⟩) s.length nc,W',m',?_,⟨_,_,nc,h0',rfl,hnc,λ_=>rfl,by show 0+0+nc*1<=vs.length+rest.length;omega⟩,⟨h1.dom,?_,h1.sep,h1.glob,λb' e' hb'=>by have:=h1.lt b' e' hb';rw[hsize];exact this⟩,hgrow⟩
  ·have hsz:(⟨⟨s⟩⟩:ByteArray).size=s.length:=rfl;have hmap:(⟨s⟩:Array UInt8).map (λb=>Value.int .u8 b.toNat)=⟨vs⟩:=by apply Array.ext';simp[vs]
   have harr:(⟨vs⟩:Array Value)++Array.replicate (nc-s.length) (.int .u8 0)=⟨vs++rest⟩:=by apply Array.ext';simp[rest]
   have hshape:W.shape? w.heap.size=some (e,nc):=by
    simp only[World.shape?,hWh];simp[hvl,hrl];omega
   simp only[convert,Sem.run_bind,run_underlying hs,run_underlying hd,Result.andThen_ok,run_underlying hue,Conv.stringToBytes,hsz,hchoose,hmap,harr,newRow,run_newObj,Sem.run_pure];simp only[markStringish,Sem.run_bind,run_shape];have hs2:World.shape? {heap:=w.drew.heap.push (Obj.cells ⟨vs++rest⟩ e),tape:=w.drew.tape,drawn:=w.drew.drawn,os:=w.drew.os,output:=w.drew.output} w.drew.heap.size=some (e,nc):=hshape;simp only[hs2,Result.andThen_ok,run_freeze];rfl
  ·intro b e2 k2 hb hk2;have hb0:=h1.blk b e2 k2 hb hk2;by_cases hbl:b=h.length
   ·subst hbl;rw[h0']at hb;cases hb;simp at hk2;subst hk2;obtain⟨cc,el,fz,hh,h3,h4,h5,h6⟩:=hb0;have hWh':W.heap[w.heap.size]? =some (.cells cc el fz):=hh;rw[hWh]at hWh';cases hWh';refine⟨⟨vs++rest⟩,e,(nc,nc+1),hW',h3,h4,λ_=>⟨(h5 rfl).1,λi hi=>?_⟩,λ_=>⟨rfl,λz=>by cases z⟩⟩;have:(⟨vs++rest⟩:Array Value).size=nc:=by simp[hvl,hrl];omega
    simp only;omega
   ·by_cases hl:k2.live=true
    ·exact hb0.heap (hother _ (hne b e2 k2 hb hbl hk2 hl))
    ·cases k2<;>first|trivial|exact absurd rfl hl
 ·rename_i e hs hd;split at hk
  case isFalse=>cases hk
  rename_i he;have hue:P.underlying e=some (.int .u8):=isU8_eq he;cases hk;simp only[convA]at hf;split at hf
  ·rename_i hρ;rw[hρ,VR]at hx;subst hx;cases hf;exact same (by simp[convert,run_underlying hs,run_underlying hd,run_underlying hue,Conv.bytesToString];rfl) rfl rfl
  ·rename_i b o n es hρ;rw[hρ]at hx;split at hf
   case h_2=>cases hf
   rename_i l k hc;split at hf
   case h_2=>cases hf
   rename_i r hl;cases hf;obtain⟨hlen,hyl,hone,hfirst⟩:=cells_run hr hx hc;obtain⟨vs,hvs,hvr⟩:=hfirst k (Nat.le_refl _);rw[List.take_of_length_le (by omega)]at hvr;have hkn:k=n:=by
    unfold cellsIn at hc;simp only at hc;split at hc
    ·split at hc
     ·split at hc
      ·cases hc;rfl
      ·cases hc
     ·cases hc
    ·cases hc
   subst hkn;obtain⟨en,ca,cap,hen,rfl,hncap,hca,hroom⟩:=hx;simp only[Builtin.firstCells,Nat.mul_one]at hvs;refine same (cv:=.string ⟨⟨r⟩⟩) ?_ rfl rfl;have hb:=byte_run (P:=P) (w:=w) hvr hl ByteArray.empty;simp only[convert,Sem.run_bind,run_underlying hs,run_underlying hd,Result.andThen_ok,run_underlying hue,Conv.bytesToString,hvs];rw[<-Array.forIn_toList]
   erw [hb]
   simp
  ·cases hf
 ·cases hk
theorem fold_max:∀{l}{vs}{x v}{cx},VR m x cx->VRs m l vs->foldA max2A x l=some v->∃cv,(vs.foldlM (m:=Sem) Builtin.max2 cx).run P w=.ok cv w/\VR m v cv
 |[],vs,x,v,cx,hx,hl,hf=>by
  rw[VRs_nil]at hl;subst hl;cases hf;exact⟨cx,rfl,hx⟩
 |y::l,vs,x,v,cx,hx,hl,hf=>by
  obtain⟨cy,vs',rfl,hy,hl'⟩:=VRs_cons.1 hl;simp only[foldA]at hf;split at hf
  case h_2=>cases hf
  rename_i z hz;unfold max2A at hz;split at hz
  case h_2=>cases hz
  rename_i k a k' b;split at hz
  case isFalse=>cases hz
  cases hz;rw[VR]at hx hy;subst hx;subst hy;obtain⟨cv,h1,h2⟩:=fold_max (x:=.int k (if b > a then b else a)) (cx:=.int k (if b > a then b else a)) rfl hl' hf;exact⟨cv,by simp only[List.foldlM_cons,Sem.run_bind,Builtin.max2,Sem.run_pure,Result.andThen_ok];exact h1,h2⟩
theorem fold_min:∀{l}{vs}{x v}{cx},VR m x cx->VRs m l vs->foldA min2A x l=some v->∃cv,(vs.foldlM (m:=Sem) Builtin.min2 cx).run P w=.ok cv w/\VR m v cv
 |[],vs,x,v,cx,hx,hl,hf=>by
  rw[VRs_nil]at hl;subst hl;cases hf;exact⟨cx,rfl,hx⟩
 |y::l,vs,x,v,cx,hx,hl,hf=>by
  obtain⟨cy,vs',rfl,hy,hl'⟩:=VRs_cons.1 hl;simp only[foldA]at hf;split at hf
  case h_2=>cases hf
  rename_i z hz;unfold min2A at hz;split at hz
  case h_2=>cases hz
  rename_i k a k' b;split at hz
  case isFalse=>cases hz
  cases hz;rw[VR]at hx hy;subst hx;subst hy;obtain⟨cv,h1,h2⟩:=fold_min (x:=.int k (if b<a then b else a)) (cx:=.int k (if b<a then b else a)) rfl hl' hf;exact⟨cv,by simp only[List.foldlM_cons,Sem.run_bind,Builtin.min2,Sem.run_pure,Result.andThen_ok];exact h1,h2⟩
def s_bslice{t e:TypeId}{i:TypeInfo}{n:Nat}{z:AV}{ps:Array (Nat×Operand)}{l:List (Nat×Opd)}{σ:Operand->Value}(hs:sliceElem P t=some (e,i))(hz:zeroA P e=some z)
  (hl:ps.toList.mapM (λp=>(opd? p.2).map λy=>(p.1*i.size,y))=some l) (hspos:0<i.size) (hzs:z.cells.length=i.size) (h1:z.cells.all AV.one=true) (hn:n*i.size<=2^24)
  (hr:HR P m h w) (hρ:∀p∈ps.toList,∀y,opd? p.2=some y->VR m (ρ y) (σ p.2)) {c:List AV}(hf:fillA (zrep n z.cells) (l.map λp=>(p.1,i.size,ρ p.2))=some c) (hc1:c.all AV.one=true) (hcl:c.length=n*i.size) (mu tl:Bool):
  ∃cv w' m',(Instr.buildSlice t n (ps.map λ(i,x)=>(i,σ x))).run P w=.ok cv w'/\VR m' (.slice h.length 0 n i.size) cv/\HR P m' (h++[.cells c mu tl]) w'/\Grow m h w m' (h++[.cells c mu tl]) w':=by
 have _:=h1;obtain⟨hu,hi⟩:=sliceElem_some hs;obtain⟨cz,hcz,hvz⟩:=zeroA_run hz w m;have hzc:=hvz.cells;have hsz:cz.cells.size=z.cells.length:=by have:=hzc.length;simpa using this
 have hzero:∀(row:Array Value),row=(Array.range (n*cz.cells.size)).map (cz.cells[·% cz.cells.size]!)->VRs m (zrep n z.cells) row.toList:=by
  intro row hrow;have:=zeros_VRs hzc (by omega) n n (Nat.le_refl _);rw[<-hrow,List.take_of_length_le]at this
  ·exact this
  ·rw[hrow];simp[hsz]
 have hparts:∀(qs:List (Nat×Operand)) (l:List (Nat×Opd)),qs.mapM (λp=>(opd? p.2).map λy=>(p.1*i.size,y))=some l->qs.length=l.length/\∀(j:Nat) p q,qs[j]? =some p->l[j]? =some q->q.1=p.1*i.size/\opd? p.2=some q.2:=by
  intro qs
  induction qs with
  |nil=>intro l hl;simp at hl;subst hl;exact⟨rfl,λj p q hp=>by simp at hp⟩
  |cons p qs ih=>
   intro l hl;simp only[List.mapM_cons,Option.bind_eq_bind,Option.pure_def]at hl;cases ho:opd? p.2 with
   |none=>simp[ho]at hl
   |some y=>
    cases hr':qs.mapM (λp=>(opd? p.2).map λy=>(p.1*i.size,y))with
    |none=>simp[ho,hr']at hl
    |some l'=>
     simp[ho,hr']at hl;subst hl;obtain⟨h2,h3⟩:=ih l' hr';refine⟨by simp[h2],λj a b ha hb=>?_⟩;cases j with
     |zero=>simp at ha hb;subst ha;subst hb;exact⟨rfl,ho⟩
     |succ j=>exact h3 j a b (by simpa using ha) (by simpa using hb)
 obtain⟨hpl,hpq⟩:=hparts _ _ hl;by_cases hn0:n*i.size=0
 ·have hnz:n=0:=by
   rcases Nat.mul_eq_zero.1 hn0 with h|h
   ·exact h
   ·omega
  obtain⟨cc',hfill,hvs⟩:=fill_ok (m:=m) (λj=>some (j*i.size,i.size)) (ps.toList.map λp=>(p.1,σ p.2)) (l.map λp=>(p.1,i.size,ρ p.2)) (zrep n z.cells) #[] c (by simp[hpl])
   (λj p q hp hq=>by
    simp only[List.getElem?_map,Option.map_eq_some_iff]at hp hq;obtain⟨p0,hp0,rfl⟩:=hp;obtain⟨q0,hq0,rfl⟩:=hq;obtain⟨h2,h3⟩:=hpq j p0 q0 hp0 hq0;exact⟨by simp[h2],hρ p0 (List.mem_of_getElem? hp0) _ h3⟩) (by subst hnz;simp[zrep,VRs_nil]) hf
  obtain⟨m',h2,h3,h4⟩:=alloc_cells hr hvs hc1 e mu tl;have hvl:=hvs.length;refine⟨.slice (some ⟨w.heap.size,0,none⟩) n n,_,m',?_,⟨_,_,n,h2,rfl,Nat.le_refl _,λ_=>rfl,by show 0+0+n*i.size<=cc'.toList.length;omega⟩,h3,h4⟩;have hnb:¬(n*i.size > 2^24):=by omega
  have hsize:(sizeOf e).run P w=.ok i.size w:=run_sizeOf' (by simp[sizeN,hi]) w;have e0:(Array.range 0).map (λx=>(#[] :Array Value)[x%(#[] :Array Value).size]!)=#[]:=by simp
  simp only[Instr.buildSlice,Sem.run_bind,run_underlying hu,Result.andThen_ok,hsize,hnb,if_false];simp only[hn0,if_true,Sem.run_bind,Result.andThen_ok,Sem.run_pure,e0];have hmap:(ps.map λ(i,x)=>(i,σ x)).toList=ps.toList.map λp=>(p.1,σ p.2):=by simp
  rw[hmap,hfill];simp[newRow]
 ·obtain⟨cc',hfill,hvs⟩:=fill_ok (m:=m) (λj=>some (j*i.size,i.size)) (ps.toList.map λp=>(p.1,σ p.2)) (l.map λp=>(p.1,i.size,ρ p.2)) (zrep n z.cells) ((Array.range (n*i.size)).map (cz.cells[·% cz.cells.size]!)) c (by simp[hpl])
   (λj p q hp hq=>by
    simp only[List.getElem?_map,Option.map_eq_some_iff]at hp hq;obtain⟨p0,hp0,rfl⟩:=hp;obtain⟨q0,hq0,rfl⟩:=hq;obtain⟨h2,h3⟩:=hpq j p0 q0 hp0 hq0;exact⟨by simp[h2],hρ p0 (List.mem_of_getElem? hp0) _ h3⟩) (hzero _ (by rw[hsz,hzs])) hf
  obtain⟨m',h2,h3,h4⟩:=alloc_cells hr hvs hc1 e mu tl;have hvl:=hvs.length;refine⟨.slice (some ⟨w.heap.size,0,none⟩) n n,_,m',?_,⟨_,_,n,h2,rfl,Nat.le_refl _,λ_=>rfl,by show 0+0+n*i.size<=cc'.toList.length;omega⟩,h3,h4⟩;have hnb:¬(n*i.size > 2^24):=by omega
  have hsize:(sizeOf e).run P w=.ok i.size w:=run_sizeOf' (by simp[sizeN,hi]) w;simp only[Instr.buildSlice,Sem.run_bind,run_underlying hu,Result.andThen_ok,hsize,hnb,if_false,hn0,Sem.run_pure,hcz];have hmap:(ps.map λ(i,x)=>(i,σ x)).toList=ps.toList.map λp=>(p.1,σ p.2):=by simp
  rw[hmap,hfill];simp[newRow]
def eqGuard_agg{op}{t:TypeId}{x y xs ys}(hm:P.eqGuardType P.depth t=false):(eqGuard op t x y (.agg xs) (.agg ys)).run P w=.ok () w:=by
 cases op<;>simp[eqGuard,run_program,hm]
def eqGuard_ni{op}{t:TypeId}{x y a b}(h1:∀l,a≠.agg l)(h2:a≠.nilIface):(eqGuard op t x y a b).run P w=.ok () w:=by
 cases op<;>cases a<;>first
  |rfl
  |exact absurd rfl h2
  |exact absurd rfl (h1 _)
def VR.noAgg{x cx}(hx:VR m x cx)(h1:x.one=true):(∀l,cx≠.agg l)/\cx≠.nilIface:=by
 have hc:=hx.oneCell h1;refine⟨λl e=>?_,λe=>?_⟩
 ·subst e;cases hc
 ·subst e;cases x<;>simp[VR,AV.one]at hx h1
def run_eqS{t:TypeId}{e:TypeId}(hu:P.underlying t=some (.slice e)){x y cx cy b}(hx:VR m x cx)(hy:VR m y cy)(hb:eqS x y=some b)(d:Nat):
  (Op.equalIn (d+1) t cx cy).run P w=.ok b w/\(∀l,cx≠.agg l)/\cx≠.nilIface/\(binOp .eql t cx cy=do pure (.bool (<-Op.equal t cx cy)))/\(binOp .neq t cx cy=do pure (.bool (!(<-Op.equal t cx cy)))):=by
 unfold eqS at hb;split at hb
 ·rw[VR]at hx hy;subst hx;subst hy;cases hb;exact⟨by simp[Op.equalIn,run_underlying hu],λl=>by simp,by simp,rfl,rfl⟩
 ·rw[VR]at hx;obtain⟨_,ca,cap,_,rfl,_⟩:=hy;subst hx;cases hb;exact⟨by simp[Op.equalIn,run_underlying hu],λl=>by simp,by simp,rfl,rfl⟩
 ·rw[VR]at hy;obtain⟨_,ca,cap,_,rfl,_⟩:=hx;subst hy;cases hb;exact⟨by simp[Op.equalIn,run_underlying hu],λl=>by simp,by simp,rfl,rfl⟩
 ·cases hb
def run_eqP{t:TypeId}{e:TypeId}(hu:P.underlying t=some (.pointer e)){x y cx cy b}(hx:VR m x cx)(hy:VR m y cy)(hb:eqP x y=some b)(d:Nat):
  (Op.equalIn (d+1) t cx cy).run P w=.ok b w/\(∀l,cx≠.agg l)/\cx≠.nilIface/\(binOp .eql t cx cy=do pure (.bool (<-Op.equal t cx cy)))/\(binOp .neq t cx cy=do pure (.bool (!(<-Op.equal t cx cy)))):=by
 unfold eqP at hb;split at hb
 ·rw[VR]at hx hy;subst hx;subst hy;cases hb;exact⟨by simp[Op.equalIn,run_underlying hu],λl=>by simp,by simp,rfl,rfl⟩
 ·rw[VR]at hx;obtain⟨_,_,rfl⟩:=hy;subst hx;cases hb;exact⟨by simp[Op.equalIn,run_underlying hu],λl=>by simp,by simp,rfl,rfl⟩
 ·rw[VR]at hy;obtain⟨_,_,rfl⟩:=hx;subst hy;cases hb;exact⟨by simp[Op.equalIn,run_underlying hu],λl=>by simp,by simp,rfl,rfl⟩
 ·cases hb
def run_eqF{t:TypeId}{e f g}(hu:P.underlying t=some (.func e f g)){x y cx cy b}(hx:VR m x cx)(hy:VR m y cy)(hb:eqF x y=some b)(d:Nat):
  (Op.equalIn (d+1) t cx cy).run P w=.ok b w/\(∀l,cx≠.agg l)/\cx≠.nilIface/\(binOp .eql t cx cy=do pure (.bool (<-Op.equal t cx cy)))/\(binOp .neq t cx cy=do pure (.bool (!(<-Op.equal t cx cy)))):=by
 unfold eqF at hb;split at hb
 ·rw[VR]at hx hy;subst hx;subst hy;cases hb;exact⟨by simp[Op.equalIn,run_underlying hu],λl=>by simp,by simp,rfl,rfl⟩
 ·rw[VR]at hx;obtain⟨_,_,_,rfl,_⟩:=hy;subst hx;cases hb;exact⟨by simp[Op.equalIn,run_underlying hu],λl=>by simp,by simp,rfl,rfl⟩
 ·rw[VR]at hy;obtain⟨_,_,_,rfl,_⟩:=hx;subst hy;cases hb;exact⟨by simp[Op.equalIn,run_underlying hu],λl=>by simp,by simp,rfl,rfl⟩
 ·cases hb
def run_eqM{t:TypeId}{e f:TypeId}(hu:P.underlying t=some (.map e f)){x y cx cy b}(hx:VR m x cx)(hy:VR m y cy)(hb:eqM x y=some b)(d:Nat):
  (Op.equalIn (d+1) t cx cy).run P w=.ok b w/\(∀l,cx≠.agg l)/\cx≠.nilIface/\(binOp .eql t cx cy=do pure (.bool (<-Op.equal t cx cy)))/\(binOp .neq t cx cy=do pure (.bool (!(<-Op.equal t cx cy)))):=by
 unfold eqM at hb;split at hb
 ·rw[VR]at hx hy;subst hx;subst hy;cases hb;exact⟨by simp[Op.equalIn,run_underlying hu],λl=>by simp,by simp,rfl,rfl⟩
 ·rw[VR]at hx;obtain⟨_,_,rfl⟩:=hy;subst hx;cases hb;exact⟨by simp[Op.equalIn,run_underlying hu],λl=>by simp,by simp,rfl,rfl⟩
 ·rw[VR]at hy;obtain⟨_,_,rfl⟩:=hx;subst hy;cases hb;exact⟨by simp[Op.equalIn,run_underlying hu],λl=>by simp,by simp,rfl,rfl⟩
 ·cases hb
def run_eqI{t:TypeId}{e}(hu:P.underlying t=some (.interface e)){x y cx cy b}(hx:VR m x cx)(hy:VR m y cy)(hb:eqI x y=some b)(d:Nat):
  (Op.equalIn (d+1) t cx cy).run P w=.ok b w/\(binOp .eql t cx cy=do pure (.bool (<-Op.equal t cx cy)))/\(binOp .neq t cx cy=do pure (.bool (!(<-Op.equal t cx cy))))/\∀op ox c,(eqGuard op t ox (.const c) cx cy).run P w=.ok () w:=by
 unfold eqI at hb;split at hb
 ·rw[VR]at hx hy;subst hx;subst hy;cases hb;exact⟨by simp[Op.equalIn,run_underlying hu],rfl,rfl,λop ox c=>by cases op<;>simp[eqGuard]⟩
 ·rw[VR]at hy;obtain⟨_,_,rfl⟩:=hx;subst hy;cases hb;exact⟨by simp[Op.equalIn,run_underlying hu],rfl,rfl,λop ox c=>by cases op<;>rfl⟩
 ·rw[VR]at hy;obtain⟨_,rfl,_⟩:=hx;subst hy;cases hb;exact⟨by simp[Op.equalIn,run_underlying hu],rfl,rfl,λop ox c=>by cases op<;>rfl⟩
 ·cases hb
def s_eqv{t:TypeId}{neg k x y ox oy cx cy}(hoy:∀c,y=.c c->∃v,oy=.const v)(hk:eqK P neg t x y=some (.eqv neg k x y))(hx:VR m (ρ x) cx)(hy:VR m (ρ y) cy)(hf:fnK (.eqv neg k x y) ρ h=some (v,h')):
  ∃cv,(do eqGuard (if neg then .neq else .eql) t ox oy cx cy;binOp (if neg then .neq else .eql) t cx cy:Sem Value).run P w=.ok cv w/\VR m v cv/\h' =h:=by
 simp only[fnK]at hf;split at hf
 case h_2=>cases hf
 rename_i b hb;cases hf;have fin:(eqGuard (if neg then .neq else .eql) t ox oy cx cy).run P w=.ok () w->(Op.equalIn 10000 t cx cy).run P w=.ok b w->(binOp .eql t cx cy=do pure (.bool (<-Op.equal t cx cy)))->(binOp .neq t cx cy=do pure (.bool (!(<-Op.equal t cx cy))))->
   ∃cv,(do eqGuard (if neg then .neq else .eql) t ox oy cx cy;binOp (if neg then .neq else .eql) t cx cy:Sem Value).run P w=.ok cv w/\VR m (.bool (if neg then !b else b)) cv/\h=h:=by
  intro h1 h2 h3 h4;refine⟨.bool (if neg then !b else b),?_,rfl,rfl⟩;simp only[Sem.run_bind,h1,Result.andThen_ok];cases neg
  ·simp only[Bool.false_eq_true,if_false,h3,Sem.run_bind,Op.equal,Op.maxDepth,h2,Result.andThen_ok,Sem.run_pure]
  ·simp only[if_true,h4,Sem.run_bind,Op.equal,Op.maxDepth,h2,Result.andThen_ok,Sem.run_pure]
 unfold eqK at hk;split at hk<;>first
  |(cases hk;done)
  |skip
 ·rename_i hu;cases hk;have hb':eqCell .b (ρ x) (ρ y)=some b:=hb;have hone:(ρ x).one=true:=by unfold eqCell at hb';split at hb'<;>first|(cases hb';done)|simp_all [AV.one]
  obtain⟨n1,n2⟩:=hx.noAgg hone;obtain⟨a,c,hxa,hyc⟩:∃a c,ρ x=.bool a/\ρ y=.bool c:=by unfold eqCell at hb';split at hb'<;>first|(cases hb';done)|simp_all
  rw[hxa,VR]at hx;rw[hyc,VR]at hy;subst hx;subst hy;refine fin (eqGuard_ni n1 n2) ?_ rfl rfl;exact run_eqCell (m:=m) (t:=t) (k:=.b) hu (x:=.bool a) (y:=.bool c) rfl rfl (by rw[<-hxa,<-hyc];exact hb') 9999
 ·rename_i kk hu;cases hk;have hb':eqQ .c (ρ x) (ρ y)=some b:=hb;cases hxa:ρ x<;>rw[hxa]at hb'<;>first
   |(simp only[eqQ]at hb';cases hb';done)
   |skip
  cases hyc:ρ y<;>rw[hyc]at hb'<;>first
   |(simp only[eqQ]at hb';cases hb';done)
   |skip
  obtain⟨n1,n2⟩:=hx.noAgg (by rw[hxa];rfl);rw[hxa]at hx;rw[hyc]at hy;simp only[eqQ]at hb';split at hb'
  case isFalse=>cases hb'
  rename_i hkk;subst hkk;obtain⟨a1',a2',rfl,ha1,ha2⟩:=hx;obtain⟨c1',c2',rfl,hc1,hc2⟩:=hy;cases hb';have o1:=FR_order ha1 hc1;have o2:=FR_order ha2 hc2;refine⟨_,?_,rfl,rfl⟩;simp only[Sem.run_bind,eqGuard_ni n1 n2,Result.andThen_ok];cases neg<;>simp[binOp,Op.complexOp,Op.Complex.cmp,Op.floatCmp,asBool,o1,o2]
 ·rename_i fs hu;split at hk
  case isFalse=>cases hk
  rename_i hg;cases hfl:flat P 20 t with
  |none=>simp[hfl]at hk
  |some ks=>
   simp[hfl]at hk;subst hk;have hb':eqAgg ks (ρ x) (ρ y)=some b:=hb;unfold eqAgg at hb';split at hb'
   case h_2=>cases hb'
   rename_i xs ys hxa hyc;rw[hxa]at hx;rw[hyc]at hy;obtain⟨lx,rfl,hlx⟩:=hx;obtain⟨ly,rfl,hly⟩:=hy;split at hb'
   case isFalse=>cases hb'
   rename_i hlen;refine fin (eqGuard_agg hg) ?_ rfl rfl;exact run_flat 20 t ks hfl 10000 (by omega) _ hu xs ys lx ly b hlen.1 hlen.2 hlx hly hb' w
 ·rename_i n e hu;split at hk
  case isFalse=>cases hk
  rename_i hg;cases hfl:flat P 20 t with
  |none=>simp[hfl]at hk
  |some ks=>
   simp[hfl]at hk;subst hk;have hb':eqAgg ks (ρ x) (ρ y)=some b:=hb;unfold eqAgg at hb';split at hb'
   case h_2=>cases hb'
   rename_i xs ys hxa hyc;rw[hxa]at hx;rw[hyc]at hy;obtain⟨lx,rfl,hlx⟩:=hx;obtain⟨ly,rfl,hly⟩:=hy;split at hb'
   case isFalse=>cases hb'
   rename_i hlen;refine fin (eqGuard_agg hg) ?_ rfl rfl;exact run_flat 20 t ks hfl 10000 (by omega) _ hu xs ys lx ly b hlen.1 hlen.2 hlx hly hb' w
 ·rename_i e hu;cases hk;obtain⟨h1,h2,h3,h4,h5⟩:=run_eqS (w:=w) hu hx hy hb 9999;exact fin (eqGuard_ni h2 h3) h1 h4 h5
 ·rename_i e hu;rcases eqPK_or hk with q|q
  case inr=>cases q.1
  cases q;obtain⟨h1,h2,h3,h4,h5⟩:=run_eqP (w:=w) hu hx hy hb 9999;exact fin (eqGuard_ni h2 h3) h1 h4 h5
 ·rename_i hu;cases hk;obtain⟨h1,h2,h3,h4,h5⟩:=run_eqF (w:=w) hu hx hy hb 9999;exact fin (eqGuard_ni h2 h3) h1 h4 h5
 ·rename_i hu;cases hk;obtain⟨h1,h2,h3,h4,h5⟩:=run_eqM (w:=w) hu hx hy hb 9999;exact fin (eqGuard_ni h2 h3) h1 h4 h5
 ·rename_i hu;obtain⟨e1,e2⟩:=eqIK_some hk;cases e2;obtain⟨c,rfl⟩:=hoy _ e1;obtain⟨h1,h2,h3,h4⟩:=run_eqI (w:=w) hu hx hy hb 9999;exact fin (h4 _ _ _) h1 h2 h3
def run_sameAddr{a b:Addr}{c1 c2:Array Value}{l1 l2:TypeId}{f1 f2:Nat×Nat}(h1:w.heap[a.block]? =some (.cells c1 l1 f1))(h2:w.heap[b.block]? =some (.cells c2 l2 f2))(n1:∀i,i<c1.size->¬(f1.1<=i/\i<f1.2))(m1:¬(f1.1<=c1.size/\c1.size<f1.2))(n2:∀i,i<c2.size->¬(f2.1<=i/\i<f2.2))(m2:¬(f2.1<=c2.size/\c2.size<f2.2))(o1:a.off<c1.size)(o2:b.off<c2.size):
  (sameAddr a b).run P w=.ok (decide (a=b)) w:=by
 have fa:w.frozen? a=false:=by
  have:=frozen_false (i:=a.off) h1 (n1 _ o1);exact this
 have sa:w.shape? a.block=some (l1,c1.size):=by simp[World.shape?,h1]
 have sb:w.shape? b.block=some (l2,c2.size):=by simp[World.shape?,h2]
 have fe:w.frozen? {block:=a.block,off:=c1.size} =false:=frozen_false (i:=c1.size) h1 m1;have fb:w.frozen? b=false:=frozen_false (i:=b.off) h2 (n2 _ o2);have fe2:w.frozen? {block:=b.block,off:=c2.size} =false:=frozen_false (i:=c2.size) h2 m2;by_cases hb:a.block=b.block
 ·simp[sameAddr,hb];rfl
 ·have hne:a≠b:=λe=>hb (by rw[e])
  simp[sameAddr,hb,frozen,Sem.run,noView,viewAt,shape,mayBeOne,stringish,fa,sa,sb,fe,fb,fe2,hne]
def s_eqp{t e:TypeId}{neg x y ox oy cx cy}(hu:P.underlying t=some (.pointer e))(nz:nzT P e=true)(hr:HR P m h w)(hx:VR m (ρ x) cx)(hy:VR m (ρ y) cy)(hf:fnK (.eqp neg x y) ρ h=some (v,h')):
  ∃cv,(do eqGuard (if neg then .neq else .eql) t ox oy cx cy;binOp (if neg then .neq else .eql) t cx cy:Sem Value).run P w=.ok cv w/\VR m v cv/\h' =h:=by
 simp only[fnK]at hf;split at hf
 case h_2=>cases hf
 rename_i b o b' o' hxa hya;split at hf
 case h_2=>cases hf
 rename_i c1 c2 hb1 hb2;split at hf
 case isFalse=>cases hf
 rename_i hoff;cases hf;rw[hxa]at hx;rw[hya]at hy;obtain⟨e1,he1,rfl⟩:=hx;obtain⟨e2,he2,rfl⟩:=hy;have key:decide (b=b'/\o=o')=decide ((⟨e1.cb,o+e1.d,none⟩:Addr)=⟨e2.cb,o'+e2.d,none⟩):=by
  refine decide_eq_decide.2 ⟨?_,λq=>?_⟩
  ·rintro⟨rfl,rfl⟩;rw[he1]at he2;cases he2;rfl
  ·simp only[Addr.mk.injEq,and_true]at q;obtain⟨q1,q2⟩:=q;by_cases hbb:b=b'
   ·subst hbb;rw[he1]at he2;cases he2;exact⟨rfl,by omega⟩
   ·have:=hr.sep b b' e1 e2 _ _ hbb he1 he2 hb1 hb2 q1;exact absurd this.1 (by simp)
 obtain⟨i,hi,hsz⟩:∃i,P.info? e=some i/\i.size≠0:=by
  unfold nzT at nz;split at nz
  ·rename_i i hi;exact⟨i,hi,λz=>by rw[z]at nz;cases nz⟩
  ·cases nz
 obtain⟨cc1,el1,fz1,q1,⟨q2,_,_⟩,_,q3,q4⟩:=hr.blk b e1 _ he1 hb1;obtain⟨cc2,el2,fz2,r1,⟨r2,_,_⟩,_,r3,r4⟩:=hr.blk b' e2 _ he2 hb2;have hsa:=run_sameAddr (P:=P) (a:=⟨e1.cb,o+e1.d,none⟩) (b:=⟨e2.cb,o'+e2.d,none⟩) q1 r1 (q3 (q4 (.inl rfl)).1).2 (by rw[(q3 (q4 (.inl rfl)).1).1];exact((q4 (.inl rfl)).2 rfl).2) (r3 (r4 (.inl rfl)).1).2 (by rw[(r3 (r4 (.inl rfl)).1).1];exact((r4 (.inl rfl)).2 rfl).2) (by show o+e1.d<_;omega) (by show o'+e2.d<_;omega);rw[<-key]at hsa;have h2:∀d,(Op.equalIn (d+1) t (.pointer (some ⟨e1.cb,o+e1.d,none⟩)) (.pointer (some ⟨e2.cb,o'+e2.d,none⟩))).run P w=.ok (decide (b=b'/\o=o')) w:=λd=>by
  simp[Op.equalIn,run_underlying hu,sizeOf,typeInfo,program,Sem.run,hi,hsz,hsa]
 have g1:(eqGuard (if neg then .neq else .eql) t ox oy (.pointer (some ⟨e1.cb,o+e1.d,none⟩)) (.pointer (some ⟨e2.cb,o'+e2.d,none⟩))).run P w=.ok () w:=eqGuard_ni (λl=>by simp) (by simp);refine⟨.bool (if neg then !decide (b=b'/\o=o')else decide (b=b'/\o=o')),?_,rfl,rfl⟩;simp only[Sem.run_bind,g1,Result.andThen_ok];cases neg
 ·show(do pure (Value.bool (<-Op.equal t _ _)):Sem Value).run P w=_;simp only[Sem.run_bind,Op.equal,Op.maxDepth,h2,Result.andThen_ok,Sem.run_pure,Bool.false_eq_true,if_false]
 ·show(do pure (Value.bool (!(<-Op.equal t _ _))):Sem Value).run P w=_;simp only[Sem.run_bind,Op.equal,Op.maxDepth,h2,Result.andThen_ok,Sem.run_pure,if_true]
end
end Go.Abs
namespace Go.Abs
def StepN(k:OpK)(ρ:Opd->AV)(h:AHeap)(v:AV)(h':AHeap):Prop:=
 match k with
 |.call _ _=>False
 |.app es w x y=>AppR es w (ρ x) (ρ y) h v h'
 |.bslice es n z ps=>∃c mu tl,fillA (zrep n z) (ps.map λp=>(p.1,es,ρ p.2))=some c/\c.all AV.one=true/\c.length=n*es/\v=.slice h.length 0 n es/\h' =h++[.cells c mu tl]
 |k=>fnK k ρ h=some (v,h')
section
variable {P:Program}{m:Emb}{h h':AHeap}{w:World}{ρ:Opd->AV}{v:AV}{σ:Operand->Value}
def Post.val1{r:Result Value}(hr:HR P m h w)(hx:∃cv,r=.ok cv w/\VR m v cv/\h' =h){R:Result Next}(hR:∀cv,r=.ok cv w->R=.ok (.value cv) w):Post P m h w v h' R:=by
 obtain⟨cv,h1,h2,rfl⟩:=hx;exact Post.same hr h2 (hR cv h1)
def Post.val2{r:Result Value}(hx:∃cv w' m',r=.ok cv w'/\VR m' v cv/\HR P m' h' w'/\Grow m h w m' h' w'){R:Result Next}(hR:∀cv w',r=.ok cv w'->R=.ok (.value cv) w'):Post P m h w v h' R:=by
 obtain⟨cv,w',m',h1,h2,h3,h4⟩:=hx;exact⟨cv,w',m',.inl (hR cv w' h1),h2,h3,h4⟩
def opds_VRs{l l'}(hl:opds? l=some l')(hρ:∀x∈l,∀x',opd? x=some x'->VR m (ρ x') (σ x)):VRs m (l'.map ρ) (l.map σ).toList:=by
 have key:∀(l:List Operand) (l':List Opd),l.mapM opd? =some l'->(∀x∈l,∀x',opd? x=some x'->VR m (ρ x') (σ x))->VRs m (l'.map ρ) (l.map σ):=by
  intro l
  induction l with
  |nil=>intro l' h _;simp at h;subst h;exact VRs_nil.2 rfl
  |cons x l ih=>
   intro l' h hρ;simp only[List.mapM_cons,Option.bind_eq_bind,Option.pure_def]at h;cases hx:opd? x with
   |none=>simp[hx]at h
   |some y=>
    cases hl:l.mapM opd? with
    |none=>simp[hx,hl]at h
    |some l2=>
     simp[hx,hl]at h;subst h;exact VRs_cons.2 ⟨_,_,rfl,hρ x (by simp) y hx,ih l2 hl (λx' hx'=>hρ x' (by simp[hx']))⟩
 have:=key l.toList l' hl (λx hx=>hρ x (by simpa using hx))
 simpa using this
def opdo_match{lo lo'}(hl:opdo? lo=some lo')(hρ:∀x∈lo,∀x',opd? x=some x'->VR m (ρ x') (σ x)):
  OptVR m ρ lo' (lo.map σ):=by
 cases lo with
 |none=>simp[opdo?]at hl;subst hl;trivial
 |some x=>
  simp only[opdo?,Option.map_eq_some_iff]at hl;obtain⟨y,hy,rfl⟩:=hl;exact hρ x rfl y hy
def s_bin{op}{t:TypeId}{x y ox oy cx cy}(hr:HR P m h w)(hx:VR m (ρ x) cx)(hy:VR m (ρ y) cy)(hf:fnK (.bin op x y) ρ h=some (v,h')):
  ∃cv w' m',(do eqGuard op t ox oy cx cy;binOp op t cx cy:Sem Value).run P w=.ok cv w'/\VR m' v cv/\HR P m' h' w'/\Grow m h w m' h' w':=by
 simp only[fnK]at hf;split at hf
 case h_2=>cases hf
 rename_i u hu;cases hf;have fin:∀{cv:Value},(eqGuard op t ox oy cx cy).run P w=.ok () w->(binOp op t cx cy).run P w=.ok cv w->VR m v cv->
   ∃cv w' m',(do eqGuard op t ox oy cx cy;binOp op t cx cy:Sem Value).run P w=.ok cv w'/\VR m' v cv/\HR P m' h w'/\Grow m h w m' h w':=by
  intro cv h1 h2 h3;exact⟨cv,w,m,by simp only[Sem.run_bind,h1,Result.andThen_ok,h2],h3,hr,Grow.refl m h w hr.dom⟩
 unfold binK at hu;split at hu
 ·rename_i k a k' b hρx hρy;rw[hρx,VR]at hx;rw[hρy,VR]at hy;subst hx;subst hy;have hg:(eqGuard op t ox oy (.int k a) (.int k' b)).run P w=.ok () w:=eqGuard_ni (λl=>by simp) (by simp);split at hu
  ·rename_i hs;obtain⟨cv,h1,h2⟩:=run_shiftK (P:=P) (m:=m) (w:=w) (k':=k') hs hu t;exact fin hg h1 h2
  ·rename_i hs;split at hu
   case isFalse=>cases hu
   rename_i hk;subst hk;obtain⟨cv,h1,h2⟩:=run_intBin (P:=P) (m:=m) (w:=w) (by simpa using hs) hu t;exact fin hg h1 h2
 ·rename_i a b hρx hρy;rw[hρx,VR]at hx;rw[hρy,VR]at hy;subst hx;subst hy;obtain⟨cv,h1,h2⟩:=run_strBin (P:=P) (m:=m) (w:=w) hu t;exact fin (eqGuard_ni (λl=>by simp) (by simp)) h1 h2
 ·rename_i k a k' b hρx hρy;rw[hρx]at hx;rw[hρy]at hy;obtain⟨a',rfl,ha⟩:=hx;obtain⟨b',rfl,hb⟩:=hy;split at hu
  case isFalse=>cases hu
  rename_i hk;subst hk;rw[<-fltBin_FR ha hb]at hu;obtain⟨cv,w',h1,h2,h3⟩:=run_fltBin hu hr t;have hg:(eqGuard op t ox oy (.float k a') (.float k b')).run P w=.ok () w:=eqGuard_ni (λl=>by simp) (by simp);rcases h3 with rfl|rfl
  ·exact fin hg h1 h2
  ·exact⟨cv,w.drew,m,by simp only[Sem.run_bind,hg,Result.andThen_ok,h1],h2,hr.drew,(Grow.refl m h w hr.dom).drew⟩
 ·rename_i k a b k' a2 b2 hρx hρy;rw[hρx]at hx;rw[hρy]at hy;obtain⟨x1,x2,rfl,hx1,hx2⟩:=hx;obtain⟨y1,y2,rfl,hy1,hy2⟩:=hy;split at hu
  case isFalse=>cases hu
  rename_i hk;subst hk;unfold cxBin at hu;split at hu
  case h_2=>cases hu
  rename_i r s hr1 hs1;cases hu;have nn:∀{p q u:Nat},k.format.add p q=some u->¬(nanB k p=true\/nanB k q=true):=λhp hn=>by
   unfold Ieee.Format.add at hp;rw[nan_sum (nan_or hn)]at hp;cases hp
  have ex:∀{p q p' q' u:Nat},k.format.add p q=some u->FR k p p'->FR k q q'->p' =p/\q' =q:=λhp f1 f2=>by
   rcases f1 with rfl|⟨n1,_⟩
   ·rcases f2 with rfl|⟨n2,_⟩
    ·exact⟨rfl,rfl⟩
    ·exact absurd (.inr n2) (nn hp)
   ·exact absurd (.inl n1) (nn hp)
  obtain⟨rfl,rfl⟩:=ex hr1 hx1 hy1;obtain⟨rfl,rfl⟩:=ex hs1 hx2 hy2;exact fin (cv:=.complex k r s) (eqGuard_ni (λl=>by simp) (by simp)) (by simp[binOp,Op.complexOp,Op.Complex.arith,Op.floatArith,hr1,hs1]) (by rw[VR];exact⟨_,_,rfl,.inl rfl,.inl rfl⟩)
 ·cases hu
def builtin_sound{b ts l k cargs}(hk:builtinK P b ts l=some k)(hargs:VRs m (l.map ρ) cargs.toList)(hr:HR P m h w)(hs:StepN k ρ h v h')(T:TypeId)(cs:Array Bool):
  ∃cv w' m',(builtin b ts T cs cargs).run P w=.ok (.value cv) w'/\VR m' v cv/\HR P m' h' w'/\Grow m h w m' h' w':=by
 have same:∀{cv:Value},(builtin b ts T cs cargs).run P w=.ok (.value cv) w->VR m v cv->h' =h->∃cv w' m',(builtin b ts T cs cargs).run P w=.ok (.value cv) w'/\VR m' v cv/\HR P m' h' w'/\Grow m h w m' h' w':=by
  intro cv h1 h2 h3;subst h3;exact⟨cv,w,m,h1,h2,hr,Grow.refl m _ w hr.dom⟩
 have args1:∀{x:Opd},VRs m [ρ x] cargs.toList->∃cx,cargs=#[cx]/\VR m (ρ x) cx:=by
  intro x h1;obtain⟨cx,r,hcx,hvx,hr0⟩:=VRs_cons.1 h1;rw[VRs_nil]at hr0;subst hr0;exact⟨cx,by apply Array.ext';rw[hcx],hvx⟩
 have args2:∀{x y:Opd},VRs m [ρ x,ρ y] cargs.toList->∃cx cy,cargs=#[cx,cy]/\VR m (ρ x) cx/\VR m (ρ y) cy:=by
  intro x y h1;obtain⟨cx,r,hcx,hvx,hr0⟩:=VRs_cons.1 h1;obtain⟨cy,r',hcy,hvy,hr1⟩:=VRs_cons.1 hr0;rw[VRs_nil]at hr1;subst hr1;subst hcy;exact⟨cx,cy,by apply Array.ext';rw[hcx],hvx,hvy⟩
 unfold builtinK at hk;split at hk
 ·
  rename_i x;obtain⟨cx,rfl,hx⟩:=args1 hargs;have lenF:∀(lk:LK) (t0:TypeId) (d:TypeDesc),ts[0]? =some t0->P.underlying t0=some d->(match lk with|.sl=>∃e,d=.slice e|.st=>d=.string|.mp=>∃a b,d=.map a b)->fnK (.len lk x) ρ h=some (v,h')->
    ∃cv w' m',(builtin .len ts T cs #[cx]).run P w=.ok (.value cv) w'/\VR m' v cv/\HR P m' h' w'/\Grow m h w m' h' w':=by
   intro lk t0 d ht0 hu hd hs';simp only[fnK]at hs';split at hs'
   case h_2=>cases hs'
   rename_i n hn;cases hs';have go:(Builtin.len_ ts T #[cx]).run P w=.ok (.int .i64 n) w:=by
    unfold lenA at hn;split at hn
    ·rename_i s hρ;rw[hρ,VR]at hx;subst hx;split at hn
     case isFalse=>cases hn
     rename_i hlk;subst hlk;cases hn;cases hd;have:(⟨⟨s⟩⟩:ByteArray).size=s.length:=rfl;simp[Builtin.len_,ht0,run_underlying hu,goInt,this]
    ·rename_i b o n' es hρ;rw[hρ]at hx;obtain⟨_,ca,cap,_,rfl,_⟩:=hx;split at hn
     case isFalse=>cases hn
     rename_i hlk;subst hlk;cases hn;obtain⟨e,rfl⟩:=hd;simp[Builtin.len_,ht0,run_underlying hu,goInt]
    ·rename_i hρ;rw[hρ,VR]at hx;subst hx;split at hn
     case isFalse=>cases hn
     rename_i hlk;subst hlk;cases hn;obtain⟨e,rfl⟩:=hd;simp[Builtin.len_,ht0,run_underlying hu,goInt]
    ·rename_i r hρ;rw[hρ]at hx;obtain⟨e,he,rfl⟩:=hx;split at hn
     case h_2=>cases hn
     rename_i es hb;split at hn
     case isFalse=>cases hn
     rename_i hlk;subst hlk;cases hn;obtain⟨a,b,rfl⟩:=hd;obtain⟨_,ces,clock,hheap,hlen,_⟩:=hr.blk r e _ he hb;simp[Builtin.len_,ht0,run_underlying hu,goInt,run_getObj hheap rfl,hlen]
    ·rename_i hρ;rw[hρ,VR]at hx;subst hx;split at hn
     case isFalse=>cases hn
     rename_i hlk;subst hlk;cases hn;obtain⟨a,b,rfl⟩:=hd;simp[Builtin.len_,ht0,run_underlying hu,goInt]
    ·cases hn
   exact⟨.int .i64 n,w,m,by simp only[builtin,Sem.run_bind,go,Result.andThen_ok,Sem.run_pure],rfl,hr,Grow.refl m h w hr.dom⟩
  split at hk
  ·rename_i e hd;cases hk;obtain⟨t0,ht0,hu0⟩:=Option.bind_eq_some_iff.1 hd;exact lenF .sl t0 _ ht0 hu0 ⟨e,rfl⟩ hs
  ·rename_i hd;cases hk;obtain⟨t0,ht0,hu0⟩:=Option.bind_eq_some_iff.1 hd;exact lenF .st t0 _ ht0 hu0 rfl hs
  ·rename_i a b hd;cases hk;obtain⟨t0,ht0,hu0⟩:=Option.bind_eq_some_iff.1 hd;exact lenF .mp t0 _ ht0 hu0 ⟨a,b,rfl⟩ hs
  ·rename_i n e hd;cases hk;obtain⟨t0,ht0,hu0⟩:=Option.bind_eq_some_iff.1 hd;have hs':fnK (.lenc n) ρ h=some (v,h'):=hs;simp only[fnK,Option.some.injEq,Prod.mk.injEq]at hs';obtain⟨rfl,rfl⟩:=hs';exact same (cv:=.int .i64 n) (by simp[builtin,Builtin.len_,ht0,run_underlying hu0,goInt]) rfl rfl
  ·cases hk
 ·
  rename_i x y;obtain⟨cx,cy,rfl,hx,hy⟩:=args2 hargs;have appF:∀(e:TypeId) (i:TypeInfo) (d:TypeDesc),(ts[0]?).bind (sliceElem P)=some (e,i)->(ts[1]?).bind P.underlying=some d->(∀k,d≠.int k)->
    (if 0<i.size/\0<i.bytes/\i.bytes<=2^20 then(i.zero.bind (absV 4)).bind λz=>if z.cells.length=i.size then some (OpK.app i.size i.bytes x y)else none else none)=some k->
    ∃cv w' m',(builtin .append ts T cs #[cx,cy]).run P w=.ok (.value cv) w'/\VR m' v cv/\HR P m' h' w'/\Grow m h w m' h' w':=by
   intro e i d h0 h1 hd hk;obtain⟨sT,hts0,hsl⟩:=Option.bind_eq_some_iff.1 h0;obtain⟨xT,hts1,hud⟩:=Option.bind_eq_some_iff.1 h1;split at hk
   case isFalse=>cases hk
   rename_i hc;obtain⟨c1,c2,c3⟩:=hc;obtain⟨z,hz,hk⟩:=Option.bind_eq_some_iff.1 hk;split at hk
   case isFalse=>cases hk
   rename_i hzl;cases hk;obtain⟨cv,w',m',h2,h3,h4,h5⟩:=s_app (w:=w) hts0 hts1 hsl c1 c2 c3 hud hd hz hzl hr hx hy hs T;exact⟨cv,w',m',by simp only[builtin,Sem.run_bind,h2,Result.andThen_ok,Sem.run_pure],h3,h4,h5⟩
  split at hk
  ·rename_i e i e2 h0 h1;exact appF e i _ h0 h1 (λk=>by simp) hk
  ·rename_i e i h0 h1;exact appF e i _ h0 h1 (λk=>by simp) hk
  ·cases hk
 ·
  rename_i x y;obtain⟨cx,cy,rfl,hx,hy⟩:=args2 hargs;split at hk
  case h_2=>cases hk
  rename_i e i h0;split at hk
  case isFalse=>cases hk
  rename_i hpos;cases hk;obtain⟨dT,hts0,hsl⟩:=Option.bind_eq_some_iff.1 h0;obtain⟨cv,w',m',h2,h3,h4,h5⟩:=s_cpy (w:=w) hts0 hsl hpos hr hx hy hs T;exact⟨cv,w',m',by simp only[builtin,Sem.run_bind,h2,Result.andThen_ok,Sem.run_pure],h3,h4,h5⟩
 ·
  rename_i x l;cases hk;have hs':fnK (.mx x l) ρ h=some (v,h'):=hs;simp only[fnK]at hs';split at hs'
  case h_2=>cases hs'
  rename_i u hu;cases hs';obtain⟨cx,r,hcx,hvx,hvr⟩:=VRs_cons.1 hargs;obtain⟨cv,h1,h2⟩:=fold_max (P:=P) (w:=w) hvx hvr hu;exact same (by simp only[builtin,Builtin.max_,hcx,Sem.run_bind,h1,Result.andThen_ok,Sem.run_pure]) h2 rfl
 ·
  rename_i x l;cases hk;have hs':fnK (.mn x l) ρ h=some (v,h'):=hs;simp only[fnK]at hs';split at hs'
  case h_2=>cases hs'
  rename_i u hu;cases hs';obtain⟨cx,r,hcx,hvx,hvr⟩:=VRs_cons.1 hargs;obtain⟨cv,h1,h2⟩:=fold_min (P:=P) (w:=w) hvx hvr hu;exact same (by simp only[builtin,Builtin.min_,hcx,Sem.run_bind,h1,Result.andThen_ok,Sem.run_pure]) h2 rfl
 ·
  rename_i x y;cases hk;obtain⟨cx,cy,rfl,hx,hy⟩:=args2 hargs;have hs':fnK (.cpx x y) ρ h=some (v,h'):=hs;simp only[fnK]at hs';split at hs'
  case h_2=>cases hs'
  rename_i k a k' b hρx hρy;split at hs'
  case isFalse=>cases hs'
  rename_i hkk;subst hkk;cases hs';rw[hρx]at hx;rw[hρy]at hy;obtain⟨a',rfl,ha⟩:=hx;obtain⟨b',rfl,hb⟩:=hy;have e:Builtin.complex_ ts T #[.float k a',.float k b']=pure (.complex k a' b'):=if_pos rfl;exact same (by simp only[builtin,e,Sem.run_bind,Sem.run_pure,Result.andThen_ok]) ⟨_,_,rfl,ha,hb⟩ rfl
 ·
  rename_i x;cases hk;obtain⟨cx,rfl,hx⟩:=args1 hargs;have hs':fnK (.conv .cre x) ρ h=some (v,h'):=hs;simp only[fnK,convA]at hs';split at hs'
  case h_2=>cases hs'
  rename_i k a b hρx;cases hs';rw[hρx]at hx;obtain⟨a',b',rfl,ha,hb⟩:=hx;have e:Builtin.real_ ts T #[.complex k a' b']=pure (.float k a'):=rfl;exact same (by simp only[builtin,e,Sem.run_bind,Sem.run_pure,Result.andThen_ok]) ⟨_,rfl,ha⟩ rfl
 ·
  rename_i x;cases hk;obtain⟨cx,rfl,hx⟩:=args1 hargs;have hs':fnK (.conv .cim x) ρ h=some (v,h'):=hs;simp only[fnK,convA]at hs';split at hs'
  case h_2=>cases hs'
  rename_i k a b hρx;cases hs';rw[hρx]at hx;obtain⟨a',b',rfl,ha,hb⟩:=hx;have e:Builtin.imag_ ts T #[.complex k a' b']=pure (.float k b'):=rfl;exact same (by simp only[builtin,e,Sem.run_bind,Sem.run_pure,Result.andThen_ok]) ⟨_,rfl,hb⟩ rfl
 ·cases hk
def step_sound{o:Oper}{k:OpK}(hc:compileK P o=some k)(hρ:∀x∈o.op.operands,∀x',opd? x=some x'->VR m (ρ x') (σ x))(hcst:∀z,ρ (.c z)=z)(hr:HR P m h w)(hs:StepN k ρ h v h'):
  Post P m h w v h' ((execOp σ o).run P w):=by
 unfold compileK at hc;cases hop:o.op with
 |move x=>
  simp only[hop,Option.map_eq_some_iff]at hc;obtain⟨x',hx',rfl⟩:=hc;have hs':fnK (.mov x') ρ h=some (v,h'):=hs;simp only[fnK,Option.some.injEq,Prod.mk.injEq]at hs';obtain⟨rfl,rfl⟩:=hs';exact Post.same hr (hρ x (by simp[hop,Op.operands]) x' hx') (by simp[execOp,hop])
 |assign x=>
  simp only[hop,Option.map_eq_some_iff]at hc;obtain⟨x',hx',rfl⟩:=hc;have hs':fnK (.mov x') ρ h=some (v,h'):=hs;simp only[fnK,Option.some.injEq,Prod.mk.injEq]at hs';obtain⟨rfl,rfl⟩:=hs';exact Post.same hr (hρ x (by simp[hop,Op.operands]) x' hx') (by simp[execOp,hop])
 |pick c a b=>
  simp only[hop]at hc;split at hc
  case h_2=>cases hc
  rename_i c' a' b' hc' ha' hb';cases hc;have hs':fnK (.pick c' a' b') ρ h=some (v,h'):=hs;simp only[fnK]at hs';split at hs'
  case h_2=>cases hs'
  rename_i t ht;cases hs';have h1:=hρ c (by simp[hop,Op.operands]) c' hc';rw[ht,VR]at h1;refine Post.same (cv:=if t then σ a else σ b) hr ?_ (by simp[execOp,hop,h1,asBool]);cases t
  ·exact hρ b (by simp[hop,Op.operands]) b' hb'
  ·exact hρ a (by simp[hop,Op.operands]) a' ha'
 |alloc e=>
  simp only[hop]at hc;split at hc
  case h_2=>cases hc
  rename_i z hz;split at hc
  case isFalse=>cases hc
  rename_i h1;cases hc;have hs':fnK (.box (.c z)) ρ h=some (v,h'):=hs;simp only[fnK,hcst,h1,if_true,Option.some.injEq,Prod.mk.injEq]at hs';obtain⟨rfl,rfl⟩:=hs';obtain⟨cz,hcz,hvz⟩:=zeroA_run hz w m;obtain⟨m',h2,h3,h4,h5⟩:=newVar_ok hr hvz h1 e true false;exact⟨_,_,m',.inl (by simp only[execOp,hop,Instr.alloc,Sem.run_bind,hcz,Result.andThen_ok,h2,Sem.run_pure]),h3,h4,h5⟩
 |box e x=>
  simp only[hop,Option.map_eq_some_iff]at hc;obtain⟨x',hx',rfl⟩:=hc;have hs':fnK (.box x') ρ h=some (v,h'):=hs;simp only[fnK]at hs';split at hs'
  case isFalse=>cases hs'
  rename_i h1;cases hs';obtain⟨m',h2,h3,h4,h5⟩:=newVar_ok hr (hρ x (by simp[hop,Op.operands]) x' hx') h1 e true false;exact⟨_,_,m',.inl (by simp only[execOp,hop,Instr.box,Sem.run_bind,Result.andThen_ok,h2,Sem.run_pure]),h3,h4,h5⟩
 |build t ps=>
  simp only[hop]at hc;split at hc
  case h_2=>cases hc
  rename_i z l hz hl;split at hc
  case isFalse=>cases hc
  rename_i hp;cases hc;have hs':fnK (.build z.cells l) ρ h=some (v,h'):=hs;exact Post.val1 hr (s_build (w:=w) (σ:=σ) hz hl hp (λp hp y hy=>hρ p.2 (by simp only[hop,Op.operands];simp only[List.mem_toArray,List.mem_map];exact⟨p,hp,rfl⟩) y hy) hs') (λcv h=>by simp[execOp,hop,h])
 |buildSlice t n ps=>
  simp only[hop]at hc;split at hc
  case h_2=>cases hc
  rename_i e i hsl;split at hc
  case h_2=>cases hc
  rename_i z l hz hl;split at hc
  case isFalse=>cases hc
  rename_i hcond;obtain⟨h1,h2,h3,h4⟩:=hcond;cases hc;obtain⟨c,mu,tl,hfill,hc1,hcl,rfl,rfl⟩:=hs;exact Post.val2 (s_bslice (w:=w) (σ:=σ) hsl hz hl h1 h2 h3 h4 hr (λp hp y hy=>hρ p.2 (by simp only[hop,Op.operands];simp only[List.mem_toArray,List.mem_map];exact⟨p,hp,rfl⟩) y hy) hfill hc1 hcl mu tl) (λcv w' h=>by simp[execOp,hop,h])
 |load t a=>
  simp only[hop]at hc;split at hc
  case h_2=>cases hc
  rename_i n a' hn ha';cases hc;exact Post.val1 hr (s_load hn hr (hρ a (by simp[hop,Op.operands]) a' ha') hs) (λcv h=>by simp[execOp,hop,h])
 |store t a x=>
  simp only[hop]at hc;split at hc
  case h_2=>cases hc
  rename_i n a' x' hn ha' hx';cases hc;obtain⟨w',h1,rfl,h2,h3⟩:=s_store (w:=w) hn hr (hρ a (by simp[hop,Op.operands]) a' ha') (hρ x (by simp[hop,Op.operands]) x' hx') hs;exact⟨undef,w',m,.inr ⟨by simp[execOp,hop,h1],rfl⟩,undef_VR m,h2,h3⟩
 |nilCheck x=>
  simp only[hop,Option.map_eq_some_iff]at hc;obtain⟨x',hx',rfl⟩:=hc;have hs':fnK (.nilchk x') ρ h=some (v,h'):=hs;have h1:=hρ x (by simp[hop,Op.operands]) x' hx';simp only[fnK]at hs';split at hs'
  ·rename_i b o hv;cases hs';rw[hv]at h1;have h1':=h1;obtain⟨e,he,h2⟩:=h1;exact Post.same hr h1' (by simp[execOp,hop,h2])
  ·rename_i f a c hv;cases hs';rw[hv]at h1;have h1':=h1;obtain⟨f',a',c',h2,h3,_⟩:=h1;simp only[FnR]at h3;subst h3;exact Post.same hr h1' (by simp[execOp,hop,h2])
  ·rename_i f a c hv;cases hs';rw[hv]at h1;have h1':=h1;obtain⟨f',a',c',h2,h3,_⟩:=h1;obtain⟨e,he,rfl⟩:=h3;exact Post.same hr h1' (by simp[execOp,hop,h2])
  ·rename_i t' n a c hv;cases hs';rw[hv]at h1;have h1':=h1;obtain⟨f',a',c',h2,h3,_⟩:=h1;simp only[FnR]at h3;subst h3;exact Post.same hr h1' (by simp[execOp,hop,h2])
  ·rename_i t' p f q a c hv;cases hs';rw[hv]at h1;have h1':=h1;obtain⟨f',a',c',h2,h3,_⟩:=h1;simp only[FnR]at h3;subst h3;exact Post.same hr h1' (by simp[execOp,hop,h2])
  ·cases hs'
 |binOp op t x y ty=>
  simp only[hop]at hc;split at hc
  case h_2=>cases hc
  rename_i x' y' hx' hy';have hx:=hρ x (by simp[hop,Op.operands]) x' hx';have hy:=hρ y (by simp[hop,Op.operands]) y' hy';have bin:∀{op':BinOp},o.op=.binOp op' t x y ty->k=.bin op' x' y'->Post P m h w v h' ((execOp σ o).run P w):=by
   intro op' ho hk;subst hk;exact Post.val2 (s_bin (op:=op') (t:=t) (ox:=x) (oy:=y) hr hx hy hs) (λcv w' h=>by simp only[execOp,ho];rw[Sem.run_bind,h];rfl)
  have eqv:∀(neg:Bool),o.op=.binOp (if neg then .neq else .eql) t x y ty->eqK P neg t x' y' =some k->Post P m h w v h' ((execOp σ o).run P w):=by
   intro neg ho hk;have hk0:=hk;unfold eqK at hk;split at hk
   ·cases hk;exact bin ho rfl
   ·cases hk;exact bin ho rfl
   ·cases hk;exact bin ho rfl
   ·cases hk;exact Post.val1 hr (s_eqv (w:=w) (ox:=x) (oy:=y) (opd_const hy') hk0 hx hy hs) (λcv h=>by simp only[execOp,ho];rw[Sem.run_bind,h];rfl)
   ·cases hk;exact Post.val1 hr (s_eqv (w:=w) (ox:=x) (oy:=y) (opd_const hy') hk0 hx hy hs) (λcv h=>by simp only[execOp,ho];rw[Sem.run_bind,h];rfl)
   ·split at hk
    case isFalse=>cases hk
    simp only[Option.map_eq_some_iff]at hk;obtain⟨ks,_,rfl⟩:=hk;exact Post.val1 hr (s_eqv (w:=w) (ox:=x) (oy:=y) (opd_const hy') hk0 hx hy hs) (λcv h=>by simp only[execOp,ho];rw[Sem.run_bind,h];rfl)
   ·split at hk
    case isFalse=>cases hk
    simp only[Option.map_eq_some_iff]at hk;obtain⟨ks,_,rfl⟩:=hk;exact Post.val1 hr (s_eqv (w:=w) (ox:=x) (oy:=y) (opd_const hy') hk0 hx hy hs) (λcv h=>by simp only[execOp,ho];rw[Sem.run_bind,h];rfl)
   ·cases hk;exact Post.val1 hr (s_eqv (w:=w) (ox:=x) (oy:=y) (opd_const hy') hk0 hx hy hs) (λcv h=>by simp only[execOp,ho];rw[Sem.run_bind,h];rfl)
   ·rename_i e hu;rcases eqPK_or hk with q|⟨q,nz⟩
    ·subst q;exact Post.val1 hr (s_eqv (w:=w) (ox:=x) (oy:=y) (opd_const hy') hk0 hx hy hs) (λcv h=>by simp only[execOp,ho];rw[Sem.run_bind,h];rfl)
    ·subst q;exact Post.val1 hr (s_eqp (w:=w) (ox:=x) (oy:=y) hu nz hr hx hy hs) (λcv h=>by simp only[execOp,ho];rw[Sem.run_bind,h];rfl)
   ·cases hk;exact Post.val1 hr (s_eqv (w:=w) (ox:=x) (oy:=y) (opd_const hy') hk0 hx hy hs) (λcv h=>by simp only[execOp,ho];rw[Sem.run_bind,h];rfl)
   ·cases hk;exact Post.val1 hr (s_eqv (w:=w) (ox:=x) (oy:=y) (opd_const hy') hk0 hx hy hs) (λcv h=>by simp only[execOp,ho];rw[Sem.run_bind,h];rfl)
   ·obtain⟨_,e2⟩:=eqIK_some hk;cases e2;exact Post.val1 hr (s_eqv (w:=w) (ox:=x) (oy:=y) (opd_const hy') hk0 hx hy hs) (λcv h=>by simp only[execOp,ho];rw[Sem.run_bind,h];rfl)
   ·cases hk
  split at hc
  ·exact eqv false hop hc
  ·exact eqv true hop hc
  ·cases hc;exact bin hop rfl
 |unOp op t x=>
  simp only[hop,Option.map_eq_some_iff]at hc;obtain⟨x',hx',rfl⟩:=hc;have hs':fnK (.un op x') ρ h=some (v,h'):=hs;simp only[fnK]at hs';split at hs'
  case h_2=>cases hs'
  rename_i u hu;cases hs';obtain⟨cv,h1,h2⟩:=run_unK (P:=P) (w:=w) (hρ x (by simp[hop,Op.operands]) x' hx') hu;exact Post.same hr h2 (by simp[execOp,hop,h1])
 |convert s d x=>
  simp only[hop]at hc;split at hc
  case h_2=>cases hc
  rename_i ck x' hck hx';cases hc;exact Post.val2 (s_conv hck hr (hρ x (by simp[hop,Op.operands]) x' hx') hs) (λcv w' h=>by simp[execOp,hop,h])
 |makeInterface u x=>
  simp only[hop]at hc;split at hc
  ·cases hc
  ·rename_i d x' hni hd hx';cases hc;have hs':fnK (.conv (.ifc u) x') ρ h=some (v,h'):=hs;simp only[fnK,convA,Option.some.injEq,Prod.mk.injEq]at hs';obtain⟨rfl,rfl⟩:=hs';have hx2:=hρ x (by simp[hop,Op.operands]) x' hx';refine Post.same (cv:=.iface u (σ x)) hr ⟨_,rfl,hx2⟩ ?_;simp only[execOp,hop,Instr.makeInterface,Sem.run_bind,run_underlying hd,Result.andThen_ok];cases d<;>first|rfl|exact absurd rfl (hni _)
  ·cases hc
 |makeFunc fn a c=>
  simp only[hop]at hc;split at hc
  case isFalse=>cases hc
  rename_i hfn;split at hc
  case h_2=>cases hc
  rename_i a' c' ha' hc';cases hc;have hs':fnK (.mkfn fn a' c') ρ h=some (v,h'):=hs;simp only[fnK,Option.some.injEq,Prod.mk.injEq]at hs';obtain⟨rfl,rfl⟩:=hs';have h1:=opds_VRs (m:=m) (ρ:=ρ) (σ:=σ) ha' (λx hx=>hρ x (by simp only[hop,Op.operands];exact Array.mem_append.2 (.inl hx)));have h2:=opds_VRs (m:=m) (ρ:=ρ) (σ:=σ) hc' (λx hx=>hρ x (by simp only[hop,Op.operands];exact Array.mem_append.2 (.inr hx)));refine Post.same (cv:=.func fn (a.map σ) (c.map σ)) hr ⟨fn,(a.map σ).toList,(c.map σ).toList,rfl,?_,h1,h2⟩ (by simp[execOp,hop,Instr.makeFunc]);cases fn<;>first
   |rfl
   |(cases hfn;done)
 |makeMap t r=>
  simp only[hop]at hc;cases r with
  |some _=>simp at hc
  |none=>
   simp only[Option.some.injEq]at hc;subst hc;have hs':fnK .mkmap ρ h=some (v,h'):=hs;simp only[fnK,Option.some.injEq,Prod.mk.injEq]at hs';obtain⟨rfl,rfl⟩:=hs';have hal:=alloc_ok hr (.map #[] 0) (.mapb []) ⟨w.heap.size,0,0,true⟩ rfl rfl (λm' _=>⟨rfl,#[],0,World.alloc_heap_new w _,rfl,λi p hp=>by simp at hp⟩);exact⟨.map (some w.heap.size),_,_,.inl (by simp[execOp,hop,Instr.makeMap]),⟨⟨w.heap.size,0,0,true⟩,by simp[Emb.add],rfl⟩,hal.1,hal.2⟩
 |makeSlice t l c=>
  simp only[hop]at hc;split at hc
  case h_2=>cases hc
  rename_i e i l' c' hsl hl' hc';split at hc
  case h_2=>cases hc
  rename_i z hz;split at hc
  case isFalse=>cases hc
  rename_i hcond;obtain⟨h1,h2,h3⟩:=hcond;cases hc;exact Post.val2 (s_mksl hsl hz h1 h2 h3 hr (hρ l (by simp[hop,Op.operands]) l' hl') (hρ c (by simp[hop,Op.operands]) c' hc') hs) (λcv w' h=>by simp[execOp,hop,h])
 |slice t x lo hi mx=>
  simp only[hop]at hc;cases mx with
  |some _=>simp at hc
  |none=>
   simp only at hc;split at hc
   case h_2=>cases hc
   rename_i x' lo' hi' hx' hlo' hhi';have hx:=hρ x (by simp[hop,Op.operands]) x' hx';have hlo:=opdo_match (m:=m) (ρ:=ρ) (σ:=σ) hlo' (λy hy=>hρ y (by simp only[hop,Op.operands];cases hy;simp));have hhi:=opdo_match (m:=m) (ρ:=ρ) (σ:=σ) hhi' (λy hy=>hρ y (by simp only[hop,Op.operands];cases hy;simp));split at hc
   ·rename_i hu;cases hc;exact Post.val1 hr (s_sls hu hx hlo hhi hs) (λcv h=>by simp only[execOp,hop,Option.map_none];rw[Sem.run_bind,h];rfl)
   ·rename_i e hu;simp only[Option.map_eq_some_iff]at hc;obtain⟨n,hn,rfl⟩:=hc;exact Post.val1 hr (s_sl hu hn hx hlo hhi hs) (λcv h=>by simp only[execOp,hop,Option.map_none];rw[Sem.run_bind,h];rfl)
   ·rename_i n e hu;simp only[Option.map_eq_some_iff]at hc;obtain⟨es,hes,rfl⟩:=hc;exact Post.val1 hr (s_sla hu hes hr hx hlo hhi hs) (λcv h=>by simp only[execOp,hop,Option.map_none];rw[Sem.run_bind,h];rfl)
   ·cases hc
 |fieldAddr t x i=>
  simp only[hop]at hc;split at hc
  case h_2=>cases hc
  rename_i f x' hf hx';split at hc
  case h_2=>cases hc
  rename_i n hn;split at hc
  case isFalse=>cases hc
  rename_i hpos;cases hc;exact Post.val1 hr (s_fadr hf hn hpos (hρ x (by simp[hop,Op.operands]) x' hx') hs) (λcv h=>by simp[execOp,hop,h])
 |indexAddr t x i=>
  simp only[hop]at hc;split at hc
  case h_2=>cases hc
  rename_i x' i' hx' hi';have hx:=hρ x (by simp[hop,Op.operands]) x' hx';have hi:=hρ i (by simp[hop,Op.operands]) i' hi';split at hc
  ·rename_i e hu;simp only[Option.map_eq_some_iff]at hc;obtain⟨n,hn,rfl⟩:=hc;exact Post.val1 hr (s_iadr hu hn hx hi hs) (λcv h=>by simp[execOp,hop,h])
  ·rename_i len e hu;simp only[Option.map_eq_some_iff]at hc;obtain⟨n,hn,rfl⟩:=hc;exact Post.val1 hr (s_iada hu hn hx hi hs) (λcv h=>by simp[execOp,hop,h])
  ·cases hc
 |field t x i=>
  simp only[hop]at hc;split at hc
  case h_2=>cases hc
  rename_i f x' hf hx';simp only[Option.map_eq_some_iff]at hc;obtain⟨n,hn,rfl⟩:=hc;exact Post.val1 hr (s_partf hf hn (hρ x (by simp[hop,Op.operands]) x' hx') hs) (λcv h=>by simp[execOp,hop,h])
 |index t x i=>
  simp only[hop]at hc;split at hc
  case h_2=>cases hc
  rename_i x' i' hx' hi';have hx:=hρ x (by simp[hop,Op.operands]) x' hx';have hi:=hρ i (by simp[hop,Op.operands]) i' hi';split at hc
  ·rename_i hu;cases hc;exact Post.val1 hr (s_ixs hu hx hi hs) (λcv h=>by simp[execOp,hop,h])
  ·rename_i len e hu;split at hc
   case h_2=>cases hc
   rename_i n q hn hq;cases hc;exact Post.val1 hr (s_ixa hu hn hq hx hi hs) (λcv h=>by simp[execOp,hop,h])
  ·cases hc
 |lookup t x i ok=>
  simp only[hop]at hc;split at hc
  case h_2=>cases hc
  rename_i kt e x' i' hu hx' hi';split at hc
  case h_2=>cases hc
  rename_i kk z hkk hz;cases hc;exact Post.val1 hr (s_look hu hkk hz hr (hρ x (by simp[hop,Op.operands]) x' hx') (hρ i (by simp[hop,Op.operands]) i' hi') hs) (λcv h=>by simp[execOp,hop,h])
 |mapUpdate t x i y=>
  simp only[hop]at hc;split at hc
  case h_2=>cases hc
  rename_i kt e x' i' y' hu hx' hi' hy';simp only[Option.map_eq_some_iff]at hc;obtain⟨kk,hkk,rfl⟩:=hc;obtain⟨w',h1,rfl,h2,h3⟩:=s_mupd (w:=w) hu hkk hr (hρ x (by simp[hop,Op.operands]) x' hx') (hρ i (by simp[hop,Op.operands]) i' hi') (hρ y (by simp[hop,Op.operands]) y' hy') hs;exact⟨undef,w',m,.inr ⟨by simp[execOp,hop,h1],rfl⟩,undef_VR m,h2,h3⟩
 |insert t x i y=>
  simp only[hop]at hc;split at hc
  case h_2=>cases hc
  rename_i kt e x' i' y' hu hx' hi' hy';simp only[Option.map_eq_some_iff]at hc;obtain⟨kk,hkk,rfl⟩:=hc;obtain⟨w',h1,rfl,h2,h3⟩:=s_mupd (w:=w) hu hkk hr (hρ x (by simp[hop,Op.operands]) x' hx') (hρ i (by simp[hop,Op.operands]) i' hi') (hρ y (by simp[hop,Op.operands]) y' hy') hs;exact⟨undef,w',m,.inr ⟨by simp[execOp,hop,h1],rfl⟩,undef_VR m,h2,h3⟩
 |range t x=>
  simp only[hop]at hc;split at hc
  case h_2=>cases hc
  rename_i hu;simp only[Option.map_eq_some_iff]at hc;obtain⟨x',hx',rfl⟩:=hc;exact Post.val2 (s_rstr hu hr (hρ x (by simp[hop,Op.operands]) x' hx') hs) (λcv w' h=>by simp[execOp,hop,h])
 |next x isS=>
  simp only[hop]at hc;cases isS with
  |false=>simp at hc
  |true=>
   simp only[Option.map_eq_some_iff]at hc;obtain⟨x',hx',rfl⟩:=hc;exact Post.val2 (s_nexts (t:=o.type) hr (hρ x (by simp[hop,Op.operands]) x' hx') hs) (λcv w' h=>by simp[execOp,hop,h])
 |extract x i=>
  simp only[hop,Option.map_eq_some_iff]at hc;obtain⟨x',hx',rfl⟩:=hc;have hs':fnK (.ext x' i) ρ h=some (v,h'):=hs;simp only[fnK]at hs';split at hs'
  case h_2=>cases hs'
  rename_i l hl;split at hs'
  case h_2=>cases hs'
  rename_i u hu;cases hs';have h1:=hρ x (by simp[hop,Op.operands]) x' hx';rw[hl]at h1;obtain⟨l',h2,h3⟩:=h1;obtain⟨cv,hcv,hvr⟩:=h3.get hu;exact Post.same hr hvr (by simp[execOp,hop,Instr.extract,h2,hcv])
 |call c=>
  simp only[hop]at hc;split at hc
  case h_2=>cases hc
  rename_i l hl;have hargs:=opds_VRs (m:=m) (ρ:=ρ) (σ:=σ) hl (λx hx=>hρ x (by simp only[hop,Op.operands,Call.operands];exact Array.mem_append.2 (.inr hx)));split at hc
  ·simp only[Option.map_eq_some_iff]at hc;obtain⟨f,_,rfl⟩:=hc;exact hs.elim
  ·simp only[Option.map_eq_some_iff]at hc;obtain⟨f,_,rfl⟩:=hc;exact hs.elim
  ·rename_i b hb;obtain⟨cv,w',m',h1,h2,h3,h4⟩:=builtin_sound (w:=w) hc hargs hr hs o.type (c.args.map λ|.const _=>true|_=>false);refine⟨cv,w',m',.inl ?_,h2,h3,h4⟩;simp only[execOp,hop,resolve,hb,Sem.run_bind,Sem.run_pure,Result.andThen_ok,invoke];exact h1
 |_=>simp[hop]at hc
end
end Go.Abs
