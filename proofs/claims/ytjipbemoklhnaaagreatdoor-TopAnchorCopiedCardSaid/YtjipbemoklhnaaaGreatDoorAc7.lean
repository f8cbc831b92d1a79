/- The register of a house, and what an event makes of it; plain. No condition. · What holds of each register that accepted events lead to; plain. No condition. · An accepted event keeps what holds of each register; plain. No condition. · The register of a house in the heap. No condition. · The history of a house in the heap: lists that are cut off and appended to, in blocks of their own. No condition. · Contracts: errors, ranges, names. No condition. · Contracts: searches of the lines, tapes, shots, modules, jobs and pictures. No condition. · Contracts: lists are copied, cut down, mapped. No condition. · Contracts: lists of things with lists of their own. No condition. · Contracts: a register with lists of its own. No condition. · Contracts: what a register has. No condition. · Contracts: shots of a line, tiles that are left, digests. No condition. · Loops over functions that keep blocks of their own; maps of booleans. No condition. · Contracts: the modules that a module needs. No condition. · Contracts: the modules that a module needs, one after the other. No condition. · Contracts: the lines of a module, the shots of a picture. No condition. · Contracts: the map of the kinds of events. No condition. · Contracts: an event by itself. No condition. · Contracts: the checks of events that record. No condition. · Contracts: the checks of copies, acceptances, modules. No condition. · Contracts: the checks of tiles, pictures, releases. No condition. · A register of one's own, one of whose lists has changed. No condition. -/
import Derived.Test.YtjipbemoklhnaaaGreatDoorAc6
import Derived.Test.YtjipbemoklhnaaaGreatDoorAc3
set_option maxHeartbeats 4000000
set_option linter.all false
namespace Go.Abs
inductive Kd where
 |undo
 |line
 |tape
 |shot
 |copy
 |accept
 |source
 |modl
 |merge
 |run
 |tile
 |fail
 |pict
 |rel
 deriving DecidableEq
def kdName:Kd->List UInt8
 |.undo=>[117,110,100,111]
 |.line=>[108,105,110,101]
 |.tape=>[116,97,112,101]
 |.shot=>[115,104,111,116]
 |.copy=>[99,111,112,121]
 |.accept=>[97,99,99,101,112,116]
 |.source=>[115,111,117,114,99,101]
 |.modl=>[109,111,100,117,108,101]
 |.merge=>[109,101,114,103,101]
 |.run=>[114,117,110]
 |.tile=>[116,105,108,101]
 |.fail=>[102,97,105,108]
 |.pict=>[112,105,99,116,117,114,101]
 |.rel=>[114,101,108,101,97,115,101]
def kdAll:List Kd:=[.undo,.line,.tape,.shot,.copy,.accept,.source,.modl,.merge,.run,.tile,.fail,.pict,.rel]
def rolesK:Kd->List (Nat×Bool)
 |.undo=>[]
 |.line=>[(0,false)]
 |.tape=>[(1,false)]
 |.shot=>[(2,false),(0,true),(1,true)]
 |.copy=>[(1,true),(1,true)]
 |.accept=>[(0,true)]
 |.source=>[(3,false),(0,true)]
 |.modl=>[(3,false),(3,true)]
 |.merge=>[(3,false),(3,true),(3,true)]
 |.run=>[(4,false),(3,true)]
 |.tile=>[(4,true)]
 |.fail=>[(4,true)]
 |.pict=>[(5,false),(4,true)]
 |.rel=>[(5,true)]
def valsK:Kd->Nat
 |.undo=>0
 |.line=>2
 |.tape=>2
 |.shot=>1
 |.copy=>1
 |.accept=>1
 |.source=>1
 |.modl=>2
 |.merge=>1
 |.run=>2
 |.tile=>3
 |.fail=>2
 |.pict=>1
 |.rel=>1
def kdOf(k:List UInt8):Option Kd:=kdAll.find? λd=>kdName d==k
def kdOf_name(d:Kd):kdOf (kdName d)=some d:=by cases d<;>rfl
def kdOf_some{k d}(h:kdOf k=some d):k=kdName d:=by
 have:=List.find?_some h;exact(eq_of_beq this).symm
structure Evt where
 num:Int
 kind:List UInt8
 names:List (List UInt8)
 vals:List Int
 text:List UInt8
structure LnR where
 name:List UInt8
 want:Int
 acc:Bool
structure TpR where
 name:List UInt8
 last:Int
structure ShR where
 name:List UInt8
 line:List UInt8
 tapes:List (List UInt8)
structure MdR where
 name:List UInt8
 gives:List UInt8
 line:List UInt8
 inputs:List (List UInt8)
structure JbR where
 name:List UInt8
 mod:List UInt8
 sums:List Int
structure PcR where
 name:List UInt8
 job:List UInt8
 digest:Int
 rel:Bool
structure Reg where
 tick:Int
 lines:List LnR
 tapes:List TpR
 shots:List ShR
 mods:List MdR
 jobs:List JbR
 picts:List PcR
def Reg.zero:Reg:=⟨0,[],[],[],[],[],[]⟩
def noLn:LnR:=⟨[],0,false⟩
def noTp:TpR:=⟨[],0⟩
def noSh:ShR:=⟨[],[],[]⟩
def noMd:MdR:=⟨[],[],[],[]⟩
def noJb:JbR:=⟨[],[],[]⟩
def noPc:PcR:=⟨[],[],0,false⟩
def posS(l:List (List UInt8))(n:List UInt8):Nat:=l.findIdx λx=>decide (x=n)
def getN{α:Type}(f:α->List UInt8)(l:List α)(n:List UInt8)(d:α):α:=l.getD (posS (l.map f) n) d
def lnN(R:Reg):List (List UInt8):=R.lines.map LnR.name
def tpN(R:Reg):List (List UInt8):=R.tapes.map TpR.name
def shN(R:Reg):List (List UInt8):=R.shots.map ShR.name
def mdN(R:Reg):List (List UInt8):=R.mods.map MdR.name
def jbN(R:Reg):List (List UInt8):=R.jobs.map JbR.name
def pcN(R:Reg):List (List UInt8):=R.picts.map PcR.name
def thN(R:Reg):Nat->List (List UInt8)
 | 0=>lnN R
 | 1=>tpN R
 | 2=>shN R
 | 3=>mdN R
 | 4=>jbN R
 |_=>pcN R
def lineS(R:Reg)(n:List UInt8):LnR:=getN LnR.name R.lines n noLn
def tapeS(R:Reg)(n:List UInt8):TpR:=getN TpR.name R.tapes n noTp
def shotS(R:Reg)(n:List UInt8):ShR:=getN ShR.name R.shots n noSh
def modS(R:Reg)(n:List UInt8):MdR:=getN MdR.name R.mods n noMd
def jobS(R:Reg)(n:List UInt8):JbR:=getN JbR.name R.jobs n noJb
def pictS(R:Reg)(n:List UInt8):PcR:=getN PcR.name R.picts n noPc
def hasS(R:Reg)(t:Nat)(n:List UInt8):Bool:=decide (n∈thN R t)
def readS(R:Reg)(t:Int)(n:List UInt8):Bool:=decide (t<=(tapeS R n).last)
def safeS(R:Reg)(x:ShR)(t:Int):Bool:=x.tapes.any (readS R t)
def unsafeS(R:Reg)(t:Int):List (List UInt8):=(R.shots.filter λx=>!safeS R x t).map ShR.name
def ofS(R:Reg)(n:List UInt8):List ShR:=R.shots.filter λx=>decide (x.line=n)
def leftS:List Int->Nat->List Int
 |[],_=>[]
 |x::r,i=>if x<0 then(i:Int)::leftS r (i+1)else leftS r (i+1)
def doneS(R:Reg)(j:List UInt8):Bool:=R.picts.any λp=>decide (p.job=j)
def needSet(m:List UInt8)(l:List MdR):List (List UInt8):=l.foldl (λn x=>if x.name∈n then n++x.inputs else n) [m]
def needS(R:Reg)(m:List UInt8):List MdR:=R.mods.filter λx=>decide (x.name∈needSet m R.mods.reverse)
def srcS(R:Reg)(m:List UInt8):List LnR:=R.lines.filter λl=>decide (l.name∈(needS R m).map MdR.line)
def digS(l:List Int):Int:=l.foldl (λx s=>(257*x+s).tmod 16777213) 1
def nmE(e:Evt)(i:Nat):List UInt8:=e.names.getD i []
def vlE(e:Evt)(i:Nat):Int:=e.vals.getD i 0
def gvShots:List UInt8:=[115,104,111,116,115]
def gvSection:List UInt8:=[115,101,99,116,105,111,110]
def gvImage:List UInt8:=[105,109,97,103,101]
def takesS(n:Int):List UInt8:=if n=1 then gvShots else if n=2 then gvShots else if n=3 then gvSection else gvImage
def givesS(n:Int):List UInt8:=if n=1 then gvShots else if n=2 then gvSection else gvImage
def chkE(e:Evt):Int:=
 if rangeS e.num 1 1000≠0 then 3 else
 match kdOf e.kind with
 |none=>13
 |some d=>if e.names.length≠(rolesK d).length\/e.vals.length≠valsK d then 2
  else if e.names.any (λs=>!nameS s)then 8
  else if e.vals.any (λn=>decide (rangeS n 0 999999999≠0))then 3
  else if e.text≠[]then 1 else 0
def unkS(R:Reg)(e:Evt):List (Nat×Bool)->Nat->Bool
 |[],_=>false
 |r::l,i=>(r.2 && !hasS R r.1 (nmE e i))||unkS R e l (i+1)
def twcS(R:Reg)(e:Evt):List (Nat×Bool)->Nat->Bool
 |[],_=>false
 |r::l,i=>(!r.2&&hasS R r.1 (nmE e i))||twcS R e l (i+1)
def nmsS(d:Kd)(R:Reg)(e:Evt):Int:=if unkS R e (rolesK d) 0 then 10 else if twcS R e (rolesK d) 0 then 9 else 0
def sumAt(R:Reg)(e:Evt):Int:=(jobS R (nmE e 0)).sums.getD (vlE e 1).toNat 0
def chkT(R:Reg)(e:Evt):Int:=if doneS R (nmE e 0)then 23 else if((jobS R (nmE e 0)).sums.length:Int)<=vlE e 1 then 3 else 0
def chkK(R:Reg)(e:Evt):Kd->Int
 |.undo=>0
 |.line=>if rangeS (vlE e 1) 1 64≠0 then 3 else if 16<=R.lines.length then 5 else 0
 |.tape=>if 999999999<vlE e 0+vlE e 1 then 4 else if 16<=R.tapes.length then 5 else 0
 |.shot=>if(lineS R (nmE e 1)).acc then 23 else if !readS R (vlE e 0) (nmE e 2)then 30 else if 64<=R.shots.length then 5 else 0
 |.copy=>if nmE e 0=nmE e 1 then 24 else if !readS R (vlE e 0) (nmE e 0)then 30 else if !readS R (vlE e 0) (nmE e 1)then 30 else 0
 |.accept=>if(lineS R (nmE e 0)).acc then 23 else if((ofS R (nmE e 0)).length:Int)<(lineS R (nmE e 0)).want then 16 else if(ofS R (nmE e 0)).any (λx=>!safeS R x (vlE e 0))then 30 else 0
 |.source=>if 32<=R.mods.length then 5 else 0
 |.modl=>if rangeS (vlE e 1) 1 4≠0 then 13 else if(modS R (nmE e 1)).gives≠takesS (vlE e 1)then 2 else if 32<=R.mods.length then 5 else 0
 |.merge=>if nmE e 1=nmE e 2 then 24 else if(modS R (nmE e 1)).gives≠(modS R (nmE e 2)).gives then 2 else if 32<=R.mods.length then 5 else 0
 |.run=>if(srcS R (nmE e 1)).any (λx=>!x.acc)then 32 else if rangeS (vlE e 1) 1 32≠0 then 3 else if 16<=R.jobs.length then 5 else 0
 |.tile=>if chkT R e≠0 then chkT R e else if 0<=sumAt R e then 9 else 0
 |.fail=>if chkT R e≠0 then chkT R e else if sumAt R e<0 then 7 else 0
 |.pict=>if doneS R (nmE e 1)then 23 else if leftS (jobS R (nmE e 1)).sums 0≠[]then 32 else if 16<=R.picts.length then 5 else 0
 |.rel=>if(pictS R (nmE e 0)).rel then 23 else 0
def cpyS(a b:List UInt8)(x:ShR):ShR:=if a∈x.tapes/\b∉x.tapes then {x with tapes:=x.tapes++[b] } else x
def setJ(R:Reg)(e:Evt)(s:Int):List JbR:=R.jobs.set (posS (jbN R) (nmE e 0)) {jobS R (nmE e 0)with sums:=(jobS R (nmE e 0)).sums.set (vlE e 1).toNat s}
def actK(R:Reg)(e:Evt):Kd->Reg
 |.undo=>R
 |.line=>{R with lines:=R.lines++[⟨nmE e 0,vlE e 1,false⟩] }
 |.tape=>{R with tapes:=R.tapes++[⟨nmE e 0,vlE e 0+vlE e 1⟩] }
 |.shot=>{R with shots:=R.shots++[⟨nmE e 0,nmE e 1,[nmE e 2]⟩] }
 |.copy=>{R with shots:=R.shots.map (cpyS (nmE e 0) (nmE e 1)) }
 |.accept=>{R with lines:=R.lines.set (posS (lnN R) (nmE e 0)) {lineS R (nmE e 0)with acc:=true} }
 |.source=>{R with mods:=R.mods++[⟨nmE e 0,gvShots,nmE e 1,[]⟩] }
 |.modl=>{R with mods:=R.mods++[⟨nmE e 0,givesS (vlE e 1),[],e.names.drop 1⟩] }
 |.merge=>{R with mods:=R.mods++[⟨nmE e 0,(modS R (nmE e 1)).gives,[],e.names.drop 1⟩] }
 |.run=>{R with jobs:=R.jobs++[⟨nmE e 0,nmE e 1,List.replicate (vlE e 1).toNat (-1)⟩] }
 |.tile=>{R with jobs:=setJ R e (vlE e 2) }
 |.fail=>{R with jobs:=setJ R e (-1) }
 |.pict=>{R with picts:=R.picts++[⟨nmE e 0,nmE e 1,digS (jobS R (nmE e 1)).sums,false⟩] }
 |.rel=>{R with picts:=R.picts.set (posS (pcN R) (nmE e 0)) {pictS R (nmE e 0)with rel:=true} }
def errS(R:Reg)(e:Evt)(d:Kd):Int:=if vlE e 0<R.tick then 22 else if nmsS d R e≠0 then nmsS d R e else chkK R e d
def nxtS(R:Reg)(e:Evt)(d:Kd):Reg:={actK R e d with tick:=vlE e 0}
structure Hst where
 evs:List Evt
 cnt:List Evt
 regs:List Reg
def Hst.zero:Hst:=⟨[],[],[]⟩
def Hst.now(H:Hst):Reg:=H.regs.getLastD Reg.zero
def kdD(e:Evt):Kd:=(kdOf e.kind).getD .undo
def accS(H:Hst)(e:Evt):Int:=
 if e.num≠(H.evs.length:Int)+1 then 11 else
 if kdD e=.undo then
  (match H.cnt.getLast? with
  |none=>12
  |some c=>if kdD c=.rel then 21 else 0)
 else errS H.now e (kdD e)
def addS(H:Hst)(e:Evt):Hst:=
 if kdD e=.undo then⟨H.evs++[e],H.cnt.dropLast,H.regs.dropLast⟩
 else⟨H.evs++[e],H.cnt++[e],H.regs++[nxtS H.now e (kdD e)]⟩
def badS(H:Hst)(e:Evt):Int:=if chkE e≠0 then chkE e else accS H e
def runS(H:Hst):List Evt->Nat->Hst×Int×Int
 |[],_=>(H,0,0)
 |e::l,i=>if badS H e≠0 then(Hst.zero,(i:Int)+1,badS H e)else runS (addS H e) l (i+1)
def repS(l:List Evt):Hst×Int×Int:=if 1000<l.length then(Hst.zero,0,5)else runS Hst.zero l 0
end Go.Abs
namespace Go.Abs
def posS_lt{l n}(h:n∈l):posS l n<l.length:=
 List.findIdx_lt_length_of_exists ⟨n,h,by simp⟩
def posS_get{l n}(h:n∈l):l[posS l n]'(posS_lt h)=n:=by
 have:=List.findIdx_getElem (p:=λx=>decide (x=n)) (xs:=l) (w:=posS_lt h);exact of_decide_eq_true this
def getN_at{α:Type}{f:α->List UInt8}{l:List α}{n:List UInt8}{d:α}(h:n∈l.map f):getN f l n d=l[posS (l.map f) n]'(by simpa using posS_lt h):=by
 have:posS (l.map f) n<l.length:=by simpa using posS_lt h
 rw[getN,List.getD_eq_getElem?_getD,List.getElem?_eq_getElem this];rfl
def getN_mem{α:Type}{f:α->List UInt8}{l:List α}{n:List UInt8}{d:α}(h:n∈l.map f):getN f l n d∈l:=by
 rw[getN_at h];exact List.getElem_mem _
def getN_name{α:Type}{f:α->List UInt8}{l:List α}{n:List UInt8}{d:α}(h:n∈l.map f):f (getN f l n d)=n:=by
 rw[getN_at h];have:=posS_get h;rw[List.getElem_map]at this;exact this
def getN_eq{α:Type}{f:α->List UInt8}{l:List α}{x d:α}(hn:(l.map f).Nodup)(h:x∈l):getN f l (f x) d=x:=by
 have hm:f x∈l.map f:=List.mem_map_of_mem h;obtain⟨i,hi,rfl⟩:=List.getElem_of_mem h;rw[getN_at hm];have h1:=posS_get hm;have h2:(l.map f)[i]'(by simpa using hi)=f l[i]:=List.getElem_map ..;have:=(List.getElem_inj hn).1 (h1.trans h2.symm);congr 1
structure NmOk(l:List (List UInt8)):Prop where
 nd:l.Nodup
 nm:∀n∈l,nameS n=true
def NmOk.nil:NmOk []:=⟨List.nodup_nil,λ_ h=>by cases h⟩
def NmOk.add{l n}(h:NmOk l)(hn:nameS n=true)(hl:n∉l):NmOk (l++[n]):=by
 refine⟨List.nodup_append.2 ⟨h.nd,by simp,?_⟩,λx hx=>?_⟩
 ·intro a ha b hb e;rw[List.mem_singleton]at hb;exact hl (hb▸e▸ha)
 ·rcases List.mem_append.1 hx with hx|hx
  ·exact h.nm x hx
  ·rw[List.mem_singleton]at hx;rw[hx];exact hn
structure WfR(R:Reg):Prop where
 n0:NmOk (lnN R)
 n1:NmOk (tpN R)
 n2:NmOk (shN R)
 n3:NmOk (mdN R)
 n4:NmOk (jbN R)
 n5:NmOk (pcN R)
 tk:0<=R.tick/\R.tick<=999999999
 l0:R.lines.length<=16
 l1:R.tapes.length<=16
 l2:R.shots.length<=64
 l3:R.mods.length<=32
 l4:R.jobs.length<=16
 l5:R.picts.length<=16
 ln:∀x∈R.lines,1<=x.want/\x.want<=64
 tp:∀x∈R.tapes,0<=x.last/\x.last<=999999999
 sh:∀x∈R.shots,x.line∈lnN R/\x.tapes≠[]/\x.tapes.Nodup/\∀t∈x.tapes,t∈tpN R
 md:∀x∈R.mods,((x.inputs=[]/\x.line∈lnN R)\/(x.inputs≠[]/\x.line=[]))/\x.inputs.length<=2/\∀t∈x.inputs,t∈mdN R
 jb:∀x∈R.jobs,x.mod∈mdN R/\1<=x.sums.length/\x.sums.length<=32/\∀s∈x.sums,-1<=s/\s<=999999999
 pc:∀x∈R.picts,x.job∈jbN R/\0<=x.digest/\x.digest<16777213
theorem WfR.zero:WfR Reg.zero:=by
 refine⟨.nil,.nil,.nil,.nil,.nil,.nil,by decide,by decide,by decide,by decide,by decide,by decide,by decide,?_,?_,?_,?_,?_,?_⟩
 all_goals intro x hx;cases hx
structure WfE(e:Evt)(d:Kd):Prop where
 kd:kdOf e.kind=some d
 nu:1<=e.num/\e.num<=1000
 nl:e.names.length=(rolesK d).length
 vl:e.vals.length=valsK d
 nm:∀n∈e.names,nameS n=true
 vr:∀v∈e.vals,0<=v/\v<=999999999
 tx:e.text=[]
def rangeS_0{n lo hi}(h:¬rangeS n lo hi≠0):lo<=n/\n<=hi:=by
 unfold rangeS at h;split at h
 ·exact absurd (by decide) h
 ·omega
def chkE_0{e}(h:chkE e=0):∃d,WfE e d:=by
 unfold chkE at h;split at h
 ·cases h
 case isFalse h0=>
 cases hk:kdOf e.kind with
 |none=>rw[hk]at h;cases h
 |some d=>
  rw[hk]at h;simp only at h;split at h
  ·cases h
  case isFalse h1=>
  split at h
  ·cases h
  case isFalse h2=>
  split at h
  ·cases h
  case isFalse h3=>
  split at h
  ·cases h
  case isFalse h4=>
  refine⟨d,hk,rangeS_0 h0,by omega,by omega,?_,?_,by simpa using h4⟩
  ·intro n hn;cases hc:nameS n with
   |true=>rfl
   |false=>exact absurd (List.any_eq_true.2 ⟨n,hn,by simp[hc]⟩) h2
  ·intro v hv;refine rangeS_0 λhc=>h3 (List.any_eq_true.2 ⟨v,hv,by simpa using hc⟩)
def nmE_mem{e i}(h:i<e.names.length):nmE e i∈e.names:=by
 rw[nmE,List.getD_eq_getElem?_getD,List.getElem?_eq_getElem h];exact List.getElem_mem h
def vlE_mem{e i}(h:i<e.vals.length):vlE e i∈e.vals:=by
 rw[vlE,List.getD_eq_getElem?_getD,List.getElem?_eq_getElem h];exact List.getElem_mem h
end Go.Abs
namespace Go.Abs
def mem_app{α:Type}{l m:List α}{x:α}(h:x∈l):x∈l++m:=List.mem_append.2 (.inl h)
def all_add{α:Type}{p:α->Prop}{l:List α}{y:α}(h:∀x∈l,p x)(hy:p y):∀x∈l++[y],p x:=by
 intro x hx;rcases List.mem_append.1 hx with hx|hx
 ·exact h x hx
 ·rw[List.mem_singleton]at hx;rw[hx];exact hy
def all_set{α:Type}{p:α->Prop}{l:List α}{y:α}{i:Nat}(h:∀x∈l,p x)(hy:p y):∀x∈l.set i y,p x:=by
 intro x hx;rcases List.mem_or_eq_of_mem_set hx with hx|hx
 ·exact h x hx
 ·rw[hx];exact hy
theorem map_set{α:Type}{f:α->List UInt8}{l:List α}{n:List UInt8}{d y:α}(hn:n∈l.map f)(hy:f y=n):(l.set (posS (l.map f) n) y).map f=l.map f:=by
 rw[List.map_set];have:=posS_get hn;rw[hy]
 conv=>lhs;arg 3;rw[<-this]
 exact List.set_getElem_self _
structure NmK(R:Reg)(e:Evt)(d:Kd):Prop where
 kn:∀i t,(rolesK d)[i]? =some (t,true)->nmE e i∈thN R t
 fr:∀i t,(rolesK d)[i]? =some (t,false)->nmE e i∉thN R t
theorem unk_no{R e}:∀{l}{i},unkS R e l i=false->∀j t,l[j]? =some (t,true)->nmE e (i+j)∈thN R t
 |[],i,_,j,t,h=>by simp at h
 |r::l,i,h,j,t,hj=>by
  rw[unkS,Bool.or_eq_false_iff]at h;cases j with
  |zero=>
   simp only[List.getElem?_cons_zero,Option.some.injEq]at hj;subst hj;have:=h.1;simp only[Bool.true_and,Bool.not_eq_false',hasS,decide_eq_true_eq]at this;exact this
  |succ j=>
   simp only[List.getElem?_cons_succ]at hj;have:=unk_no h.2 j t hj
   rwa [Nat.add_assoc,Nat.add_comm 1 j]at this
theorem twc_no{R e}:∀{l}{i},twcS R e l i=false->∀j t,l[j]? =some (t,false)->nmE e (i+j)∉thN R t
 |[],i,_,j,t,h=>by simp at h
 |r::l,i,h,j,t,hj=>by
  rw[twcS,Bool.or_eq_false_iff]at h;cases j with
  |zero=>
   simp only[List.getElem?_cons_zero,Option.some.injEq]at hj;subst hj;have:=h.1;simp only[Bool.not_false,Bool.true_and,hasS,decide_eq_false_iff_not]at this;exact this
  |succ j=>
   simp only[List.getElem?_cons_succ]at hj;have:=twc_no h.2 j t hj
   rwa [Nat.add_assoc,Nat.add_comm 1 j]at this
def nms_0{R e d}(h:nmsS d R e=0):NmK R e d:=by
 unfold nmsS at h;split at h
 ·cases h
 case isFalse h1=>
 split at h
 ·cases h
 case isFalse h2=>
 refine⟨λi t hi=>?_,λi t hi=>?_⟩
 ·have:=unk_no (by simpa using h1) i t hi;rwa [Nat.zero_add]at this
 ·have:=twc_no (by simpa using h2) i t hi;rwa [Nat.zero_add]at this
def digS_step(x s:Int)(hx:0<=x)(hs:0<=s):0<=(257*x+s).tmod 16777213/\(257*x+s).tmod 16777213<16777213:=by
 rw[Int.tmod_eq_emod_of_nonneg (by omega)];omega
theorem digS_aux:∀(l:List Int) (x:Int),(∀s∈l,0<=s)->0<=x->x<16777213->0<=l.foldl (λx s=>(257*x+s).tmod 16777213) x/\l.foldl (λx s=>(257*x+s).tmod 16777213) x<16777213
 |[],x,_,h1,h2=>⟨h1,h2⟩
 |s::l,x,hs,h1,h2=>by
  have:=digS_step x s h1 (hs s (by simp));exact digS_aux l _ (λt ht=>hs t (List.mem_cons_of_mem _ ht)) this.1 this.2
def digS_in{l}(hs:∀s∈l,0<=s):0<=digS l/\digS l<16777213:=digS_aux l 1 hs (by decide) (by decide)
theorem leftS_nil:∀{l}{i},leftS l i=[]->∀s∈l,0<=s
 |[],_,_,s,hs=>by cases hs
 |x::r,i,h,s,hs=>by
  rw[leftS]at h;split at h
  ·cases h
  ·rcases List.mem_cons.1 hs with rfl|hs
   ·omega
   ·exact leftS_nil h s hs
theorem WfR.tick{R}(w:WfR R){t}(h:0<=t/\t<=999999999):WfR {R with tick:=t}:={w with tk:=h}
section
variable {R:Reg}{e:Evt}(w:WfR R)
include w
theorem WfR.jobOf{n}(hn:n∈jbN R):jobS R n∈R.jobs/\(jobS R n).name=n:=⟨getN_mem hn,getN_name hn⟩
def WfR.setJ'(s:Int)(hn:nmE e 0∈jbN R)(hs:-1<=s/\s<=999999999):WfR {R with jobs:=setJ R e s}:=by
 have hj:=w.jobOf hn;have hm:List.map JbR.name (setJ R e s)=jbN R:=map_set (d:=noJb) hn hj.2;refine {w with n4:=?_,l4:=?_,jb:=?_,pc:=?_}
 ·show NmOk (List.map JbR.name (setJ R e s));rw[hm];exact w.n4
 ·show(setJ R e s).length<=16;rw[setJ,List.length_set];exact w.l4
 ·refine all_set (λx hx=>w.jb x hx) ?_;have:=w.jb _ hj.1;refine⟨this.1,?_,?_,all_set this.2.2.2 hs⟩
  ·show 1<=(List.set _ _ _).length;rw[List.length_set];exact this.2.1
  ·show(List.set _ _ _).length<=32;rw[List.length_set];exact this.2.2.1
 ·intro x hx;have:=w.pc x hx;exact⟨by show x.job∈List.map JbR.name (setJ R e s);rw[hm];exact this.1,this.2⟩
def WfR.act{d:Kd}(he:WfE e d)(hk:NmK R e d)(hc:chkK R e d=0):WfR (actK R e d):=by
 have gn:∀i,i<(rolesK d).length->nameS (nmE e i)=true:=λi hi=>he.nm _ (nmE_mem (by rw[he.nl];exact hi))
 have gv:∀i,i<valsK d->0<=vlE e i/\vlE e i<=999999999:=λi hi=>he.vr _ (vlE_mem (by rw[he.vl];exact hi))
 cases d with
 |undo=>exact w
 |line=>
  have f0:nmE e 0∉lnN R:=hk.fr 0 0 rfl;rw[chkK]at hc;split at hc
  ·cases hc
  case isFalse h1=>
  split at hc
  ·cases hc
  case isFalse h2=>
  have h1:=rangeS_0 h1;have em:lnN (actK R e .line)=lnN R++[nmE e 0]:=List.map_append;refine {w with n0:=?_,l0:=?_,ln:=?_,sh:=?_,md:=?_}
  ·rw[em];exact w.n0.add (gn 0 (by decide)) f0
  ·show(R.lines++[_]).length<=16;rw[List.length_append,List.length_singleton];omega
  ·exact all_add w.ln h1
  ·intro x hx;have:=w.sh x hx;exact⟨by rw[em];exact mem_app this.1,this.2⟩
  ·intro x hx;obtain⟨h3,h4⟩:=w.md x hx;refine⟨?_,h4⟩;rcases h3 with h3|h3
   ·exact .inl ⟨h3.1,by rw[em];exact mem_app h3.2⟩
   ·exact .inr h3
 |tape=>
  have f0:nmE e 0∉tpN R:=hk.fr 0 1 rfl;have v0:=gv 0 (by decide);have v1:=gv 1 (by decide);rw[chkK]at hc;split at hc
  ·cases hc
  case isFalse h1=>
  split at hc
  ·cases hc
  case isFalse h2=>
  have em:tpN (actK R e .tape)=tpN R++[nmE e 0]:=List.map_append;refine {w with n1:=?_,l1:=?_,tp:=?_,sh:=?_}
  ·rw[em];exact w.n1.add (gn 0 (by decide)) f0
  ·show(R.tapes++[_]).length<=16;rw[List.length_append,List.length_singleton];omega
  ·exact all_add w.tp (by show 0<=vlE e 0+vlE e 1/\vlE e 0+vlE e 1<=999999999;omega)
  ·intro x hx;obtain⟨h3,h4,h5,h6⟩:=w.sh x hx;exact⟨h3,h4,h5,λt ht=>by rw[em];exact mem_app (h6 t ht)⟩
 |shot=>
  have f0:nmE e 0∉shN R:=hk.fr 0 2 rfl;have k1:nmE e 1∈lnN R:=hk.kn 1 0 rfl;have k2:nmE e 2∈tpN R:=hk.kn 2 1 rfl;rw[chkK]at hc;split at hc
  ·cases hc
  split at hc
  ·cases hc
  split at hc
  ·cases hc
  case isFalse h2=>
  have em:shN (actK R e .shot)=shN R++[nmE e 0]:=List.map_append;refine {w with n2:=?_,l2:=?_,sh:=?_}
  ·rw[em];exact w.n2.add (gn 0 (by decide)) f0
  ·show(R.shots++[_]).length<=64;rw[List.length_append,List.length_singleton];omega
  ·refine all_add w.sh ⟨k1,by simp,by simp,λt ht=>?_⟩;rw[List.mem_singleton]at ht;rw[ht];exact k2
 |copy=>
  have k1:nmE e 1∈tpN R:=hk.kn 1 1 rfl;have en:∀x,(cpyS (nmE e 0) (nmE e 1) x).name=x.name:=λx=>by unfold cpyS;split<;>rfl
  have el:∀x,(cpyS (nmE e 0) (nmE e 1) x).line=x.line:=λx=>by unfold cpyS;split<;>rfl
  have em:shN (actK R e .copy)=shN R:=by
   show List.map _ (List.map _ _)=_;rw[List.map_map];exact List.map_congr_left λx _=>en x
  refine {w with n2:=?_,l2:=?_,sh:=?_}
  ·rw[em];exact w.n2
  ·show(List.map _ _).length<=64;rw[List.length_map];exact w.l2
  ·intro y hy;obtain⟨x,hx,rfl⟩:=List.mem_map.1 (show y∈List.map _ R.shots from hy);obtain⟨h1,h2,h3,h4⟩:=w.sh x hx;rw[el];refine⟨h1,?_⟩;unfold cpyS;split
   case isFalse=>exact⟨h2,h3,h4⟩
   case isTrue h5=>
    refine⟨by simp,?_,all_add h4 k1⟩;refine List.nodup_append.2 ⟨h3,by simp,λa ha b hb eq=>?_⟩;rw[List.mem_singleton]at hb;exact h5.2 (hb▸eq▸ha)
 |accept=>
  have k0:nmE e 0∈lnN R:=hk.kn 0 0 rfl;have em:lnN (actK R e .accept)=lnN R:=map_set (d:=noLn) k0 (getN_name k0);refine {w with n0:=?_,l0:=?_,ln:=?_,sh:=?_,md:=?_}
  ·rw[em];exact w.n0
  ·show(List.set _ _ _).length<=16;rw[List.length_set];exact w.l0
  ·exact all_set w.ln (w.ln (lineS R (nmE e 0)) (getN_mem k0))
  ·intro x hx;have:=w.sh x hx;exact⟨by rw[em];exact this.1,this.2⟩
  ·intro x hx;obtain⟨h3,h4⟩:=w.md x hx;refine⟨?_,h4⟩;rcases h3 with h3|h3
   ·exact .inl ⟨h3.1,by rw[em];exact h3.2⟩
   ·exact .inr h3
 |source=>
  have f0:nmE e 0∉mdN R:=hk.fr 0 3 rfl;have k1:nmE e 1∈lnN R:=hk.kn 1 0 rfl;rw[chkK]at hc;split at hc
  ·cases hc
  case isFalse h2=>
  have em:mdN (actK R e .source)=mdN R++[nmE e 0]:=List.map_append;refine {w with n3:=?_,l3:=?_,md:=?_,jb:=?_}
  ·rw[em];exact w.n3.add (gn 0 (by decide)) f0
  ·show(R.mods++[_]).length<=32;rw[List.length_append,List.length_singleton];omega
  ·refine all_add (λx hx=>?_) ⟨.inl ⟨rfl,k1⟩,Nat.zero_le _,λt ht=>by cases ht⟩;obtain⟨h3,h4,h5⟩:=w.md x hx;exact⟨h3,h4,λt ht=>by rw[em];exact mem_app (h5 t ht)⟩
  ·intro x hx;have:=w.jb x hx;exact⟨by rw[em];exact mem_app this.1,this.2⟩
 |modl=>
  have f0:nmE e 0∉mdN R:=hk.fr 0 3 rfl;have k1:nmE e 1∈mdN R:=hk.kn 1 3 rfl;have hl:e.names.length=2:=he.nl;have hdr:e.names.drop 1=[nmE e 1]:=by
   match hn:e.names,hl with
   |[a,b],_=>simp[nmE,hn]
  rw[chkK]at hc;split at hc
  ·cases hc
  split at hc
  ·cases hc
  split at hc
  ·cases hc
  case isFalse h2=>
  have em:mdN (actK R e .modl)=mdN R++[nmE e 0]:=List.map_append;refine {w with n3:=?_,l3:=?_,md:=?_,jb:=?_}
  ·rw[em];exact w.n3.add (gn 0 (by decide)) f0
  ·show(R.mods++[_]).length<=32;rw[List.length_append,List.length_singleton];omega
  ·refine all_add (λx hx=>?_) ?_
   ·obtain⟨h3,h4,h5⟩:=w.md x hx;exact⟨h3,h4,λt ht=>by rw[em];exact mem_app (h5 t ht)⟩
   ·simp only[hdr];exact⟨.inr (by simp),by simp,λt ht=>by rw[List.mem_singleton]at ht;rw[ht,em];exact mem_app k1⟩
  ·intro x hx;have:=w.jb x hx;exact⟨by rw[em];exact mem_app this.1,this.2⟩
 |merge=>
  have f0:nmE e 0∉mdN R:=hk.fr 0 3 rfl;have k1:nmE e 1∈mdN R:=hk.kn 1 3 rfl;have k2:nmE e 2∈mdN R:=hk.kn 2 3 rfl;have hl:e.names.length=3:=he.nl;have hdr:e.names.drop 1=[nmE e 1,nmE e 2]:=by
   match hn:e.names,hl with
   |[a,b,c],_=>simp[nmE,hn]
  rw[chkK]at hc;split at hc
  ·cases hc
  split at hc
  ·cases hc
  split at hc
  ·cases hc
  case isFalse h2=>
  have em:mdN (actK R e .merge)=mdN R++[nmE e 0]:=List.map_append;refine {w with n3:=?_,l3:=?_,md:=?_,jb:=?_}
  ·rw[em];exact w.n3.add (gn 0 (by decide)) f0
  ·show(R.mods++[_]).length<=32;rw[List.length_append,List.length_singleton];omega
  ·refine all_add (λx hx=>?_) ?_
   ·obtain⟨h3,h4,h5⟩:=w.md x hx;exact⟨h3,h4,λt ht=>by rw[em];exact mem_app (h5 t ht)⟩
   ·simp only[hdr];refine⟨.inr (by simp),by simp,λt ht=>?_⟩;rw[em];rcases List.mem_cons.1 ht with ht|ht
    ·rw[ht];exact mem_app k1
    ·rw[List.mem_singleton]at ht;rw[ht];exact mem_app k2
  ·intro x hx;have:=w.jb x hx;exact⟨by rw[em];exact mem_app this.1,this.2⟩
 |run=>
  have f0:nmE e 0∉jbN R:=hk.fr 0 4 rfl;have k1:nmE e 1∈mdN R:=hk.kn 1 3 rfl;rw[chkK]at hc;split at hc
  ·cases hc
  split at hc
  ·cases hc
  case isFalse h1=>
  split at hc
  ·cases hc
  case isFalse h2=>
  have h1:=rangeS_0 h1;have em:jbN (actK R e .run)=jbN R++[nmE e 0]:=List.map_append;refine {w with n4:=?_,l4:=?_,jb:=?_,pc:=?_}
  ·rw[em];exact w.n4.add (gn 0 (by decide)) f0
  ·show(R.jobs++[_]).length<=16;rw[List.length_append,List.length_singleton];omega
  ·refine all_add w.jb ⟨k1,?_,?_,λs hs=>?_⟩
   ·show 1<=(List.replicate _ _).length;rw[List.length_replicate];omega
   ·show(List.replicate _ _).length<=32;rw[List.length_replicate];omega
   ·rw[(List.mem_replicate.1 hs).2];decide
  ·intro x hx;have:=w.pc x hx;exact⟨by rw[em];exact mem_app this.1,this.2⟩
 |tile=>exact w.setJ' _ (hk.kn 0 4 rfl) (by have:=gv 2 (by decide);omega)
 |fail=>exact w.setJ' _ (hk.kn 0 4 rfl) (by decide)
 |pict=>
  have f0:nmE e 0∉pcN R:=hk.fr 0 5 rfl;have k1:nmE e 1∈jbN R:=hk.kn 1 4 rfl;rw[chkK]at hc;split at hc
  ·cases hc
  split at hc
  ·cases hc
  case isFalse h1=>
  split at hc
  ·cases hc
  case isFalse h2=>
  have em:pcN (actK R e .pict)=pcN R++[nmE e 0]:=List.map_append;refine {w with n5:=?_,l5:=?_,pc:=?_}
  ·rw[em];exact w.n5.add (gn 0 (by decide)) f0
  ·show(R.picts++[_]).length<=16;rw[List.length_append,List.length_singleton];omega
  ·exact all_add w.pc ⟨k1,digS_in (leftS_nil (Classical.not_not.1 h1))⟩
 |rel=>
  have k0:nmE e 0∈pcN R:=hk.kn 0 5 rfl;have em:pcN (actK R e .rel)=pcN R:=map_set (d:=noPc) k0 (getN_name k0);refine {w with n5:=?_,l5:=?_,pc:=?_}
  ·rw[em];exact w.n5
  ·show(List.set _ _ _).length<=16;rw[List.length_set];exact w.l5
  ·exact all_set w.pc (w.pc (pictS R (nmE e 0)) (getN_mem k0))
def WfR.step{d}(he:WfE e d)(hd:d≠.undo)(h:errS R e d=0):WfR (nxtS R e d):=by
 unfold errS at h;split at h
 ·cases h
 split at h
 case isTrue h1=>exact absurd h h1
 case isFalse h1=>
 have h1:=Classical.not_not.1 h1;refine(w.act he (nms_0 h1) h).tick (he.vr _ (vlE_mem ?_));rw[he.vl];cases d<;>first|exact absurd rfl hd|decide
end
end Go.Abs
namespace Go.Abs
def idxS{α:Type}(p:α->Bool)(L:List α):Int:=
 match L.findIdx? p with
 |some i=>(i:Int)
 |none=>-1
def idx_any{α:Type}(p:α->Bool)(L:List α):decide (0<=idxS p L)=L.any p:=by
 unfold idxS;cases hx:L.findIdx? p with
 |none=>
  simp only[List.findIdx?_eq_none_iff]at hx;have:L.any p=false:=by rw[List.any_eq_false];intro x hx';simp[hx x hx']
  rw[this];rfl
 |some i=>
  have h1:=List.findIdx?_isSome (xs:=L) (p:=p);rw[hx]at h1;rw[<-h1];simp
def lnRow(x:LnR):List AV:=[.str x.name,.i x.want,.bool x.acc]
def tpRow(x:TpR):List AV:=[.str x.name,.i x.last]
def shRow(x:ShR×AV):List AV:=[.str x.1.name,.str x.1.line,x.2]
def mdRow(x:MdR×AV):List AV:=[.str x.1.name,.str x.1.gives,.str x.1.line,x.2]
def jbRow(x:JbR×AV):List AV:=[.str x.1.name,.str x.1.mod,x.2]
def pcRow(x:PcR):List AV:=[.str x.name,.str x.job,.i x.digest,.bool x.rel]
structure RV where
 tick:Int
 lines:List LnR
 tapes:List TpR
 shots:List (ShR×AV)
 mods:List (MdR×AV)
 jobs:List (JbR×AV)
 picts:List PcR
 s0:AV
 s1:AV
 s2:AV
 s3:AV
 s4:AV
 s5:AV
def RV.reg(V:RV):Reg:=⟨V.tick,V.lines,V.tapes,V.shots.map Prod.fst,V.mods.map Prod.fst,V.jobs.map Prod.fst,V.picts⟩
def RV.row(V:RV):List AV:=[.i V.tick,V.s0,V.s1,V.s2,V.s3,V.s4,V.s5]
def RV.zero:RV:=⟨0,[],[],[],[],[],[],.nilSlice,.nilSlice,.nilSlice,.nilSlice,.nilSlice,.nilSlice⟩
structure RegOk(h:AHeap)(V:RV):Prop where
 i0:IsSl h V.s0 3 (V.lines.map lnRow)
 i1:IsSl h V.s1 2 (V.tapes.map tpRow)
 i2:IsSl h V.s2 3 (V.shots.map shRow)
 i3:IsSl h V.s3 4 (V.mods.map mdRow)
 i4:IsSl h V.s4 3 (V.jobs.map jbRow)
 i5:IsSl h V.s5 4 (V.picts.map pcRow)
 e2:∀x∈V.shots,IsSl h x.2 1 (x.1.tapes.map strRow)
 e3:∀x∈V.mods,IsSl h x.2 1 (x.1.inputs.map strRow)
 e4:∀x∈V.jobs,IsSl h x.2 1 (x.1.sums.map intRow)
theorem RegOk.ext{h k V}(o:RegOk h V)(e:Ext h k):RegOk k V:=
 ⟨o.i0.ext e,o.i1.ext e,o.i2.ext e,o.i3.ext e,o.i4.ext e,o.i5.ext e,λx hx=>(o.e2 x hx).ext e,λx hx=>(o.e3 x hx).ext e,λx hx=>(o.e4 x hx).ext e⟩
theorem RegOk.zero{h}:RegOk h RV.zero:=by
 refine⟨.nil,.nil,.nil,.nil,.nil,.nil,?_,?_,?_⟩
 all_goals intro x hx;cases hx
def sB:AV->Option Nat
 |.slice b _ _ _=>some b
 |_=>none
def sB_s{v b}(h:sB v=some b):∃o n e,v=.slice b o n e:=by
 cases v with
 |slice b' o n e=>cases h;exact⟨o,n,e,rfl⟩
 |_=>cases h
def Fr.sBlt{N h s es cs}(hs:Fr N h s es cs){b}(hb:sB s=some b):N<=b/\b<h.length:=by
 obtain⟨o,n,e,rfl⟩:=sB_s hb;exact hs.lt rfl
def Fr.sBkeep{N h k s es cs}(hs:Fr N h s es cs)(hk:∀b,sB s=some b->k[b]? =h[b]?):Fr N k s es cs:=by
 cases hs with
 |nil=>exact .nil
 |mk hN hb he=>exact .mk hN ((hk _ rfl).trans hb) he
def RV.bl(V:RV):List (Option Nat):=[sB V.s0,sB V.s1,sB V.s2,sB V.s3,sB V.s4,sB V.s5]++(V.shots.map λx=>sB x.2)++(V.mods.map λx=>sB x.2)++(V.jobs.map λx=>sB x.2)
def Dis(l:List (Option Nat)):Prop:=l.Pairwise λx y=>∀b,x=some b->y≠some b
structure RegOwn(N:Nat)(h:AHeap)(V:RV):Prop where
 i0:Fr N h V.s0 3 (V.lines.map lnRow)
 i1:Fr N h V.s1 2 (V.tapes.map tpRow)
 i2:Fr N h V.s2 3 (V.shots.map shRow)
 i3:Fr N h V.s3 4 (V.mods.map mdRow)
 i4:Fr N h V.s4 3 (V.jobs.map jbRow)
 i5:Fr N h V.s5 4 (V.picts.map pcRow)
 e2:∀x∈V.shots,Fr N h x.2 1 (x.1.tapes.map strRow)
 e3:∀x∈V.mods,Fr N h x.2 1 (x.1.inputs.map strRow)
 e4:∀x∈V.jobs,Fr N h x.2 1 (x.1.sums.map intRow)
 di:Dis V.bl
def RegOwn.ok{N h V}(o:RegOwn N h V):RegOk h V:=
 ⟨o.i0.isSl,o.i1.isSl,o.i2.isSl,o.i3.isSl,o.i4.isSl,o.i5.isSl,λx hx=>(o.e2 x hx).isSl,λx hx=>(o.e3 x hx).isSl,λx hx=>(o.e4 x hx).isSl⟩
theorem RegOwn.app{N h V}(o:RegOwn N h V)(g:AHeap):RegOwn N (h++g) V:=
 ⟨o.i0.app g,o.i1.app g,o.i2.app g,o.i3.app g,o.i4.app g,o.i5.app g,λx hx=>(o.e2 x hx).app g,λx hx=>(o.e3 x hx).app g,λx hx=>(o.e4 x hx).app g,o.di⟩
def RegOwn.keep{N h k V}(o:RegOwn N h V)(hk:∀b,some b∈V.bl->k[b]? =h[b]?):RegOwn N k V:=by
 have m6:∀x∈[sB V.s0,sB V.s1,sB V.s2,sB V.s3,sB V.s4,sB V.s5],x∈V.bl:=λx hx=>by simp only[RV.bl,List.mem_append];exact .inl (.inl (.inl hx))
 refine⟨o.i0.sBkeep λb hb=>hk b (hb▸m6 _ (by simp)),o.i1.sBkeep λb hb=>hk b (hb▸m6 _ (by simp)),o.i2.sBkeep λb hb=>hk b (hb▸m6 _ (by simp)),o.i3.sBkeep λb hb=>hk b (hb▸m6 _ (by simp)),o.i4.sBkeep λb hb=>hk b (hb▸m6 _ (by simp)),o.i5.sBkeep λb hb=>hk b (hb▸m6 _ (by simp)),
  λx hx=>(o.e2 x hx).sBkeep λb hb=>hk b ?_,λx hx=>(o.e3 x hx).sBkeep λb hb=>hk b ?_,λx hx=>(o.e4 x hx).sBkeep λb hb=>hk b ?_,o.di⟩
 ·simp only[RV.bl,List.mem_append,List.mem_map];exact .inl (.inl (.inr ⟨x,hx,hb⟩))
 ·simp only[RV.bl,List.mem_append,List.mem_map];exact .inl (.inr ⟨x,hx,hb⟩)
 ·simp only[RV.bl,List.mem_append,List.mem_map];exact .inr ⟨x,hx,hb⟩
structure EV where
 ev:Evt
 sn:AV
 sv:AV
def EV.row(x:EV):List AV:=[.i x.ev.num,.str x.ev.kind,x.sn,x.sv,.str x.ev.text]
structure EvOk(h:AHeap)(x:EV):Prop where
 n:IsSl h x.sn 1 (x.ev.names.map strRow)
 v:IsSl h x.sv 1 (x.ev.vals.map intRow)
theorem EvOk.ext{h k x}(o:EvOk h x)(e:Ext h k):EvOk k x:=⟨o.n.ext e,o.v.ext e⟩
structure EvsOk(h:AHeap)(L:List EV)(s:AV):Prop where
 sl:IsSl h s 5 (L.map EV.row)
 all:∀x∈L,EvOk h x
theorem EvsOk.ext{h k L s}(o:EvsOk h L s)(e:Ext h k):EvsOk k L s:=⟨o.sl.ext e,λx hx=>(o.all x hx).ext e⟩
end Go.Abs
namespace Go.Abs
inductive Ow (N:Nat) (h:AHeap):AV->Nat->List (List AV)->Prop
 |nil {es:Nat}:Ow N h .nilSlice es []
 |mk {b es:Nat}{cs:List (List AV)}{junk:List AV}(hN:N<=b) (hb:h[b]? =some (.cells (cs.flatten++junk) true true)) (he:∀x∈cs,x.length=es):Ow N h (.slice b 0 cs.length es) es cs
def Ow.isSl{N h s es cs}(hs:Ow N h s es cs):IsSl h s es cs:=by
 cases hs with
 |nil=>exact .nil
 |mk hN hb he=>
  have hl:=flatten_len he;exact .mk hb (by rw[List.drop_zero,<-hl,List.take_left]) (by rw[List.length_append];omega) he
def Ow.sBlt{N h s es cs}(hs:Ow N h s es cs){b}(hb:sB s=some b):N<=b/\b<h.length:=by
 cases hs with
 |nil=>cases hb
 |mk hN hb' he=>cases hb;exact⟨hN,(List.getElem?_eq_some_iff.1 hb').1⟩
def Ow.sBkeep{N h k s es cs}(hs:Ow N h s es cs)(hk:∀b,sB s=some b->k[b]? =h[b]?):Ow N k s es cs:=by
 cases hs with
 |nil=>exact .nil
 |mk hN hb he=>exact .mk hN ((hk _ rfl).trans hb) he
def Ow.cut{N h s es cs}(hs:Ow N h s es cs){n:Nat}(hn:n<=cs.length){k}:
  ∃s',slF es s none (some (.int k (n:Int)))=some (s',.keep)/\sB s' =sB s/\Ow N h s' es (cs.take n):=by
 cases hs with
 |nil=>
  have:n=0:=by simpa using hn
  subst this;exact⟨.nilSlice,by simp only[slF,bnds_hi (Nat.le_refl 0)],rfl,by rw[List.take_nil];exact .nil⟩
 | @mk b _ _ junk hN hb he=>
  refine⟨.slice b 0 n es,?_,rfl,?_⟩
  ·simp only[slF,if_true,bnds_hi hn,Nat.zero_mul,Nat.add_zero,Nat.sub_zero]
  ·have hl:(cs.take n).length=n:=by rw[List.length_take];omega
   have hf:cs.flatten++junk=(cs.take n).flatten++((cs.drop n).flatten++junk):=by
    rw[<-List.append_assoc,<-List.flatten_append,List.take_append_drop]
   rw[hf]at hb;have:=Ow.mk (cs:=cs.take n) hN hb (λx hx=>he x (List.mem_of_mem_take hx))
   rwa [hl]at this
section
variable {P:Program}{ro:Option Nat->Prop}{ks:List Kt}{ts:TS}{Q:Ex->TS->AHeap->Prop}
def WR.app2{h s y es cs ys N w d l}(hs:Ow N h s es cs)(hy:IsSl h y es ys)(hN:N<=h.length)(hes:0<es)(hne:0<ys.length)(hsz:(cs.length+ys.length)*w<=2^46)
  (K:∀h',h'.length=h.length+1->Ow N h' (.slice h.length 0 (cs++ys).length es) es (cs++ys)->(∀b,b<h.length->sB s≠some b->h'[b]? =h[b]?)->WP P ro l ks (put ts d (.slice h.length 0 (cs++ys).length es)) h' Q):
  WR P ro (appT es w s y (λb=>h[b]?) h.length) false d l ks ts h Q:=by
 have hrows:∀x∈cs++ys,x.length=es:=λx hx=>by
  rcases List.mem_append.1 hx with hx|hx
  ·exact hs.isSl.rows x hx
  ·exact hy.rows x hx
 have hk:¬ys.length=0:=by omega
 simp only[appT,hy.cellsG];have mk:∀h1:AHeap,h1.length=h.length->Ow N (h1++[.cells (cs++ys).flatten true true]) (.slice h.length 0 (cs++ys).length es) es (cs++ys):=by
  intro h1 h1l;refine Ow.mk (junk:=[]) hN ?_ hrows;rw[List.append_nil,<-h1l];exact at_new
 cases hs with
 |nil=>
  simp only[List.length_nil,Nat.zero_add]at hsz;simp only[if_neg hk,if_pos hsz];rw[WR_push];have hK:=K (h++[.cells ys.flatten true true]) (by simp) (mk h rfl) (λb hb _=>List.getElem?_append_left hb);exact hK
 | @mk b _ _ junk hbN hb hre=>
  have hcl:=flatten_len hre;simp only[if_true,if_neg hk,if_pos hsz,hb,Nat.zero_add];rw[if_pos (by rw[List.length_append];omega),WR_setPush];have hbl:b<h.length:=(List.getElem?_eq_some_iff.1 hb).1;have hc:List.take (cs.length*es) (List.drop 0 (cs.flatten++junk))=cs.flatten:=by rw[List.drop_zero,<-hcl,List.take_left]
  rw[hc];have hK:=K (h.set b .dead++[.cells (cs++ys).flatten true true]) (by simp) (mk _ (by simp)) (λi hi hne=>by
   have:b≠i:=λe=>hne (by rw[<-e];rfl)
   rw[List.getElem?_append_left (by simpa using hi),List.getElem?_set_ne this])
  simp only[List.flatten_append,List.length_append]at hK ⊢;exact hK
end
def msk(ex:List (Option Nat))(h:AHeap):AHeap:=h.mapIdx λb k=>if some b∈ex then .dead else k
def msk_get{ex h b}(hb:some b∉ex):(msk ex h)[b]? =h[b]? :=by
 rw[msk,List.getElem?_mapIdx];cases h[b]? with
 |none=>rfl
 |some k=>simp[hb]
def msk_live{ex h b c mu tl}(hb:(msk ex h)[b]? =some (.cells c mu tl)):some b∉ex/\h[b]? =some (.cells c mu tl):=by
 rw[msk,List.getElem?_mapIdx]at hb;cases hk:h[b]? with
 |none=>rw[hk]at hb;cases hb
 |some k=>
  rw[hk]at hb;simp only[Option.map_some,Option.some.injEq]at hb;split at hb
  ·cases hb
  case isFalse h1=>exact⟨h1,by rw[hb]⟩
def SubH(k h:AHeap):Prop:=∀(b:Nat) (c:List AV) (mu tl:Bool),k[b]? =some (ABlk.cells c mu tl)->h[b]? =some (ABlk.cells c mu tl)
def IsSl.sub{k h s es cs}(o:IsSl k s es cs)(e:SubH k h):IsSl h s es cs:=by
 cases o with
 |nil=>exact .nil
 |mk hb hf ho he=>exact .mk (e _ _ _ _ hb) hf ho he
theorem RegOk.sub{k h V}(o:RegOk k V)(e:SubH k h):RegOk h V:=
 ⟨o.i0.sub e,o.i1.sub e,o.i2.sub e,o.i3.sub e,o.i4.sub e,o.i5.sub e,λx hx=>(o.e2 x hx).sub e,λx hx=>(o.e3 x hx).sub e,λx hx=>(o.e4 x hx).sub e⟩
theorem EvOk.sub{k h x}(o:EvOk k x)(e:SubH k h):EvOk h x:=⟨o.n.sub e,o.v.sub e⟩
theorem SubH.msk(ex:List (Option Nat))(h:AHeap):SubH (msk ex h) h:=λ_ _ _ _ hb=>(msk_live hb).2
theorem IsSl.msk{h s es cs}(o:IsSl h s es cs){ex}(hx:∀b,sB s=some b->some b∉ex):IsSl (Go.Abs.msk ex h) s es cs:=by
 cases o with
 |nil=>exact .nil
 |mk hb hf ho he=>exact .mk ((msk_get (hx _ rfl)).trans hb) hf ho he
def RegOk.keep{h k V}(o:RegOk h V)(hk:∀b,some b∈V.bl->k[b]? =h[b]?):RegOk k V:=by
 have m6:∀x∈[sB V.s0,sB V.s1,sB V.s2,sB V.s3,sB V.s4,sB V.s5],x∈V.bl:=λx hx=>by simp only[RV.bl,List.mem_append];exact .inl (.inl (.inl hx))
 have kp:∀{s:AV}{es:Nat}{cs:List (List AV)},IsSl h s es cs->(∀b,sB s=some b->k[b]? =h[b]?)->IsSl k s es cs:=λ{s es cs} hs hb=>by
  cases hs with
  |nil=>exact .nil
  |mk h1 h2 h3 h4=>exact .mk ((hb _ rfl).trans h1) h2 h3 h4
 refine⟨kp o.i0 λb hb=>hk b (hb▸m6 _ (by simp)),kp o.i1 λb hb=>hk b (hb▸m6 _ (by simp)),kp o.i2 λb hb=>hk b (hb▸m6 _ (by simp)),kp o.i3 λb hb=>hk b (hb▸m6 _ (by simp)),kp o.i4 λb hb=>hk b (hb▸m6 _ (by simp)),kp o.i5 λb hb=>hk b (hb▸m6 _ (by simp)),
  λx hx=>kp (o.e2 x hx) λb hb=>hk b ?_,λx hx=>kp (o.e3 x hx) λb hb=>hk b ?_,λx hx=>kp (o.e4 x hx) λb hb=>hk b ?_⟩
 ·simp only[RV.bl,List.mem_append,List.mem_map];exact .inl (.inl (.inr ⟨x,hx,hb⟩))
 ·simp only[RV.bl,List.mem_append,List.mem_map];exact .inl (.inr ⟨x,hx,hb⟩)
 ·simp only[RV.bl,List.mem_append,List.mem_map];exact .inr ⟨x,hx,hb⟩
structure HV where
 evs:List EV
 cnt:List EV
 regs:List RV
 se:AV
 sc:AV
 sr:AV
def HV.hst(V:HV):Hst:=⟨V.evs.map EV.ev,V.cnt.map EV.ev,V.regs.map RV.reg⟩
def HV.ex(b:Nat)(V:HV):List (Option Nat):=[some b,sB V.se,sB V.sc,sB V.sr]
structure HstOk(N:Nat)(h:AHeap)(b:Nat)(V:HV):Prop where
 hN:N<=b
 hb:h[b]? =some (.b [V.se,V.sc,V.sr])
 oe:Ow N h V.se 5 (V.evs.map EV.row)
 oc:Ow N h V.sc 5 (V.cnt.map EV.row)
 og:Ow N h V.sr 7 (V.regs.map RV.row)
 di:Dis (V.ex b)
 ae:∀x∈V.evs,EvOk (msk (V.ex b) h) x
 ac:∀x∈V.cnt,EvOk (msk (V.ex b) h) x
 ag:∀x∈V.regs,RegOk (msk (V.ex b) h) x
 lo:∀x∈V.regs,∀j,some j∈x.bl->N<=j
def sub_msk{ex ex' h h'}(hk:∀b,b<h.length->some b∉ex->h'[b]? =h[b]?)(he:∀b,b<h.length->some b∈ex'->some b∈ex):SubH (msk ex h) (msk ex' h'):=by
 intro b c mu tl hb;obtain⟨h1,h2⟩:=msk_live hb;have hlt:b<h.length:=(List.getElem?_eq_some_iff.1 h2).1;rw[msk_get λh3=>h1 (he b hlt h3),hk b hlt h1,h2]
def HstOk.app{N h b V}(o:HstOk N h b V)(g:AHeap):HstOk N (h++g) b V:=by
 have hs:SubH (msk (V.ex b) h) (msk (V.ex b) (h++g)):=sub_msk (λb hb _=>List.getElem?_append_left hb) (λb _ hb=>hb);have hbl:=(List.getElem?_eq_some_iff.1 o.hb).1;exact⟨o.hN,(List.getElem?_append_left hbl).trans o.hb,o.oe.sBkeep λb hb=>List.getElem?_append_left (o.oe.sBlt hb).2,o.oc.sBkeep λb hb=>List.getElem?_append_left (o.oc.sBlt hb).2,o.og.sBkeep λb hb=>List.getElem?_append_left (o.og.sBlt hb).2,o.di,
  λx hx=>(o.ae x hx).sub hs,λx hx=>(o.ac x hx).sub hs,λx hx=>(o.ag x hx).sub hs,o.lo⟩
end Go.Abs
namespace Go.Abs
section
variable {P:Program}(T:Tbl P) {h:AHeap}
include T
def r34(c:Bool)(e:Int):RCall P 34 [.bool c,.i e] h (λv _=>v=.i (whenS c e)):=by
 refine .of T.mix T.c34 ?_;unfold fn34;simp only[uset];cases c<;>simp only[wset]<;>rfl
def r47(n lo hi:Int):RCall P 47 [.i n,.i lo,.i hi] h (λv _=>v=.i (rangeS n lo hi)):=by
 refine .of T.mix T.c47 ?_;unfold fn47;simp only[uset];simp+contextual only[wset,wsplit,decide_true,decide_false];refine⟨λh1=>?_,λh1=>?_⟩<;>
 ·refine WF.res T.c34 (r34 T _ _) ?_;rintro _ g rfl;simp only[wset];simp[whenS,rangeS,h1]
def r23{s l}(hs:IsSl h s 1 (l.map intRow))(hl:l.length<2^63):RCall P 23 [s] h (λv _=>v=.i (firstS l)):=by
 refine .of T.mix T.c23 ?_;unfold fn23;simp only[uset];have e1:(l.map intRow).length=l.length:=by simp
 simp only[wset,hs.lenG,e1];refine WL.inv T.mix (λn ts h'=>∃k:Nat,k<=l.length/\n=l.length-k/\h' =h/\firstS l=firstS (l.drop k)/\ts.length=15/\slot ts 5=s/\slot ts 6=.i l.length/\slot ts 7=.i k) l.length
  ⟨0,by omega,rfl,rfl,rfl,rfl,rfl,rfl,rfl⟩ ?_
 rintro _ ts _ ⟨k,hk,rfl,rfl,hf,hlen,h5,h6,h7⟩;rw[expl ts 15 hlen];by_cases hlt:k<l.length
 ·have hd:l.drop k=l[k]::l.drop (k+1):=by simp
  have e2:(l.map intRow)[k]'(by omega)=[AV.i l[k]]:=by simp
  have e3:(k:Int)<l.length:=by omega
  simp+contextual (disch:=omega) only[wset,wsplit,h5,h6,h7,e3,decide_true,hs.iadr,Int.toNat_natCast,hs.load1 _ e2,wrap_in];refine⟨λh1=>?_,λh1=>⟨l.length-(k+1),by omega,k+1,by omega,rfl,?_,rfl⟩⟩
  ·rw[hf,hd,firstS,if_neg h1]
  ·rw[hf,hd,firstS,if_pos (by omega)]
 ·have e3:¬(k:Int)<l.length:=by omega
  have e4:k=l.length:=by omega
  simp+contextual (disch:=omega) only[wset,h5,h6,h7,e3,decide_false,if_true];rw[hf,e4,List.drop_length];rfl
end
end Go.Abs
namespace Go.Abs
def idx_in{α:Type}{f:α->List UInt8}{L:List α}{n:List UInt8}(h:n∈L.map f):idxS (λx=>decide (f x=n)) L=(posS (L.map f) n:Int):=by
 have e:posS (L.map f) n=L.findIdx λx=>decide (f x=n):=by
  rw[posS,List.findIdx_map];rfl
 have hlt:=posS_lt h;rw[e,List.length_map]at hlt;rw[e,idxS,List.findIdx?_eq_guard_findIdx_lt];simp[Option.guard,hlt]
def idx_has{α:Type}{f:α->List UInt8}{L:List α}{n:List UInt8}:decide (0<=idxS (λx=>decide (f x=n)) L)=decide (n∈L.map f):=by
 rw[idx_any];rw[Bool.eq_iff_iff];simp[List.any_eq_true]
section
variable {P:Program}(T:Tbl P) {h:AHeap}
include T
def r173{α:Type}{row L s f}(hs:IsSl h s 3 (L.map row))(hl:L.length<2^63)(p:α->Bool)
  (hf:∀x,x∈L->∀k,Ext h k->VCall P f [.agg (row x)] k (λv _=>v=.bool (p x))):RCall P 173 [s,f] h (λv _=>v=.i (idxS p L)):=by
 refine .of T.mix T.c173 ?_;unfold fn173;refine Ws hs.lenm ?_;refine WL.inv T.mix (λn ts h'=>∃k:Nat,k<=L.length/\n=L.length-k/\Ext h h'/\L.findIdx? p=((L.drop k).findIdx? p).map (· +k)/\ts.length=19/\slot ts 0=s/\slot ts 1=f/\slot ts 7=.i L.length/\slot ts 8=.i k) L.length
  ⟨0,by omega,rfl,Ext.refl h,by simp,rfl,rfl,rfl,rfl,rfl⟩ ?_
 rintro _ ts _ ⟨k,hk,rfl,⟨g,rfl⟩,hi,hlen,t0,t1,t7,t8⟩;rw[expl ts 19 hlen];by_cases hlt:k<L.length
 ·have hd:L.drop k=L[k]::L.drop (k+1):=by simp
  have e3:(k:Int)<L.length:=by omega
  simp only[wset,hset,dset,bset,Nat.reduceAdd,Nat.reduceMul,Nat.reduceLeDiff,Nat.reduceEqDiff,t0,t1,t7,t8,e3,decide_true,hs.ixm hlt,hs.ldm hlt];refine WF.val (hf L[k] (by simp) _ ⟨g,rfl⟩) ?_;rintro _ g1 rfl;cases hp:p L[k]with
  |true=>
   refine Ws @t8 ?_;rw[idxS,hi,hd,List.findIdx?_cons,hp];simp
  |false=>
   refine Ws (A2 @t8 (wrapN (show k+1<2^63 by omega))) ?_;refine⟨_,?_,k+1,by omega,rfl,?_,rfl⟩
   ·omega
   ·rw[hi,hd,List.findIdx?_cons,hp];simp only[Bool.false_eq_true,if_false,Option.map_map];congr 1;funext i;simp only[Function.comp];omega
 ·have e3:¬(k:Int)<L.length:=by omega
  have e4:k=L.length:=by omega
  refine Ws (A6 @t0 @t1 @t7 @t8 @e3 @decide_false) ?_;rw[idxS,hi,e4,List.drop_length];rfl
def r175{α:Type}{row L s f}(hs:IsSl h s 2 (L.map row))(hl:L.length<2^63)(p:α->Bool)
  (hf:∀x,x∈L->∀k,Ext h k->VCall P f [.agg (row x)] k (λv _=>v=.bool (p x))):RCall P 175 [s,f] h (λv _=>v=.i (idxS p L)):=by
 refine .of T.mix T.c175 ?_;unfold fn175;refine Ws hs.lenm ?_;refine WL.inv T.mix (λn ts h'=>∃k:Nat,k<=L.length/\n=L.length-k/\Ext h h'/\L.findIdx? p=((L.drop k).findIdx? p).map (· +k)/\ts.length=19/\slot ts 0=s/\slot ts 1=f/\slot ts 7=.i L.length/\slot ts 8=.i k) L.length
  ⟨0,by omega,rfl,Ext.refl h,by simp,rfl,rfl,rfl,rfl,rfl⟩ ?_
 rintro _ ts _ ⟨k,hk,rfl,⟨g,rfl⟩,hi,hlen,t0,t1,t7,t8⟩;rw[expl ts 19 hlen];by_cases hlt:k<L.length
 ·have hd:L.drop k=L[k]::L.drop (k+1):=by simp
  have e3:(k:Int)<L.length:=by omega
  simp only[wset,hset,dset,bset,Nat.reduceAdd,Nat.reduceMul,Nat.reduceLeDiff,Nat.reduceEqDiff,t0,t1,t7,t8,e3,decide_true,hs.ixm hlt,hs.ldm hlt];refine WF.val (hf L[k] (by simp) _ ⟨g,rfl⟩) ?_;rintro _ g1 rfl;cases hp:p L[k]with
  |true=>
   refine Ws @t8 ?_;rw[idxS,hi,hd,List.findIdx?_cons,hp];simp
  |false=>
   refine Ws (A2 @t8 (wrapN (show k+1<2^63 by omega))) ?_;refine⟨_,?_,k+1,by omega,rfl,?_,rfl⟩
   ·omega
   ·rw[hi,hd,List.findIdx?_cons,hp];simp only[Bool.false_eq_true,if_false,Option.map_map];congr 1;funext i;simp only[Function.comp];omega
 ·have e3:¬(k:Int)<L.length:=by omega
  have e4:k=L.length:=by omega
  refine Ws (A6 @t0 @t1 @t7 @t8 @e3 @decide_false) ?_;rw[idxS,hi,e4,List.drop_length];rfl
def r98{α:Type}{row L s f}(hs:IsSl h s 3 (L.map row))(hl:L.length<2^63)(p:α->Bool)
  (hf:∀x,x∈L->∀k,Ext h k->VCall P f [.agg (row x)] k (λv _=>v=.bool (p x))):RCall P 98 [s,f] h (λv _=>v=.i (idxS p L)):=by
 refine .of T.mix T.c98 ?_;unfold fn98;refine Ws hs.lenm ?_;refine WL.inv T.mix (λn ts h'=>∃k:Nat,k<=L.length/\n=L.length-k/\Ext h h'/\L.findIdx? p=((L.drop k).findIdx? p).map (· +k)/\ts.length=19/\slot ts 0=s/\slot ts 1=f/\slot ts 7=.i L.length/\slot ts 8=.i k) L.length
  ⟨0,by omega,rfl,Ext.refl h,by simp,rfl,rfl,rfl,rfl,rfl⟩ ?_
 rintro _ ts _ ⟨k,hk,rfl,⟨g,rfl⟩,hi,hlen,t0,t1,t7,t8⟩;rw[expl ts 19 hlen];by_cases hlt:k<L.length
 ·have hd:L.drop k=L[k]::L.drop (k+1):=by simp
  have e3:(k:Int)<L.length:=by omega
  simp only[wset,hset,dset,bset,Nat.reduceAdd,Nat.reduceMul,Nat.reduceLeDiff,Nat.reduceEqDiff,t0,t1,t7,t8,e3,decide_true,hs.ixm hlt,hs.ldm hlt];refine WF.val (hf L[k] (by simp) _ ⟨g,rfl⟩) ?_;rintro _ g1 rfl;cases hp:p L[k]with
  |true=>
   refine Ws @t8 ?_;rw[idxS,hi,hd,List.findIdx?_cons,hp];simp
  |false=>
   refine Ws (A2 @t8 (wrapN (show k+1<2^63 by omega))) ?_;refine⟨_,?_,k+1,by omega,rfl,?_,rfl⟩
   ·omega
   ·rw[hi,hd,List.findIdx?_cons,hp];simp only[Bool.false_eq_true,if_false,Option.map_map];congr 1;funext i;simp only[Function.comp];omega
 ·have e3:¬(k:Int)<L.length:=by omega
  have e4:k=L.length:=by omega
  refine Ws (A6 @t0 @t1 @t7 @t8 @e3 @decide_false) ?_;rw[idxS,hi,e4,List.drop_length];rfl
def r177{α:Type}{row L s f}(hs:IsSl h s 4 (L.map row))(hl:L.length<2^63)(p:α->Bool)
  (hf:∀x,x∈L->∀k,Ext h k->VCall P f [.agg (row x)] k (λv _=>v=.bool (p x))):RCall P 177 [s,f] h (λv _=>v=.i (idxS p L)):=by
 refine .of T.mix T.c177 ?_;unfold fn177;refine Ws hs.lenm ?_;refine WL.inv T.mix (λn ts h'=>∃k:Nat,k<=L.length/\n=L.length-k/\Ext h h'/\L.findIdx? p=((L.drop k).findIdx? p).map (· +k)/\ts.length=19/\slot ts 0=s/\slot ts 1=f/\slot ts 7=.i L.length/\slot ts 8=.i k) L.length
  ⟨0,by omega,rfl,Ext.refl h,by simp,rfl,rfl,rfl,rfl,rfl⟩ ?_
 rintro _ ts _ ⟨k,hk,rfl,⟨g,rfl⟩,hi,hlen,t0,t1,t7,t8⟩;rw[expl ts 19 hlen];by_cases hlt:k<L.length
 ·have hd:L.drop k=L[k]::L.drop (k+1):=by simp
  have e3:(k:Int)<L.length:=by omega
  simp only[wset,hset,dset,bset,Nat.reduceAdd,Nat.reduceMul,Nat.reduceLeDiff,Nat.reduceEqDiff,t0,t1,t7,t8,e3,decide_true,hs.ixm hlt,hs.ldm hlt];refine WF.val (hf L[k] (by simp) _ ⟨g,rfl⟩) ?_;rintro _ g1 rfl;cases hp:p L[k]with
  |true=>
   refine Ws @t8 ?_;rw[idxS,hi,hd,List.findIdx?_cons,hp];simp
  |false=>
   refine Ws (A2 @t8 (wrapN (show k+1<2^63 by omega))) ?_;refine⟨_,?_,k+1,by omega,rfl,?_,rfl⟩
   ·omega
   ·rw[hi,hd,List.findIdx?_cons,hp];simp only[Bool.false_eq_true,if_false,Option.map_map];congr 1;funext i;simp only[Function.comp];omega
 ·have e3:¬(k:Int)<L.length:=by omega
  have e4:k=L.length:=by omega
  refine Ws (A6 @t0 @t1 @t7 @t8 @e3 @decide_false) ?_;rw[idxS,hi,e4,List.drop_length];rfl
def r179{α:Type}{row L s f}(hs:IsSl h s 3 (L.map row))(hl:L.length<2^63)(p:α->Bool)
  (hf:∀x,x∈L->∀k,Ext h k->VCall P f [.agg (row x)] k (λv _=>v=.bool (p x))):RCall P 179 [s,f] h (λv _=>v=.i (idxS p L)):=by
 refine .of T.mix T.c179 ?_;unfold fn179;refine Ws hs.lenm ?_;refine WL.inv T.mix (λn ts h'=>∃k:Nat,k<=L.length/\n=L.length-k/\Ext h h'/\L.findIdx? p=((L.drop k).findIdx? p).map (· +k)/\ts.length=19/\slot ts 0=s/\slot ts 1=f/\slot ts 7=.i L.length/\slot ts 8=.i k) L.length
  ⟨0,by omega,rfl,Ext.refl h,by simp,rfl,rfl,rfl,rfl,rfl⟩ ?_
 rintro _ ts _ ⟨k,hk,rfl,⟨g,rfl⟩,hi,hlen,t0,t1,t7,t8⟩;rw[expl ts 19 hlen];by_cases hlt:k<L.length
 ·have hd:L.drop k=L[k]::L.drop (k+1):=by simp
  have e3:(k:Int)<L.length:=by omega
  simp only[wset,hset,dset,bset,Nat.reduceAdd,Nat.reduceMul,Nat.reduceLeDiff,Nat.reduceEqDiff,t0,t1,t7,t8,e3,decide_true,hs.ixm hlt,hs.ldm hlt];refine WF.val (hf L[k] (by simp) _ ⟨g,rfl⟩) ?_;rintro _ g1 rfl;cases hp:p L[k]with
  |true=>
   refine Ws @t8 ?_;rw[idxS,hi,hd,List.findIdx?_cons,hp];simp
  |false=>
   refine Ws (A2 @t8 (wrapN (show k+1<2^63 by omega))) ?_;refine⟨_,?_,k+1,by omega,rfl,?_,rfl⟩
   ·omega
   ·rw[hi,hd,List.findIdx?_cons,hp];simp only[Bool.false_eq_true,if_false,Option.map_map];congr 1;funext i;simp only[Function.comp];omega
 ·have e3:¬(k:Int)<L.length:=by omega
  have e4:k=L.length:=by omega
  refine Ws (A6 @t0 @t1 @t7 @t8 @e3 @decide_false) ?_;rw[idxS,hi,e4,List.drop_length];rfl
def r181{α:Type}{row L s f}(hs:IsSl h s 4 (L.map row))(hl:L.length<2^63)(p:α->Bool)
  (hf:∀x,x∈L->∀k,Ext h k->VCall P f [.agg (row x)] k (λv _=>v=.bool (p x))):RCall P 181 [s,f] h (λv _=>v=.i (idxS p L)):=by
 refine .of T.mix T.c181 ?_;unfold fn181;refine Ws hs.lenm ?_;refine WL.inv T.mix (λn ts h'=>∃k:Nat,k<=L.length/\n=L.length-k/\Ext h h'/\L.findIdx? p=((L.drop k).findIdx? p).map (· +k)/\ts.length=19/\slot ts 0=s/\slot ts 1=f/\slot ts 7=.i L.length/\slot ts 8=.i k) L.length
  ⟨0,by omega,rfl,Ext.refl h,by simp,rfl,rfl,rfl,rfl,rfl⟩ ?_
 rintro _ ts _ ⟨k,hk,rfl,⟨g,rfl⟩,hi,hlen,t0,t1,t7,t8⟩;rw[expl ts 19 hlen];by_cases hlt:k<L.length
 ·have hd:L.drop k=L[k]::L.drop (k+1):=by simp
  have e3:(k:Int)<L.length:=by omega
  simp only[wset,hset,dset,bset,Nat.reduceAdd,Nat.reduceMul,Nat.reduceLeDiff,Nat.reduceEqDiff,t0,t1,t7,t8,e3,decide_true,hs.ixm hlt,hs.ldm hlt];refine WF.val (hf L[k] (by simp) _ ⟨g,rfl⟩) ?_;rintro _ g1 rfl;cases hp:p L[k]with
  |true=>
   refine Ws @t8 ?_;rw[idxS,hi,hd,List.findIdx?_cons,hp];simp
  |false=>
   refine Ws (A2 @t8 (wrapN (show k+1<2^63 by omega))) ?_;refine⟨_,?_,k+1,by omega,rfl,?_,rfl⟩
   ·omega
   ·rw[hi,hd,List.findIdx?_cons,hp];simp only[Bool.false_eq_true,if_false,Option.map_map];congr 1;funext i;simp only[Function.comp];omega
 ·have e3:¬(k:Int)<L.length:=by omega
  have e4:k=L.length:=by omega
  refine Ws (A6 @t0 @t1 @t7 @t8 @e3 @decide_false) ?_;rw[idxS,hi,e4,List.drop_length];rfl
def r195{α:Type}{row:α->List AV}{L:List α}{s f:AV}(hs:IsSl h s 3 (L.map row))(hl:L.length<2^63)(p:α->Bool)
  (hf:∀x,x∈L->∀k,Ext h k->VCall P f [.agg (row x)] k (λv _=>v=.bool (p x))):RCall P 195 [s,f] h (λv _=>v=.bool (L.any p)):=by
 refine .of T.mix T.c195 ?_;unfold fn195;refine Wn ?_;refine WF.ce T.c173 (r173 T hs hl p hf) λg=>?_
 exact Ws @idx_any trivial
def r192{α:Type}{row:α->List AV}{L:List α}{s f:AV}(hs:IsSl h s 3 (L.map row))(hl:L.length<2^63)(p:α->Bool)
  (hf:∀x,x∈L->∀k,Ext h k->VCall P f [.agg (row x)] k (λv _=>v=.bool (p x))):RCall P 192 [s,f] h (λv _=>v=.bool (L.any p)):=by
 refine .of T.mix T.c192 ?_;unfold fn192;refine Wn ?_;refine WF.ce T.c98 (r98 T hs hl p hf) λg=>?_
 exact Ws @idx_any trivial
def r227{α:Type}{row:α->List AV}{L:List α}{s f:AV}(hs:IsSl h s 4 (L.map row))(hl:L.length<2^63)(p:α->Bool)
  (hf:∀x,x∈L->∀k,Ext h k->VCall P f [.agg (row x)] k (λv _=>v=.bool (p x))):RCall P 227 [s,f] h (λv _=>v=.bool (L.any p)):=by
 refine .of T.mix T.c227 ?_;unfold fn227;refine Wn ?_;refine WF.ce T.c181 (r181 T hs hl p hf) λg=>?_
 exact Ws @idx_any trivial
def r299(x:LnR):RCall P 299 [.agg (lnRow x)] h (λv _=>v=.str x.name):=by
 refine .of T.mix T.c299 ?_;unfold fn299 lnRow;exact Wn trivial
def r174(x:LnR){b n}(hb:h[b]? =some (.b [.str n])):RCall P 174 [.agg (lnRow x),.ptr b 0] h (λv _=>v=.bool (decide (x.name=n))):=by
 refine .of T.mix T.c174 ?_;unfold fn174;have hlt:=(List.getElem?_eq_some_iff.1 hb).1;have hld:∀g:AHeap,loadF none (.ptr b 0) (λz=>(h++g)[z]?)=ldB none 0 (.b [.str n]):=λg=>loadF_at (by rw[at_app _ hlt];exact hb)
 have hld2:∀g g':AHeap,loadF none (.ptr b 0) (λz=>(h++g++g')[z]?)=ldB none 0 (.b [.str n]):=λg g'=>loadF_at (by rw[List.append_assoc,at_app _ hlt];exact hb)
 unfold lnRow;refine Ws (A3 @hld @hld2 @conv_ifc) ?_;refine WF.val (VCall.meth T.m299 T.c299 (r299 T x)) ?_;rintro _ g1 rfl;exact Ws (A2 @hld @hld2) trivial
def r93{L s}(hs:IsSl h s 3 (L.map lnRow))(hl:L.length<2^63)(n:List UInt8):RCall P 93 [s,.str n] h (λv _=>v=.i (idxS (λx=>decide (x.name=n)) L)):=by
 refine .of T.mix T.c93 ?_;unfold fn93;refine Wn ?_;refine WF.ce T.c173 (r173 T (hs.ext (by repeat first|exact Ext.refl _|refine Ext.app _ ?_)) hl (λx=>decide (x.name=n)) (λx hx k e=>VCall.of (a:=[]) (c:=[.ptr h.length 0]) T.c174 (r174 T x (e.some at_new)))) λg1=>?_
 exact Wn trivial
def r300(x:TpR):RCall P 300 [.agg (tpRow x)] h (λv _=>v=.str x.name):=by
 refine .of T.mix T.c300 ?_;unfold fn300 tpRow;exact Wn trivial
def r176(x:TpR){b n}(hb:h[b]? =some (.b [.str n])):RCall P 176 [.agg (tpRow x),.ptr b 0] h (λv _=>v=.bool (decide (x.name=n))):=by
 refine .of T.mix T.c176 ?_;unfold fn176;have hlt:=(List.getElem?_eq_some_iff.1 hb).1;have hld:∀g:AHeap,loadF none (.ptr b 0) (λz=>(h++g)[z]?)=ldB none 0 (.b [.str n]):=λg=>loadF_at (by rw[at_app _ hlt];exact hb)
 have hld2:∀g g':AHeap,loadF none (.ptr b 0) (λz=>(h++g++g')[z]?)=ldB none 0 (.b [.str n]):=λg g'=>loadF_at (by rw[List.append_assoc,at_app _ hlt];exact hb)
 unfold tpRow;refine Ws (A3 @hld @hld2 @conv_ifc) ?_;refine WF.val (VCall.meth T.m300 T.c300 (r300 T x)) ?_;rintro _ g1 rfl;exact Ws (A2 @hld @hld2) trivial
def r94{L s}(hs:IsSl h s 2 (L.map tpRow))(hl:L.length<2^63)(n:List UInt8):RCall P 94 [s,.str n] h (λv _=>v=.i (idxS (λx=>decide (x.name=n)) L)):=by
 refine .of T.mix T.c94 ?_;unfold fn94;refine Wn ?_;refine WF.ce T.c175 (r175 T (hs.ext (by repeat first|exact Ext.refl _|refine Ext.app _ ?_)) hl (λx=>decide (x.name=n)) (λx hx k e=>VCall.of (a:=[]) (c:=[.ptr h.length 0]) T.c176 (r176 T x (e.some at_new)))) λg1=>?_
 exact Wn trivial
def r55(x:ShR×AV)(ho:x.2.one=true):RCall P 55 [.agg (shRow x)] h (λv _=>v=.str x.1.name):=by
 refine .of T.mix T.c55 ?_;unfold fn55 shRow;exact Ws @ho trivial
def r99(x:ShR×AV)(ho:x.2.one=true){b n}(hb:h[b]? =some (.b [.str n])):RCall P 99 [.agg (shRow x),.ptr b 0] h (λv _=>v=.bool (decide (x.1.name=n))):=by
 refine .of T.mix T.c99 ?_;unfold fn99;have hlt:=(List.getElem?_eq_some_iff.1 hb).1;have hld:∀g:AHeap,loadF none (.ptr b 0) (λz=>(h++g)[z]?)=ldB none 0 (.b [.str n]):=λg=>loadF_at (by rw[at_app _ hlt];exact hb)
 have hld2:∀g g':AHeap,loadF none (.ptr b 0) (λz=>(h++g++g')[z]?)=ldB none 0 (.b [.str n]):=λg g'=>loadF_at (by rw[List.append_assoc,at_app _ hlt];exact hb)
 unfold shRow;refine Ws (A4 @hld @hld2 @ho @conv_ifc) ?_;refine WF.val (VCall.meth T.m55 T.c55 (r55 T x ho)) ?_;rintro _ g1 rfl;exact Ws (A2 @hld @hld2) trivial
def r50{L s}(hs:IsSl h s 3 (L.map shRow))(ho:∀x∈L,x.2.one=true)(hl:L.length<2^63)(n:List UInt8):RCall P 50 [s,.str n] h (λv _=>v=.i (idxS (λx=>decide (x.1.name=n)) L)):=by
 refine .of T.mix T.c50 ?_;unfold fn50;refine Wn ?_;refine WF.ce T.c98 (r98 T (hs.ext (by repeat first|exact Ext.refl _|refine Ext.app _ ?_)) hl (λx=>decide (x.1.name=n)) (λx hx k e=>VCall.of (a:=[]) (c:=[.ptr h.length 0]) T.c99 (r99 T x (ho x hx) (e.some at_new)))) λg1=>?_
 exact Wn trivial
def r301(x:MdR×AV)(ho:x.2.one=true):RCall P 301 [.agg (mdRow x)] h (λv _=>v=.str x.1.name):=by
 refine .of T.mix T.c301 ?_;unfold fn301 mdRow;exact Ws @ho trivial
def r178(x:MdR×AV)(ho:x.2.one=true){b n}(hb:h[b]? =some (.b [.str n])):RCall P 178 [.agg (mdRow x),.ptr b 0] h (λv _=>v=.bool (decide (x.1.name=n))):=by
 refine .of T.mix T.c178 ?_;unfold fn178;have hlt:=(List.getElem?_eq_some_iff.1 hb).1;have hld:∀g:AHeap,loadF none (.ptr b 0) (λz=>(h++g)[z]?)=ldB none 0 (.b [.str n]):=λg=>loadF_at (by rw[at_app _ hlt];exact hb)
 have hld2:∀g g':AHeap,loadF none (.ptr b 0) (λz=>(h++g++g')[z]?)=ldB none 0 (.b [.str n]):=λg g'=>loadF_at (by rw[List.append_assoc,at_app _ hlt];exact hb)
 unfold mdRow;refine Ws (A4 @hld @hld2 @ho @conv_ifc) ?_;refine WF.val (VCall.meth T.m301 T.c301 (r301 T x ho)) ?_;rintro _ g1 rfl;exact Ws (A2 @hld @hld2) trivial
def r95{L s}(hs:IsSl h s 4 (L.map mdRow))(ho:∀x∈L,x.2.one=true)(hl:L.length<2^63)(n:List UInt8):RCall P 95 [s,.str n] h (λv _=>v=.i (idxS (λx=>decide (x.1.name=n)) L)):=by
 refine .of T.mix T.c95 ?_;unfold fn95;refine Wn ?_;refine WF.ce T.c177 (r177 T (hs.ext (by repeat first|exact Ext.refl _|refine Ext.app _ ?_)) hl (λx=>decide (x.1.name=n)) (λx hx k e=>VCall.of (a:=[]) (c:=[.ptr h.length 0]) T.c178 (r178 T x (ho x hx) (e.some at_new)))) λg1=>?_
 exact Wn trivial
def r302(x:JbR×AV)(ho:x.2.one=true):RCall P 302 [.agg (jbRow x)] h (λv _=>v=.str x.1.name):=by
 refine .of T.mix T.c302 ?_;unfold fn302 jbRow;exact Ws @ho trivial
def r180(x:JbR×AV)(ho:x.2.one=true){b n}(hb:h[b]? =some (.b [.str n])):RCall P 180 [.agg (jbRow x),.ptr b 0] h (λv _=>v=.bool (decide (x.1.name=n))):=by
 refine .of T.mix T.c180 ?_;unfold fn180;have hlt:=(List.getElem?_eq_some_iff.1 hb).1;have hld:∀g:AHeap,loadF none (.ptr b 0) (λz=>(h++g)[z]?)=ldB none 0 (.b [.str n]):=λg=>loadF_at (by rw[at_app _ hlt];exact hb)
 have hld2:∀g g':AHeap,loadF none (.ptr b 0) (λz=>(h++g++g')[z]?)=ldB none 0 (.b [.str n]):=λg g'=>loadF_at (by rw[List.append_assoc,at_app _ hlt];exact hb)
 unfold jbRow;refine Ws (A4 @hld @hld2 @ho @conv_ifc) ?_;refine WF.val (VCall.meth T.m302 T.c302 (r302 T x ho)) ?_;rintro _ g1 rfl;exact Ws (A2 @hld @hld2) trivial
def r96{L s}(hs:IsSl h s 3 (L.map jbRow))(ho:∀x∈L,x.2.one=true)(hl:L.length<2^63)(n:List UInt8):RCall P 96 [s,.str n] h (λv _=>v=.i (idxS (λx=>decide (x.1.name=n)) L)):=by
 refine .of T.mix T.c96 ?_;unfold fn96;refine Wn ?_;refine WF.ce T.c179 (r179 T (hs.ext (by repeat first|exact Ext.refl _|refine Ext.app _ ?_)) hl (λx=>decide (x.1.name=n)) (λx hx k e=>VCall.of (a:=[]) (c:=[.ptr h.length 0]) T.c180 (r180 T x (ho x hx) (e.some at_new)))) λg1=>?_
 exact Wn trivial
def r298(x:PcR):RCall P 298 [.agg (pcRow x)] h (λv _=>v=.str x.name):=by
 refine .of T.mix T.c298 ?_;unfold fn298 pcRow;exact Wn trivial
def r182(x:PcR){b n}(hb:h[b]? =some (.b [.str n])):RCall P 182 [.agg (pcRow x),.ptr b 0] h (λv _=>v=.bool (decide (x.name=n))):=by
 refine .of T.mix T.c182 ?_;unfold fn182;have hlt:=(List.getElem?_eq_some_iff.1 hb).1;have hld:∀g:AHeap,loadF none (.ptr b 0) (λz=>(h++g)[z]?)=ldB none 0 (.b [.str n]):=λg=>loadF_at (by rw[at_app _ hlt];exact hb)
 have hld2:∀g g':AHeap,loadF none (.ptr b 0) (λz=>(h++g++g')[z]?)=ldB none 0 (.b [.str n]):=λg g'=>loadF_at (by rw[List.append_assoc,at_app _ hlt];exact hb)
 unfold pcRow;refine Ws (A3 @hld @hld2 @conv_ifc) ?_;refine WF.val (VCall.meth T.m298 T.c298 (r298 T x)) ?_;rintro _ g1 rfl;exact Ws (A2 @hld @hld2) trivial
def r97{L s}(hs:IsSl h s 4 (L.map pcRow))(hl:L.length<2^63)(n:List UInt8):RCall P 97 [s,.str n] h (λv _=>v=.i (idxS (λx=>decide (x.name=n)) L)):=by
 refine .of T.mix T.c97 ?_;unfold fn97;refine Wn ?_;refine WF.ce T.c181 (r181 T (hs.ext (by repeat first|exact Ext.refl _|refine Ext.app _ ?_)) hl (λx=>decide (x.name=n)) (λx hx k e=>VCall.of (a:=[]) (c:=[.ptr h.length 0]) T.c182 (r182 T x (e.some at_new)))) λg1=>?_
 exact Wn trivial
end
end Go.Abs
namespace Go.Abs
def IsSl.nilq{h s es cs}(hs:IsSl h s es cs):(s=.nilSlice/\cs=[])\/(∀neg:Bool,eqvF neg (eqvK .nilS s .nilSlice)=some (.bool neg)):=by
 cases hs with
 |nil=>exact .inl ⟨rfl,rfl⟩
 |mk hb hf ho he=>right;intro neg;cases neg<;>rfl
def nilq_nil:eqvF false (eqvK .nilS .nilSlice .nilSlice)=some (.bool true):=rfl
attribute [local irreducible] WP WC WE WB WR WF WL WG WRg
section
variable {P:Program}(T:Tbl P) {h:AHeap}
include T
def r91{s cs}(hs:IsSl h s 1 cs)(hl:cs.length<=2^40):RCall P 91 [s] h (λv h'=>Fr h.length h' v 1 cs):=by
 refine .of T.mix T.c91 ?_;unfold fn91;rcases hs.nilq with⟨rfl,rfl⟩|hq
 ·refine Ws @nilq_nil ?_;exact .nil
 ·refine Ws @hq ?_;refine WR.appz (N:=h.length) at_new (Nat.le_refl _) (hs.ext (by repeat first|exact Ext.refl _|refine Ext.app _ ?_)) (by omega) λs' g hf=>?_
  refine Wn ?_;exact hf
def r92{s cs}(hs:IsSl h s 1 cs)(hl:cs.length<=2^40):RCall P 92 [s] h (λv h'=>Fr h.length h' v 1 cs):=by
 refine .of T.mix T.c92 ?_;unfold fn92;rcases hs.nilq with⟨rfl,rfl⟩|hq
 ·refine Ws @nilq_nil ?_;exact .nil
 ·refine Ws @hq ?_;refine WR.appz (N:=h.length) at_new (Nat.le_refl _) (hs.ext (by repeat first|exact Ext.refl _|refine Ext.app _ ?_)) (by omega) λs' g hf=>?_
  refine Wn ?_;exact hf
def r83{s cs}(hs:IsSl h s 2 cs)(hl:cs.length<=2^40):RCall P 83 [s] h (λv h'=>Fr h.length h' v 2 cs):=by
 refine .of T.mix T.c83 ?_;unfold fn83;rcases hs.nilq with⟨rfl,rfl⟩|hq
 ·refine Ws @nilq_nil ?_;exact .nil
 ·refine Ws @hq ?_;refine WR.appz (N:=h.length) at_new (Nat.le_refl _) (hs.ext (by repeat first|exact Ext.refl _|refine Ext.app _ ?_)) (by omega) λs' g hf=>?_
  refine Wn ?_;exact hf
def r85(x:ShR×AV)(hx:IsSl h x.2 1 (x.1.tapes.map strRow))(hl:x.1.tapes.length<=2^40):RCall P 85 [.agg (shRow x)] h (λv h'=>∃s',v=.agg (shRow (x.1,s'))/\Fr h.length h' s' 1 (x.1.tapes.map strRow)):=by
 refine .of T.mix T.c85 ?_;obtain⟨ts,hts⟩:∃ts,ts=startTS 8 [.agg (shRow x)]:=⟨_,rfl⟩;have hlen:ts.length=8:=by rw[hts];rfl
 have t0:slot ts 0=.agg (shRow x):=by rw[hts];rfl
 unfold fn85;show WC P inFn _ [] (startTS 8 [.agg (shRow x)]) h _;rw[<-hts];clear hts;have o1:=hx.one;unfold shRow at t0 ⊢;refine Rs (A2 @t0 @o1) ?_;refine WF.res T.c91 (r91 T (hx.ext Xx) (by simp;omega)) ?_;rintro s' g1 hf;have o2:=hf.isSl.one;refine Rs (A3 @t0 @o1 @o2) ?_;exact⟨s',rfl,(Fr.swap hf (by simp)).low (by simp)⟩
def r87(x:MdR×AV)(hx:IsSl h x.2 1 (x.1.inputs.map strRow))(hl:x.1.inputs.length<=2^40):RCall P 87 [.agg (mdRow x)] h (λv h'=>∃s',v=.agg (mdRow (x.1,s'))/\Fr h.length h' s' 1 (x.1.inputs.map strRow)):=by
 refine .of T.mix T.c87 ?_;obtain⟨ts,hts⟩:∃ts,ts=startTS 8 [.agg (mdRow x)]:=⟨_,rfl⟩;have hlen:ts.length=8:=by rw[hts];rfl
 have t0:slot ts 0=.agg (mdRow x):=by rw[hts];rfl
 unfold fn87;show WC P inFn _ [] (startTS 8 [.agg (mdRow x)]) h _;rw[<-hts];clear hts;have o1:=hx.one;unfold mdRow at t0 ⊢;refine Rs (A2 @t0 @o1) ?_;refine WF.res T.c91 (r91 T (hx.ext Xx) (by simp;omega)) ?_;rintro s' g1 hf;have o2:=hf.isSl.one;refine Rs (A3 @t0 @o1 @o2) ?_;exact⟨s',rfl,(Fr.swap hf (by simp)).low (by simp)⟩
def r89(x:JbR×AV)(hx:IsSl h x.2 1 (x.1.sums.map intRow))(hl:x.1.sums.length<=2^40):RCall P 89 [.agg (jbRow x)] h (λv h'=>∃s',v=.agg (jbRow (x.1,s'))/\Fr h.length h' s' 1 (x.1.sums.map intRow)):=by
 refine .of T.mix T.c89 ?_;obtain⟨ts,hts⟩:∃ts,ts=startTS 8 [.agg (jbRow x)]:=⟨_,rfl⟩;have hlen:ts.length=8:=by rw[hts];rfl
 have t0:slot ts 0=.agg (jbRow x):=by rw[hts];rfl
 unfold fn89;show WC P inFn _ [] (startTS 8 [.agg (jbRow x)]) h _;rw[<-hts];clear hts;have o1:=hx.one;unfold jbRow at t0 ⊢;refine Rs (A2 @t0 @o1) ?_;refine WF.res T.c92 (r92 T (hx.ext Xx) (by simp;omega)) ?_;rintro s' g1 hf;have o2:=hf.isSl.one;refine Rs (A3 @t0 @o1 @o2) ?_;exact⟨s',rfl,(Fr.swap hf (by simp)).low (by simp)⟩
set_option maxRecDepth 10000 in
def r45(x:EV)(hx:EvOk h x)(hl:x.ev.names.length<=2^40/\x.ev.vals.length<=2^40):RCall P 45 [.agg x.row] h (λv h'=>∃x':EV,x'.ev=x.ev/\v=.agg x'.row/\Fr h.length h' x'.sn 1 (x.ev.names.map strRow)/\Fr h.length h' x'.sv 1 (x.ev.vals.map intRow)):=by
 refine .of T.mix T.c45 ?_;obtain⟨ts,hts⟩:∃ts,ts=startTS 12 [.agg x.row]:=⟨_,rfl⟩;have hlen:ts.length=12:=by rw[hts];rfl
 have t0:slot ts 0=.agg x.row:=by rw[hts];rfl
 unfold fn45;show WC P inFn _ [] (startTS 12 [.agg x.row]) h _;rw[<-hts];clear hts;have o1:=hx.n.one;have o2:=hx.v.one;unfold EV.row at t0 ⊢;refine Rs (A3 @t0 @o1 @o2) ?_;refine WF.res T.c91 (r91 T (hx.n.ext Xx) (by simp;omega)) ?_;rintro s1 g1 hf1;have o3:=hf1.isSl.one;refine Rs (A4 @t0 @o1 @o2 @o3) ?_;refine WF.res T.c92 (r92 T (hx.v.ext Xx) (by simp;omega)) ?_;rintro s2 g2 hf2;have o4:=hf2.isSl.one;refine Rs (A5 @t0 @o1 @o2 @o3 @o4) ?_;refine⟨⟨x.ev,s1,s2⟩,rfl,rfl,?_,?_⟩
 ·exact((Fr.swap hf1 (by simp)).app _).low (by simp)
 ·exact(Fr.swap hf2 (by simp)).low (by simp)
def r66{L:List (List UInt8)}{s f:AV}(hs:IsSl h s 1 (L.map strRow))(hl:L.length<=2^40)(F:(List UInt8)->Int)(hf:∀x,x∈L->∀k,Ext h k->VCall P f [.str x] k (λv _=>v=.i (F x))):
  RCall P 66 [s,f] h (λv h'=>Fr h.length h' v 1 ((L.map F).map intRow)):=by
 refine .of T.mix T.c66 ?_;unfold fn66;refine Ws hs.lenm ?_;refine WL.inv T.mix (λn ts h'=>∃(k:Nat) (out:AV),k<=L.length/\n=L.length-k/\Ext h h'/\Fr h.length h' out 1 (((L.take k).map F).map intRow)/\ts.length=22/\slot ts 1=f/\slot ts 5=out/\slot ts 8=s/\slot ts 9=.i L.length/\slot ts 10=.i k) L.length
  ⟨0,.nilSlice,by omega,rfl,Ext.refl h,.nil,rfl,rfl,rfl,rfl,rfl,rfl⟩ ?_
 rintro _ ts _ ⟨k,out,hk,rfl,⟨g,rfl⟩,hfr,hlen,t1,t5,t8,t9,t10⟩;rw[expl ts 22 hlen];by_cases hlt:k<L.length
 ·have e3:(k:Int)<L.length:=by omega
  have hvk:=hf L[k] (by simp);have ld1:∀{kk:AHeap},Ext h kk->loadF none (elp s 1 k) (λb=>kk[b]?)=some (.str L[k],.keep):=λ{kk} e=>hs.l1m hlt rfl e
  simp only[wset,hset,dset,bset,Nat.reduceAdd,Nat.reduceMul,Nat.reduceLeDiff,Nat.reduceEqDiff,t1,t5,t8,t9,t10,e3,decide_true,hs.ixm hlt,ld1];refine WF.val (hvk _ (by repeat first|exact Ext.refl _|refine Ext.app _ ?_)) ?_;rintro _ g1 rfl;refine Wn ?_;refine WR.app1 (h0:=h) (cs:=((L.take k).map F).map intRow) (ys:=[intRow (F L[k])]) (((hfr.app _).app _)) (Fr.push (N:=0) (Nat.zero_le _) [intRow (F L[k])] (by simp[intRow])).isSl (by decide) (by simp) (by simp;omega) (by simp only[eset]) ?_;intro g' hl' hff hkp;have hrow:((L.take k).map F).map intRow++[intRow (F L[k])]=((L.take (k+1)).map F).map intRow:=by rw[List.take_add_one,List.getElem?_eq_getElem hlt,List.map_append,List.map_append];rfl
  rw[hrow]at hff;rw[hrow];refine Ws (A6 @t1 @t5 @t8 @t9 @t10 (wrapN (show k+1<2^63 by omega))) ?_;refine⟨_,?_,k+1,_,by omega,rfl,hff,rfl,rfl⟩;omega
 ·have e3:¬(k:Int)<L.length:=by omega
  have e4:k=L.length:=by omega
  refine Ws (A7 @t1 @t5 @t8 @t9 @t10 @e3 @decide_false) ?_;rw[e4,List.take_length]at hfr;exact hfr
def r69{L:List (Int)}{s f:AV}(hs:IsSl h s 1 (L.map intRow))(hl:L.length<=2^40)(F:(Int)->Int)(hf:∀x,x∈L->∀k,Ext h k->VCall P f [.i x] k (λv _=>v=.i (F x))):
  RCall P 69 [s,f] h (λv h'=>Fr h.length h' v 1 ((L.map F).map intRow)):=by
 refine .of T.mix T.c69 ?_;unfold fn69;refine Ws hs.lenm ?_;refine WL.inv T.mix (λn ts h'=>∃(k:Nat) (out:AV),k<=L.length/\n=L.length-k/\Ext h h'/\Fr h.length h' out 1 (((L.take k).map F).map intRow)/\ts.length=22/\slot ts 1=f/\slot ts 5=out/\slot ts 8=s/\slot ts 9=.i L.length/\slot ts 10=.i k) L.length
  ⟨0,.nilSlice,by omega,rfl,Ext.refl h,.nil,rfl,rfl,rfl,rfl,rfl,rfl⟩ ?_
 rintro _ ts _ ⟨k,out,hk,rfl,⟨g,rfl⟩,hfr,hlen,t1,t5,t8,t9,t10⟩;rw[expl ts 22 hlen];by_cases hlt:k<L.length
 ·have e3:(k:Int)<L.length:=by omega
  have hvk:=hf L[k] (by simp);have ld1:∀{kk:AHeap},Ext h kk->loadF none (elp s 1 k) (λb=>kk[b]?)=some (.i L[k],.keep):=λ{kk} e=>hs.l1m hlt rfl e
  simp only[wset,hset,dset,bset,Nat.reduceAdd,Nat.reduceMul,Nat.reduceLeDiff,Nat.reduceEqDiff,t1,t5,t8,t9,t10,e3,decide_true,hs.ixm hlt,ld1];refine WF.val (hvk _ (by repeat first|exact Ext.refl _|refine Ext.app _ ?_)) ?_;rintro _ g1 rfl;refine Wn ?_;refine WR.app1 (h0:=h) (cs:=((L.take k).map F).map intRow) (ys:=[intRow (F L[k])]) (((hfr.app _).app _)) (Fr.push (N:=0) (Nat.zero_le _) [intRow (F L[k])] (by simp[intRow])).isSl (by decide) (by simp) (by simp;omega) (by simp only[eset]) ?_;intro g' hl' hff hkp;have hrow:((L.take k).map F).map intRow++[intRow (F L[k])]=((L.take (k+1)).map F).map intRow:=by rw[List.take_add_one,List.getElem?_eq_getElem hlt,List.map_append,List.map_append];rfl
  rw[hrow]at hff;rw[hrow];refine Ws (A6 @t1 @t5 @t8 @t9 @t10 (wrapN (show k+1<2^63 by omega))) ?_;refine⟨_,?_,k+1,_,by omega,rfl,hff,rfl,rfl⟩;omega
 ·have e3:¬(k:Int)<L.length:=by omega
  have e4:k=L.length:=by omega
  refine Ws (A7 @t1 @t5 @t8 @t9 @t10 @e3 @decide_false) ?_;rw[e4,List.take_length]at hfr;exact hfr
def r52{L:List (ShR×AV)}{s f:AV}(hs:IsSl h s 3 (L.map shRow))(ho:∀x∈L,x.2.one=true)(hl:L.length<=2^40)(F:(ShR×AV)->List UInt8)(hf:∀x,x∈L->∀k,Ext h k->VCall P f [.agg (shRow x)] k (λv _=>v=.str (F x))):
  RCall P 52 [s,f] h (λv h'=>Fr h.length h' v 1 ((L.map F).map strRow)):=by
 refine .of T.mix T.c52 ?_;unfold fn52;refine Ws hs.lenm ?_;refine WL.inv T.mix (λn ts h'=>∃(k:Nat) (out:AV),k<=L.length/\n=L.length-k/\Ext h h'/\Fr h.length h' out 1 (((L.take k).map F).map strRow)/\ts.length=22/\slot ts 1=f/\slot ts 5=out/\slot ts 8=s/\slot ts 9=.i L.length/\slot ts 10=.i k) L.length
  ⟨0,.nilSlice,by omega,rfl,Ext.refl h,.nil,rfl,rfl,rfl,rfl,rfl,rfl⟩ ?_
 rintro _ ts _ ⟨k,out,hk,rfl,⟨g,rfl⟩,hfr,hlen,t1,t5,t8,t9,t10⟩;rw[expl ts 22 hlen];by_cases hlt:k<L.length
 ·have e3:(k:Int)<L.length:=by omega
  have hvk:=hf L[k] (by simp);simp only[wset,hset,dset,bset,Nat.reduceAdd,Nat.reduceMul,Nat.reduceLeDiff,Nat.reduceEqDiff,t1,t5,t8,t9,t10,e3,decide_true,hs.ixm hlt,hs.ldm hlt,shRow,ho L[k] (by simp)];refine WF.val (hvk _ (by repeat first|exact Ext.refl _|refine Ext.app _ ?_)) ?_;rintro _ g1 rfl;refine Wn ?_;refine WR.app1 (h0:=h) (cs:=((L.take k).map F).map strRow) (ys:=[strRow (F L[k])]) ((((hfr.app _).app _).app _)) (Fr.push (N:=0) (Nat.zero_le _) [strRow (F L[k])] (by simp[strRow])).isSl (by decide) (by simp) (by simp;omega) (by simp only[eset]) ?_;intro g' hl' hff hkp;have hrow:((L.take k).map F).map strRow++[strRow (F L[k])]=((L.take (k+1)).map F).map strRow:=by rw[List.take_add_one,List.getElem?_eq_getElem hlt,List.map_append,List.map_append];rfl
  rw[hrow]at hff;rw[hrow];refine Ws (A6 @t1 @t5 @t8 @t9 @t10 (wrapN (show k+1<2^63 by omega))) ?_;refine⟨_,?_,k+1,_,by omega,rfl,hff,rfl,rfl⟩;omega
 ·have e3:¬(k:Int)<L.length:=by omega
  have e4:k=L.length:=by omega
  refine Ws (A7 @t1 @t5 @t8 @t9 @t10 @e3 @decide_false) ?_;rw[e4,List.take_length]at hfr;exact hfr
set_option maxRecDepth 10000 in
def r53{L:List (ShR×AV)}{s f:AV}(hs:IsSl h s 3 (L.map shRow))(ho:∀x∈L,x.2.one=true)(hl:L.length<=2^38)(p:(ShR×AV)->Bool)(hf:∀x,x∈L->∀k,Ext h k->VCall P f [.agg (shRow x)] k (λv _=>v=.bool (p x))):
  RCall P 53 [s,f] h (λv h'=>Fr h.length h' v 3 ((L.filter p).map shRow)):=by
 refine .of T.mix T.c53 ?_;unfold fn53;refine Ws hs.lenm ?_;refine WL.inv T.mix (λn ts h'=>∃(k:Nat) (out:AV),k<=L.length/\n=L.length-k/\Ext h h'/\Fr h.length h' out 3 (((L.take k).filter p).map shRow)/\ts.length=23/\slot ts 1=f/\slot ts 5=out/\slot ts 8=s/\slot ts 9=.i L.length/\slot ts 10=.i k) L.length
  ⟨0,.nilSlice,by omega,rfl,Ext.refl h,.nil,rfl,rfl,rfl,rfl,rfl,rfl⟩ ?_
 rintro _ ts _ ⟨k,out,hk,rfl,⟨g,rfl⟩,hfr,hlen,t1,t5,t8,t9,t10⟩;rw[expl ts 23 hlen];by_cases hlt:k<L.length
 ·have e3:(k:Int)<L.length:=by omega
  have hvk:=hf L[k] (by simp);have htk:(L.take (k+1)).filter p=(L.take k).filter p++(if p L[k]=true then [L[k]]else []):=by
   rw[List.take_add_one,List.getElem?_eq_getElem hlt,List.filter_append];congr 1;cases hp:p L[k]<;>simp[hp]
  have hfl:((L.take k).filter p).length<=L.length:=Nat.le_trans (List.length_filter_le _ _) (by rw[List.length_take];omega);simp only[wset,hset,dset,bset,Nat.reduceAdd,Nat.reduceMul,Nat.reduceLeDiff,Nat.reduceEqDiff,t1,t5,t8,t9,t10,e3,decide_true,hs.ixm hlt,hs.ldm hlt,shRow,ho L[k] (by simp)];refine WF.val (hvk _ (by repeat first|exact Ext.refl _|refine Ext.app _ ?_)) ?_;rintro _ g1 rfl;cases hp:p L[k]with
  |true=>
   rw[hp,if_pos rfl]at htk;simp only[wset,hset,dset,bset,Nat.reduceAdd,Nat.reduceMul,Nat.reduceLeDiff,Nat.reduceEqDiff,ho L[k] (by simp)];refine WR.app1 (h0:=h) (cs:=((L.take k).filter p).map shRow) (ys:=[shRow L[k]]) (((hfr.app _).app _).app _) (Fr.push (N:=0) (Nat.zero_le _) [shRow L[k]] (by simp[shRow])).isSl (by decide) (by simp) (by simp only[List.length_map,List.length_cons,List.length_nil];omega) (by simp only[eset]) ?_;intro g' hl' hff hkp;have hrow:((L.take k).filter p).map shRow++[shRow L[k]]=((L.take (k+1)).filter p).map shRow:=by rw[htk,List.map_append];rfl
   rw[hrow]at hff;rw[hrow];refine Ws (A6 @t1 @t5 @t8 @t9 @t10 (wrapN (show k+1<2^63 by omega))) ?_;refine⟨_,?_,k+1,_,by omega,rfl,hff,rfl,rfl⟩;omega
  |false=>
   rw[hp,if_neg (by decide),List.append_nil]at htk;refine Ws (A6 @t1 @t5 @t8 @t9 @t10 (wrapN (show k+1<2^63 by omega))) ?_;refine⟨_,?_,k+1,out,by omega,rfl,by rw[htk];exact(hfr.app _).app _,rfl,rfl⟩;omega
 ·have e3:¬(k:Int)<L.length:=by omega
  have e4:k=L.length:=by omega
  refine Ws (A7 @t1 @t5 @t8 @t9 @t10 @e3 @decide_false) ?_;rw[e4,List.take_length]at hfr;exact hfr
set_option maxRecDepth 10000 in
def r225{L:List (LnR)}{s f:AV}(hs:IsSl h s 3 (L.map lnRow))(hl:L.length<=2^38)(p:(LnR)->Bool)(hf:∀x,x∈L->∀k,Ext h k->VCall P f [.agg (lnRow x)] k (λv _=>v=.bool (p x))):
  RCall P 225 [s,f] h (λv h'=>Fr h.length h' v 3 ((L.filter p).map lnRow)):=by
 refine .of T.mix T.c225 ?_;unfold fn225;refine Ws hs.lenm ?_;refine WL.inv T.mix (λn ts h'=>∃(k:Nat) (out:AV),k<=L.length/\n=L.length-k/\Ext h h'/\Fr h.length h' out 3 (((L.take k).filter p).map lnRow)/\ts.length=23/\slot ts 1=f/\slot ts 5=out/\slot ts 8=s/\slot ts 9=.i L.length/\slot ts 10=.i k) L.length
  ⟨0,.nilSlice,by omega,rfl,Ext.refl h,.nil,rfl,rfl,rfl,rfl,rfl,rfl⟩ ?_
 rintro _ ts _ ⟨k,out,hk,rfl,⟨g,rfl⟩,hfr,hlen,t1,t5,t8,t9,t10⟩;rw[expl ts 23 hlen];by_cases hlt:k<L.length
 ·have e3:(k:Int)<L.length:=by omega
  have hvk:=hf L[k] (by simp);have htk:(L.take (k+1)).filter p=(L.take k).filter p++(if p L[k]=true then [L[k]]else []):=by
   rw[List.take_add_one,List.getElem?_eq_getElem hlt,List.filter_append];congr 1;cases hp:p L[k]<;>simp[hp]
  have hfl:((L.take k).filter p).length<=L.length:=Nat.le_trans (List.length_filter_le _ _) (by rw[List.length_take];omega);simp only[wset,hset,dset,bset,Nat.reduceAdd,Nat.reduceMul,Nat.reduceLeDiff,Nat.reduceEqDiff,t1,t5,t8,t9,t10,e3,decide_true,hs.ixm hlt,hs.ldm hlt,lnRow];refine WF.val (hvk _ (by repeat first|exact Ext.refl _|refine Ext.app _ ?_)) ?_;rintro _ g1 rfl;cases hp:p L[k]with
  |true=>
   rw[hp,if_pos rfl]at htk;refine Wn ?_;refine WR.app1 (h0:=h) (cs:=((L.take k).filter p).map lnRow) (ys:=[lnRow L[k]]) (((hfr.app _).app _).app _) (Fr.push (N:=0) (Nat.zero_le _) [lnRow L[k]] (by simp[lnRow])).isSl (by decide) (by simp) (by simp only[List.length_map,List.length_cons,List.length_nil];omega) (by simp only[eset]) ?_;intro g' hl' hff hkp;have hrow:((L.take k).filter p).map lnRow++[lnRow L[k]]=((L.take (k+1)).filter p).map lnRow:=by rw[htk,List.map_append];rfl
   rw[hrow]at hff;rw[hrow];refine Ws (A6 @t1 @t5 @t8 @t9 @t10 (wrapN (show k+1<2^63 by omega))) ?_;refine⟨_,?_,k+1,_,by omega,rfl,hff,rfl,rfl⟩;omega
  |false=>
   rw[hp,if_neg (by decide),List.append_nil]at htk;refine Ws (A6 @t1 @t5 @t8 @t9 @t10 (wrapN (show k+1<2^63 by omega))) ?_;refine⟨_,?_,k+1,out,by omega,rfl,by rw[htk];exact(hfr.app _).app _,rfl,rfl⟩;omega
 ·have e3:¬(k:Int)<L.length:=by omega
  have e4:k=L.length:=by omega
  refine Ws (A7 @t1 @t5 @t8 @t9 @t10 @e3 @decide_false) ?_;rw[e4,List.take_length]at hfr;exact hfr
end
end Go.Abs
namespace Go.Abs
attribute [local irreducible] WP WC WE WB WR WF WL WG WRg
section
variable {P:Program}(T:Tbl P) {h:AHeap}
include T
set_option maxRecDepth 10000 in
def r84{L:List (ShR×AV)}{s:AV}(hs:IsSl h s 3 (L.map shRow))(he:∀x∈L,IsSl h x.2 1 (x.1.tapes.map strRow))(hl:L.length<=2^30)(hle:∀x∈L,x.1.tapes.length<=2^40):
  RCall P 84 [s,.func (.func 85) [] []] h (λv h'=>∃L':List (ShR×AV),L'.map Prod.fst=L.map Prod.fst/\Fr h.length h' v 3 (L'.map shRow)/\(∀x∈L',Fr h.length h' x.2 1 (x.1.tapes.map strRow))/\Dis (sB v::L'.map λx=>sB x.2)):=by
 refine .of T.mix T.c84 ?_;unfold fn84;refine Ws hs.lenm ?_;refine WL.inv T.mix (λn ts h'=>∃(k:Nat) (out:AV) (L':List (ShR×AV)),k<=L.length/\n=L.length-k/\Ext h h'/\L'.map Prod.fst=(L.take k).map Prod.fst/\Fr h.length h' out 3 (L'.map shRow)/\(∀x∈L',Fr h.length h' x.2 1 (x.1.tapes.map strRow))/\Dis (sB out::L'.map λx=>sB x.2)/\
   ts.length=22/\slot ts 1=.func (.func 85) [] []/\slot ts 5=out/\slot ts 8=s/\slot ts 9=.i L.length/\slot ts 10=.i k) L.length
  ⟨0,.nilSlice,[],by omega,rfl,Ext.refl h,rfl,.nil,(λx hx=>by cases hx),List.pairwise_singleton _ _,rfl,rfl,rfl,rfl,rfl,rfl⟩ ?_
 rintro _ ts _ ⟨k,out,L',hk,rfl,⟨g,rfl⟩,hm,hfr,hin,hdi,hlen,t1,t5,t8,t9,t10⟩;rw[expl ts 22 hlen];have hL':L'.length=k:=by have:=congrArg List.length hm;simp at this;omega
 by_cases hlt:k<L.length
 ·have e3:(k:Int)<L.length:=by omega
  have hxk:=he L[k] (by simp);have hlk:=hle L[k] (by simp);have ox:=hxk.one;have ldx:∀{kk:AHeap},Ext h kk->loadF (some 3) (elp s 3 k) (λb=>kk[b]?)=some (.agg (shRow L[k]),.keep):=λ{kk} e=>hs.ldm hlt e
  unfold shRow at ldx;simp only[wset,hset,dset,bset,Nat.reduceAdd,Nat.reduceMul,Nat.reduceLeDiff,Nat.reduceEqDiff,t1,t5,t8,t9,t10,e3,decide_true,hs.ixm hlt,ldx,ox];have hown:=λkk (e:Ext h kk)=>r85 T (h:=kk) L[k] (hxk.ext e) hlk
  unfold shRow at hown;refine WF.res T.c85 (hown _ (by repeat first|exact Ext.refl _|refine Ext.app _ ?_)) ?_;rintro _ g1 ⟨s',rfl,hf'⟩;have os:=hf'.isSl.one;refine Ws @os ?_;refine WR.app1 (h0:=h) (cs:=L'.map shRow) (ys:=[shRow (L[k].1,s')]) ((((hfr.app _).app _).app _)) (Fr.push (N:=0) (Nat.zero_le _) [shRow (L[k].1,s')] (by simp[shRow])).isSl (by decide) (by simp) (by simp only[List.length_map,List.length_cons,List.length_nil];omega) (by simp only[eset]) ?_;intro g' hl' hff hkp;have hrow:L'.map shRow++[shRow (L[k].1,s')]=(L'++[(L[k].1,s')]).map shRow:=by rw[List.map_append];rfl
  rw[hrow]at hff;rw[hrow];refine Ws (A6 @t1 @t5 @t8 @t9 @t10 (wrapN (show k+1<2^63 by omega))) ?_;have hout:∀b,sB out=some b->b<(h++g).length:=λb hb=>(hfr.sBlt hb).2
  have hnew:∀b,sB s' =some b->(h++g).length<=b/\b<(h++g).length+(1+g1.length):=λb hb=>by
   have:=hf'.sBlt hb;simp only[List.length_append,List.length_cons,List.length_nil]at this ⊢;omega
  have hold:∀x∈L',∀b,sB x.2=some b->b<(h++g).length/\sB out≠some b:=λx hx b hb=>by
   refine⟨((hin x hx).sBlt hb).2,λe=>?_⟩;exact(List.pairwise_cons.1 hdi).1 _ (List.mem_map_of_mem hx) b e hb
  refine⟨_,?_,k+1,_,L'++[(L[k].1,s')],by omega,rfl,?_,hff,?_,?_,rfl,rfl⟩
  ·omega
  ·rw[List.map_append,hm,List.take_add_one,List.getElem?_eq_getElem hlt,List.map_append];rfl
  ·intro x hx;rcases List.mem_append.1 hx with hx|hx
   ·refine((((hin x hx).app _).app _).app _).sBkeep λb hb=>hkp b ?_ λb0 o n e hso=>?_
    ·have:=(hold x hx b hb).1;simp only[List.length_append]at this ⊢;omega
    ·intro e;subst e;exact(hold x hx b hb).2 (by rw[hso];rfl)
   ·rw[List.mem_singleton]at hx;subst hx;refine Fr.low (N:=(h++g++[ABlk.cells [] true true]).length) ?_ (by simp only[List.length_append];omega);refine Fr.sBkeep (h:=_) ((hf'.app _).low ?_) λb hb=>hkp b ?_ λb0 o n e hso=>?_
    ·simp
    ·have:=hnew b hb;simp only[List.length_append,List.length_cons,List.length_nil]at this ⊢;omega
    ·intro e;subst e;have h1:=hout b (by rw[hso];rfl);have h2:=(hnew b hb).1;omega
  ·have em:(L'++[(L[k].1,s')]).map (λx=>sB x.2)=(L'.map λx=>sB x.2)++[sB s']:=by rw[List.map_append];rfl
   rw[em];refine List.pairwise_cons.2 ⟨?_,List.pairwise_append.2 ⟨(List.pairwise_cons.1 hdi).2,List.pairwise_singleton _ _,?_⟩⟩
   ·intro y hy b hb hyb;cases hb;rcases List.mem_append.1 hy with hy|hy
    ·obtain⟨x,hx,rfl⟩:=List.mem_map.1 hy;have:=(hold x hx _ hyb).1;simp only[List.length_append]at this;omega
    ·rw[List.mem_singleton]at hy;rw[hy]at hyb;have:=(hnew _ hyb).2;simp only[List.length_append,List.length_cons,List.length_nil]at this;omega
   ·intro y hy z hz b hb hzb;obtain⟨x,hx,rfl⟩:=List.mem_map.1 hy;rw[List.mem_singleton]at hz;rw[hz]at hzb;have h1:=(hold x hx _ hb).1;have h2:=(hnew _ hzb).1;omega
 ·have e3:¬(k:Int)<L.length:=by omega
  have e4:k=L.length:=by omega
  refine Ws (A7 @t1 @t5 @t8 @t9 @t10 @e3 @decide_false) ?_;rw[e4,List.take_length]at hm;exact⟨L',hm,hfr,hin,hdi⟩
set_option maxRecDepth 10000 in
def r86{L:List (MdR×AV)}{s:AV}(hs:IsSl h s 4 (L.map mdRow))(he:∀x∈L,IsSl h x.2 1 (x.1.inputs.map strRow))(hl:L.length<=2^30)(hle:∀x∈L,x.1.inputs.length<=2^40):
  RCall P 86 [s,.func (.func 87) [] []] h (λv h'=>∃L':List (MdR×AV),L'.map Prod.fst=L.map Prod.fst/\Fr h.length h' v 4 (L'.map mdRow)/\(∀x∈L',Fr h.length h' x.2 1 (x.1.inputs.map strRow))/\Dis (sB v::L'.map λx=>sB x.2)):=by
 refine .of T.mix T.c86 ?_;unfold fn86;refine Ws hs.lenm ?_;refine WL.inv T.mix (λn ts h'=>∃(k:Nat) (out:AV) (L':List (MdR×AV)),k<=L.length/\n=L.length-k/\Ext h h'/\L'.map Prod.fst=(L.take k).map Prod.fst/\Fr h.length h' out 4 (L'.map mdRow)/\(∀x∈L',Fr h.length h' x.2 1 (x.1.inputs.map strRow))/\Dis (sB out::L'.map λx=>sB x.2)/\
   ts.length=22/\slot ts 1=.func (.func 87) [] []/\slot ts 5=out/\slot ts 8=s/\slot ts 9=.i L.length/\slot ts 10=.i k) L.length
  ⟨0,.nilSlice,[],by omega,rfl,Ext.refl h,rfl,.nil,(λx hx=>by cases hx),List.pairwise_singleton _ _,rfl,rfl,rfl,rfl,rfl,rfl⟩ ?_
 rintro _ ts _ ⟨k,out,L',hk,rfl,⟨g,rfl⟩,hm,hfr,hin,hdi,hlen,t1,t5,t8,t9,t10⟩;rw[expl ts 22 hlen];have hL':L'.length=k:=by have:=congrArg List.length hm;simp at this;omega
 by_cases hlt:k<L.length
 ·have e3:(k:Int)<L.length:=by omega
  have hxk:=he L[k] (by simp);have hlk:=hle L[k] (by simp);have ox:=hxk.one;have ldx:∀{kk:AHeap},Ext h kk->loadF (some 4) (elp s 4 k) (λb=>kk[b]?)=some (.agg (mdRow L[k]),.keep):=λ{kk} e=>hs.ldm hlt e
  unfold mdRow at ldx;simp only[wset,hset,dset,bset,Nat.reduceAdd,Nat.reduceMul,Nat.reduceLeDiff,Nat.reduceEqDiff,t1,t5,t8,t9,t10,e3,decide_true,hs.ixm hlt,ldx,ox];have hown:=λkk (e:Ext h kk)=>r87 T (h:=kk) L[k] (hxk.ext e) hlk
  unfold mdRow at hown;refine WF.res T.c87 (hown _ (by repeat first|exact Ext.refl _|refine Ext.app _ ?_)) ?_;rintro _ g1 ⟨s',rfl,hf'⟩;have os:=hf'.isSl.one;refine Ws @os ?_;refine WR.app1 (h0:=h) (cs:=L'.map mdRow) (ys:=[mdRow (L[k].1,s')]) ((((hfr.app _).app _).app _)) (Fr.push (N:=0) (Nat.zero_le _) [mdRow (L[k].1,s')] (by simp[mdRow])).isSl (by decide) (by simp) (by simp only[List.length_map,List.length_cons,List.length_nil];omega) (by simp only[eset]) ?_;intro g' hl' hff hkp;have hrow:L'.map mdRow++[mdRow (L[k].1,s')]=(L'++[(L[k].1,s')]).map mdRow:=by rw[List.map_append];rfl
  rw[hrow]at hff;rw[hrow];refine Ws (A6 @t1 @t5 @t8 @t9 @t10 (wrapN (show k+1<2^63 by omega))) ?_;have hout:∀b,sB out=some b->b<(h++g).length:=λb hb=>(hfr.sBlt hb).2
  have hnew:∀b,sB s' =some b->(h++g).length<=b/\b<(h++g).length+(1+g1.length):=λb hb=>by
   have:=hf'.sBlt hb;simp only[List.length_append,List.length_cons,List.length_nil]at this ⊢;omega
  have hold:∀x∈L',∀b,sB x.2=some b->b<(h++g).length/\sB out≠some b:=λx hx b hb=>by
   refine⟨((hin x hx).sBlt hb).2,λe=>?_⟩;exact(List.pairwise_cons.1 hdi).1 _ (List.mem_map_of_mem hx) b e hb
  refine⟨_,?_,k+1,_,L'++[(L[k].1,s')],by omega,rfl,?_,hff,?_,?_,rfl,rfl⟩
  ·omega
  ·rw[List.map_append,hm,List.take_add_one,List.getElem?_eq_getElem hlt,List.map_append];rfl
  ·intro x hx;rcases List.mem_append.1 hx with hx|hx
   ·refine((((hin x hx).app _).app _).app _).sBkeep λb hb=>hkp b ?_ λb0 o n e hso=>?_
    ·have:=(hold x hx b hb).1;simp only[List.length_append]at this ⊢;omega
    ·intro e;subst e;exact(hold x hx b hb).2 (by rw[hso];rfl)
   ·rw[List.mem_singleton]at hx;subst hx;refine Fr.low (N:=(h++g++[ABlk.cells [] true true]).length) ?_ (by simp only[List.length_append];omega);refine Fr.sBkeep (h:=_) ((hf'.app _).low ?_) λb hb=>hkp b ?_ λb0 o n e hso=>?_
    ·simp
    ·have:=hnew b hb;simp only[List.length_append,List.length_cons,List.length_nil]at this ⊢;omega
    ·intro e;subst e;have h1:=hout b (by rw[hso];rfl);have h2:=(hnew b hb).1;omega
  ·have em:(L'++[(L[k].1,s')]).map (λx=>sB x.2)=(L'.map λx=>sB x.2)++[sB s']:=by rw[List.map_append];rfl
   rw[em];refine List.pairwise_cons.2 ⟨?_,List.pairwise_append.2 ⟨(List.pairwise_cons.1 hdi).2,List.pairwise_singleton _ _,?_⟩⟩
   ·intro y hy b hb hyb;cases hb;rcases List.mem_append.1 hy with hy|hy
    ·obtain⟨x,hx,rfl⟩:=List.mem_map.1 hy;have:=(hold x hx _ hyb).1;simp only[List.length_append]at this;omega
    ·rw[List.mem_singleton]at hy;rw[hy]at hyb;have:=(hnew _ hyb).2;simp only[List.length_append,List.length_cons,List.length_nil]at this;omega
   ·intro y hy z hz b hb hzb;obtain⟨x,hx,rfl⟩:=List.mem_map.1 hy;rw[List.mem_singleton]at hz;rw[hz]at hzb;have h1:=(hold x hx _ hb).1;have h2:=(hnew _ hzb).1;omega
 ·have e3:¬(k:Int)<L.length:=by omega
  have e4:k=L.length:=by omega
  refine Ws (A7 @t1 @t5 @t8 @t9 @t10 @e3 @decide_false) ?_;rw[e4,List.take_length]at hm;exact⟨L',hm,hfr,hin,hdi⟩
set_option maxRecDepth 10000 in
def r88{L:List (JbR×AV)}{s:AV}(hs:IsSl h s 3 (L.map jbRow))(he:∀x∈L,IsSl h x.2 1 (x.1.sums.map intRow))(hl:L.length<=2^30)(hle:∀x∈L,x.1.sums.length<=2^40):
  RCall P 88 [s,.func (.func 89) [] []] h (λv h'=>∃L':List (JbR×AV),L'.map Prod.fst=L.map Prod.fst/\Fr h.length h' v 3 (L'.map jbRow)/\(∀x∈L',Fr h.length h' x.2 1 (x.1.sums.map intRow))/\Dis (sB v::L'.map λx=>sB x.2)):=by
 refine .of T.mix T.c88 ?_;unfold fn88;refine Ws hs.lenm ?_;refine WL.inv T.mix (λn ts h'=>∃(k:Nat) (out:AV) (L':List (JbR×AV)),k<=L.length/\n=L.length-k/\Ext h h'/\L'.map Prod.fst=(L.take k).map Prod.fst/\Fr h.length h' out 3 (L'.map jbRow)/\(∀x∈L',Fr h.length h' x.2 1 (x.1.sums.map intRow))/\Dis (sB out::L'.map λx=>sB x.2)/\
   ts.length=22/\slot ts 1=.func (.func 89) [] []/\slot ts 5=out/\slot ts 8=s/\slot ts 9=.i L.length/\slot ts 10=.i k) L.length
  ⟨0,.nilSlice,[],by omega,rfl,Ext.refl h,rfl,.nil,(λx hx=>by cases hx),List.pairwise_singleton _ _,rfl,rfl,rfl,rfl,rfl,rfl⟩ ?_
 rintro _ ts _ ⟨k,out,L',hk,rfl,⟨g,rfl⟩,hm,hfr,hin,hdi,hlen,t1,t5,t8,t9,t10⟩;rw[expl ts 22 hlen];have hL':L'.length=k:=by have:=congrArg List.length hm;simp at this;omega
 by_cases hlt:k<L.length
 ·have e3:(k:Int)<L.length:=by omega
  have hxk:=he L[k] (by simp);have hlk:=hle L[k] (by simp);have ox:=hxk.one;have ldx:∀{kk:AHeap},Ext h kk->loadF (some 3) (elp s 3 k) (λb=>kk[b]?)=some (.agg (jbRow L[k]),.keep):=λ{kk} e=>hs.ldm hlt e
  unfold jbRow at ldx;simp only[wset,hset,dset,bset,Nat.reduceAdd,Nat.reduceMul,Nat.reduceLeDiff,Nat.reduceEqDiff,t1,t5,t8,t9,t10,e3,decide_true,hs.ixm hlt,ldx,ox];have hown:=λkk (e:Ext h kk)=>r89 T (h:=kk) L[k] (hxk.ext e) hlk
  unfold jbRow at hown;refine WF.res T.c89 (hown _ (by repeat first|exact Ext.refl _|refine Ext.app _ ?_)) ?_;rintro _ g1 ⟨s',rfl,hf'⟩;have os:=hf'.isSl.one;refine Ws @os ?_;refine WR.app1 (h0:=h) (cs:=L'.map jbRow) (ys:=[jbRow (L[k].1,s')]) ((((hfr.app _).app _).app _)) (Fr.push (N:=0) (Nat.zero_le _) [jbRow (L[k].1,s')] (by simp[jbRow])).isSl (by decide) (by simp) (by simp only[List.length_map,List.length_cons,List.length_nil];omega) (by simp only[eset]) ?_;intro g' hl' hff hkp;have hrow:L'.map jbRow++[jbRow (L[k].1,s')]=(L'++[(L[k].1,s')]).map jbRow:=by rw[List.map_append];rfl
  rw[hrow]at hff;rw[hrow];refine Ws (A6 @t1 @t5 @t8 @t9 @t10 (wrapN (show k+1<2^63 by omega))) ?_;have hout:∀b,sB out=some b->b<(h++g).length:=λb hb=>(hfr.sBlt hb).2
  have hnew:∀b,sB s' =some b->(h++g).length<=b/\b<(h++g).length+(1+g1.length):=λb hb=>by
   have:=hf'.sBlt hb;simp only[List.length_append,List.length_cons,List.length_nil]at this ⊢;omega
  have hold:∀x∈L',∀b,sB x.2=some b->b<(h++g).length/\sB out≠some b:=λx hx b hb=>by
   refine⟨((hin x hx).sBlt hb).2,λe=>?_⟩;exact(List.pairwise_cons.1 hdi).1 _ (List.mem_map_of_mem hx) b e hb
  refine⟨_,?_,k+1,_,L'++[(L[k].1,s')],by omega,rfl,?_,hff,?_,?_,rfl,rfl⟩
  ·omega
  ·rw[List.map_append,hm,List.take_add_one,List.getElem?_eq_getElem hlt,List.map_append];rfl
  ·intro x hx;rcases List.mem_append.1 hx with hx|hx
   ·refine((((hin x hx).app _).app _).app _).sBkeep λb hb=>hkp b ?_ λb0 o n e hso=>?_
    ·have:=(hold x hx b hb).1;simp only[List.length_append]at this ⊢;omega
    ·intro e;subst e;exact(hold x hx b hb).2 (by rw[hso];rfl)
   ·rw[List.mem_singleton]at hx;subst hx;refine Fr.low (N:=(h++g++[ABlk.cells [] true true]).length) ?_ (by simp only[List.length_append];omega);refine Fr.sBkeep (h:=_) ((hf'.app _).low ?_) λb hb=>hkp b ?_ λb0 o n e hso=>?_
    ·simp
    ·have:=hnew b hb;simp only[List.length_append,List.length_cons,List.length_nil]at this ⊢;omega
    ·intro e;subst e;have h1:=hout b (by rw[hso];rfl);have h2:=(hnew b hb).1;omega
  ·have em:(L'++[(L[k].1,s')]).map (λx=>sB x.2)=(L'.map λx=>sB x.2)++[sB s']:=by rw[List.map_append];rfl
   rw[em];refine List.pairwise_cons.2 ⟨?_,List.pairwise_append.2 ⟨(List.pairwise_cons.1 hdi).2,List.pairwise_singleton _ _,?_⟩⟩
   ·intro y hy b hb hyb;cases hb;rcases List.mem_append.1 hy with hy|hy
    ·obtain⟨x,hx,rfl⟩:=List.mem_map.1 hy;have:=(hold x hx _ hyb).1;simp only[List.length_append]at this;omega
    ·rw[List.mem_singleton]at hy;rw[hy]at hyb;have:=(hnew _ hyb).2;simp only[List.length_append,List.length_cons,List.length_nil]at this;omega
   ·intro y hy z hz b hb hzb;obtain⟨x,hx,rfl⟩:=List.mem_map.1 hy;rw[List.mem_singleton]at hz;rw[hz]at hzb;have h1:=(hold x hx _ hb).1;have h2:=(hnew _ hzb).1;omega
 ·have e3:¬(k:Int)<L.length:=by omega
  have e4:k=L.length:=by omega
  refine Ws (A7 @t1 @t5 @t8 @t9 @t10 @e3 @decide_false) ?_;rw[e4,List.take_length]at hm;exact⟨L',hm,hfr,hin,hdi⟩
end
end Go.Abs
namespace Go.Abs
theorem RegOk.row{h V}(o:RegOk h V):V.row.all AV.one=true:=by
 simp only[RV.row,all_c,all_n,one_i,o.i0.one,o.i1.one,o.i2.one,o.i3.one,o.i4.one,o.i5.one,Bool.and_self]
def RegOk.box{h V}(o:RegOk h V){N}:boxF (.agg V.row) N=some (.ptr N 0,.push (.cells V.row true false)):=by
 have:(AV.agg V.row).cells=V.row:=rfl;simp only[boxF,this,o.row,if_true]
def row_0{V:RV}:V.row[0]? =some (.int .i64 V.tick):=rfl
def row_1{V:RV}:V.row[1]? =some (V.s0):=rfl
def row_2{V:RV}:V.row[2]? =some (V.s1):=rfl
def row_3{V:RV}:V.row[3]? =some (V.s2):=rfl
def row_4{V:RV}:V.row[4]? =some (V.s3):=rfl
def row_5{V:RV}:V.row[5]? =some (V.s4):=rfl
def row_6{V:RV}:V.row[6]? =some (V.s5):=rfl
def row_a{V:RV}{mu tl:Bool}:ldB (some 7) 0 (.cells V.row mu tl)=some (.agg V.row,.keep):=rfl
def Dis.app{l m}(hl:Dis l)(hm:Dis m)(h:∀x∈l,∀y∈m,∀b,x=some b->y≠some b):Dis (l++m):=List.pairwise_append.2 ⟨hl,hm,h⟩
def Dis.one{x}:Dis [x]:=List.pairwise_singleton _ _
theorem Dis.perm{l m}(hl:Dis l)(h:l.Perm m):Dis m:=List.Pairwise.perm hl h λ{x y} hxy b hy hx=>hxy b hx hy
def zrep_flat{n z}:zrep n z=(List.replicate n z).flatten:=by
 induction n with
 |zero=>rfl
 |succ n ih=>rw[zrep_s,List.replicate_succ,List.flatten_cons,ih]
def set_get{h X:AHeap}{A B B':ABlk}{b:Nat}(hb:h.length+2<=b):(h++([A]++([B']++X)))[b]? =(h++([A]++([B]++X)))[b]? :=by
 have e:∀C:ABlk,(h++([A]++([C]++X)))[b]? =X[b-h.length-1-1]? :=λC=>by
  rw[List.getElem?_append_right (by omega),List.getElem?_append_right (by simp only[List.length_singleton];omega),List.getElem?_append_right (by simp only[List.length_singleton];omega)];rfl
 rw[e,e]
theorem RegOwn.low{N M h V}(o:RegOwn N h V)(hM:M<=N):RegOwn M h V:=
 ⟨o.i0.low hM,o.i1.low hM,o.i2.low hM,o.i3.low hM,o.i4.low hM,o.i5.low hM,λx hx=>(o.e2 x hx).low hM,λx hx=>(o.e3 x hx).low hM,λx hx=>(o.e4 x hx).low hM,o.di⟩
def RegOwn.blk{N h V}(o:RegOwn N h V){b}(hb:some b∈V.bl):N<=b/\b<h.length:=by
 simp only[RV.bl,List.mem_append,List.mem_cons,List.mem_map,List.not_mem_nil,or_false]at hb;rcases hb with((hb|⟨x,hx,hb⟩)|⟨x,hx,hb⟩)|⟨x,hx,hb⟩
 ·rcases hb with hb|hb|hb|hb|hb|hb
  ·exact o.i0.sBlt hb.symm
  ·exact o.i1.sBlt hb.symm
  ·exact o.i2.sBlt hb.symm
  ·exact o.i3.sBlt hb.symm
  ·exact o.i4.sBlt hb.symm
  ·exact o.i5.sBlt hb.symm
 ·exact(o.e2 x hx).sBlt hb
 ·exact(o.e3 x hx).sBlt hb
 ·exact(o.e4 x hx).sBlt hb
theorem nodup_le:∀{l m:List (List UInt8)},l.Nodup->(∀x∈l,x∈m)->l.length<=m.length
 |[],_,_,_=>Nat.zero_le _
 |x::l,m,hn,hs=>by
  have h1:=List.nodup_cons.1 hn;have hx:=hs x (by simp);have:=nodup_le (m:=m.erase x) h1.2 λy hy=>(List.mem_erase_of_ne (λ(e:y=x)=>h1.1 (by rw[<-e];exact hy))).2 (hs y (List.mem_cons_of_mem _ hy))
  rw[List.length_erase_of_mem hx]at this;have hp:=List.length_pos_of_mem hx;simp only[List.length_cons];omega
inductive Lay:Nat->Nat->List (Option Nat)->Prop
 |nil {a:Nat}:Lay a a []
 |cons {a b c:Nat}{l m:List (Option Nat)}(hab:a<=b) (hl:Dis l) (hin:∀x,some x∈l->a<=x/\x<b) (r:Lay b c m):Lay a c (l++m)
def Lay.le{a c l}(h:Lay a c l):a<=c:=by
 induction h with
 |nil=>exact Nat.le_refl _
 |cons hab _ _ _ ih=>omega
def Lay.mem{a c l}(h:Lay a c l):∀x,some x∈l->a<=x/\x<c:=by
 induction h with
 |nil=>intro x hx;cases hx
 |cons hab _ hin r ih=>
  intro x hx;have:=r.le;rcases List.mem_append.1 hx with hx|hx
  ·have:=hin x hx;omega
  ·have:=ih x hx;omega
def Lay.dis{a c l}(h:Lay a c l):Dis l:=by
 induction h with
 |nil=>exact List.Pairwise.nil
 |cons hab hl hin r ih=>
  refine hl.app ih λx hx y hy b hb hyb=>?_
  subst hb;have h1:=hin b hx;rw[hyb]at hy;have h2:=r.mem b hy;omega
def fr_in{N h s es cs}(hs:Fr N h s es cs):∀x,some x∈[sB s]->N<=x/\x<h.length:=by
 intro x hx;rw[List.mem_singleton]at hx;exact hs.sBlt hx.symm
set_option maxRecDepth 10000
attribute [local irreducible] WP WC WE WB WR WF WL WG WRg
section
variable {P:Program}(T:Tbl P) {h:AHeap}
include T
def r40{V:RV}(o:RegOk h V)(w:WfR V.reg):RCall P 40 [.agg V.row] h (λv h'=>∃V':RV,V'.reg=V.reg/\v=.agg V'.row/\RegOwn h.length h' V'):=by
 refine .of T.mix T.c40 ?_;obtain⟨ts,hts⟩:∃ts,ts=startTS 38 [.agg V.row]:=⟨_,rfl⟩;have hlen:ts.length=38:=by rw[hts];rfl
 have t0:slot ts 0=.agg V.row:=by rw[hts];rfl
 unfold fn40;show WC P inFn _ [] (startTS 38 [.agg V.row]) h _;rw[<-hts];clear hts;have hbx:=@RegOk.box _ _ o;have n0:V.lines.length<=16:=w.l0;have n5:V.picts.length<=16:=w.l5;have n1:V.tapes.length<=16:=w.l1;have n2:V.shots.length<=64:=by have:=w.l2;simpa [RV.reg]using this
 have n3:V.mods.length<=32:=by have:=w.l3;simpa [RV.reg]using this
 have n4:V.jobs.length<=16:=by have:=w.l4;simpa [RV.reg]using this
 have mk0:∀{N:Nat},mkslF 3 32 [AV.str [],.int .i64 0,.bool false] (.int .i64 (V.lines.length:Int)) (.int .i64 (V.lines.length:Int)) N=some (.slice N 0 V.lines.length 3,.push (.cells (zrep V.lines.length [AV.str [],.int .i64 0,.bool false]) true true)):=mksl_ok (by omega) (by omega);have mk5:∀{N:Nat},mkslF 4 48 [AV.str [],.str [],.int .i64 0,.bool false] (.int .i64 (V.picts.length:Int)) (.int .i64 (V.picts.length:Int)) N=some (.slice N 0 V.picts.length 4,.push (.cells (zrep V.picts.length [AV.str [],.str [],.int .i64 0,.bool false]) true true)):=mksl_ok (by omega) (by omega);refine Rs (A8 @t0 @hbx @row_1 @row_6 o.i0.lenm o.i5.lenm @mk0 @mk5) ?_
 have z0:(zrep V.lines.length [AV.str [],.int .i64 0,.bool false])=(List.replicate V.lines.length [AV.str [],.int .i64 0,.bool false]).flatten:=zrep_flat;have z5:(zrep V.picts.length [AV.str [],.str [],.int .i64 0,.bool false])=(List.replicate V.picts.length [AV.str [],.str [],.int .i64 0,.bool false]).flatten:=zrep_flat;obtain⟨B,hB⟩:∃B,B=ABlk.cells [AV.int .i64 0,.nilSlice,.nilSlice,.nilSlice,.nilSlice,.nilSlice,.nilSlice] true false:=⟨_,rfl⟩;rw[<-hB];have f0:Fr (h++[ABlk.cells V.row true false]++[B]).length (h++[ABlk.cells V.row true false]++[B]++([ABlk.cells (zrep V.lines.length [AV.str [],.int .i64 0,.bool false]) true true]++[ABlk.cells (zrep V.picts.length [AV.str [],.str [],.int .i64 0,.bool false]) true true])) (.slice (h++[ABlk.cells V.row true false]++[B]).length 0 V.lines.length 3) 3 (List.replicate V.lines.length [AV.str [],.int .i64 0,.bool false]):=by
  rw[<-List.append_assoc];exact(Fr.zeros (Nat.le_refl _) rfl).app _
 have f5:Fr (h++[ABlk.cells V.row true false]++[B]).length (h++[ABlk.cells V.row true false]++[B]++([ABlk.cells (zrep V.lines.length [AV.str [],.int .i64 0,.bool false]) true true]++[ABlk.cells (zrep V.picts.length [AV.str [],.str [],.int .i64 0,.bool false]) true true])) (.slice (h++[ABlk.cells V.row true false]++[B]++[ABlk.cells (zrep V.lines.length [AV.str [],.int .i64 0,.bool false]) true true]).length 0 V.picts.length 4) 4 (List.replicate V.picts.length [AV.str [],.str [],.int .i64 0,.bool false]):=by
  rw[<-List.append_assoc];exact Fr.zeros (by simp) rfl
 obtain⟨Z,hZ⟩:∃Z,Z=([ABlk.cells (zrep V.lines.length [AV.str [],.int .i64 0,.bool false]) true true]++[ABlk.cells (zrep V.picts.length [AV.str [],.str [],.int .i64 0,.bool false]) true true]):=⟨_,rfl⟩;have hZl:Z.length=2:=by rw[hZ];rfl
 have el5:(h++[ABlk.cells V.row true false]++[B]++[ABlk.cells (zrep V.lines.length [AV.str [],.int .i64 0,.bool false]) true true]).length=(h++[ABlk.cells V.row true false]++[B]).length+1:=by simp
 rw[List.append_assoc (h++[ABlk.cells V.row true false]++[B]),<-hZ];rw[<-hZ,el5]at f5;rw[<-hZ]at f0;rw[el5];clear hZ;refine WR.cpy1 (h0:=h++[ABlk.cells V.row true false]++[B]) (g:=Z) (Sq @t0) (Sq @t0) f0 (o.i0.ext Xx) (by simp) ?_;intro g1 _ hl1 hf0 hk0;have hf5:=f5.sBkeep (k:=h++[ABlk.cells V.row true false]++[B]++g1) λb hb=>hk0 b λb0 o n e he=>by cases he;cases hb;omega
 refine Rs (A2 @t0 @row_6) ?_;refine WR.cpy1 (h0:=h++[ABlk.cells V.row true false]++[B]) (g:=g1) (Sq @t0) (Sq @t0) hf5 (o.i5.ext Xx) (by simp) ?_;intro g2 _ hl2 hf5' hk5;have hf0':=hf0.sBkeep (k:=h++[ABlk.cells V.row true false]++[B]++g2) λb hb=>hk5 b λb0 o n e he=>by cases he;cases hb;omega
 have hg2:g2.length=2:=by omega
 refine Rs (A3 @t0 @row_0 @row_2) ?_;refine WF.res T.c83 (r83 T (o.i1.ext Xx) (by simp;omega)) ?_;rintro s1 c1 q1;refine Rs (A2 @t0 @row_3) ?_;refine WF.res T.c84 (r84 T (o.i2.ext Xx) (λx hx=>(o.e2 x hx).ext Xx) (by omega) (λx hx=>?_)) ?_
 ·have:=(w.sh x.1 (List.mem_map_of_mem hx)).2.2;have hle:=nodup_le this.1 (λt ht=>this.2 t ht);have hl1:(tpN V.reg).length=V.tapes.length:=by simp[tpN,RV.reg]
  omega
 rintro s2 c2 ⟨L2,m2,q2,q2e,q2d⟩;refine Rs (A2 @t0 @row_4) ?_;refine WF.res T.c86 (r86 T (o.i3.ext Xx) (λx hx=>(o.e3 x hx).ext Xx) (by omega) (λx hx=>by have:=(w.md x.1 (List.mem_map_of_mem hx)).2.1;omega)) ?_;rintro s3 c3 ⟨L3,m3,q3,q3e,q3d⟩;refine Rs (A2 @t0 @row_5) ?_;refine WF.res T.c88 (r88 T (o.i4.ext Xx) (λx hx=>(o.e4 x hx).ext Xx) (by omega) (λx hx=>by have:=(w.jb x.1 (List.mem_map_of_mem hx)).2.2.1;omega)) ?_;rintro s4 c4 ⟨L4,m4,q4,q4e,q4d⟩;refine Rs (A6 @t0 q1.isSl.one q2.isSl.one q3.isSl.one q4.isSl.one @hB) ?_;refine⟨⟨V.tick,V.lines,V.tapes,L2,L3,L4,V.picts,.slice (h++[ABlk.cells V.row true false]++[B]).length 0 V.lines.length 3,s1,s2,s3,s4,.slice ((h++[ABlk.cells V.row true false]++[B]).length+1) 0 V.picts.length 4⟩,?_,?_,?_⟩
 ·simp only[RV.reg,m2,m3,m4]
 ·rw[<-hB];rfl
 obtain⟨H,hH⟩:∃H,H=h++[ABlk.cells V.row true false]++[B]:=⟨_,rfl⟩;have hHl:h.length<=H.length:=by rw[hH];simp
 rw[<-hH]at hf0' hf5' q1 q2 q2e q3 q3e q4 q4e;have own:RegOwn H.length (H++g2++c1++c2++c3++c4) ⟨V.tick,V.lines,V.tapes,L2,L3,L4,V.picts,.slice H.length 0 V.lines.length 3,s1,s2,s3,s4,.slice (H.length+1) 0 V.picts.length 4⟩:=by
  have n0:V.lines.length=(V.lines.map lnRow).length:=by simp
  have n5:V.picts.length=(V.picts.map pcRow).length:=by simp
  refine⟨(((hf0'.app _).app _).app _).app _,?_,?_,?_,?_,(((hf5'.app _).app _).app _).app _,?_,?_,?_,?_⟩
  ·exact(((q1.app _).app _).app _).low (by simp)
  ·exact((q2.app _).app _).low (by simp only[List.length_append];omega)
  ·exact(q3.app _).low (by simp only[List.length_append];omega)
  ·exact q4.low (by simp only[List.length_append];omega)
  ·exactλx hx=>(((q2e x hx).app _).app _).low (by simp only[List.length_append];omega)
  ·exactλx hx=>((q3e x hx).app _).low (by simp only[List.length_append];omega)
  ·exactλx hx=>(q4e x hx).low (by simp only[List.length_append];omega)
  ·have lay:Lay H.length (H++g2++c1++c2++c3++c4).length ([some H.length]++([some (H.length+1)]++([sB s1]++((sB s2::L2.map λx=>sB x.2)++((sB s3::L3.map λx=>sB x.2)++((sB s4::L4.map λx=>sB x.2)++[])))))):=by
    refine .cons (b:=H.length+1) (by omega) .one (λx hx=>by simp at hx;omega) ?_;refine .cons (b:=(H++g2).length) (by simp only[List.length_append];omega) .one (λx hx=>by simp at hx;simp only[List.length_append];omega) ?_;refine .cons (b:=(H++g2++c1).length) (by simp only[List.length_append];omega) .one (fr_in q1) ?_;refine .cons (b:=(H++g2++c1++c2).length) (by simp only[List.length_append];omega) q2d (λx hx=>?_) ?_
    ·rcases List.mem_cons.1 hx with hx|hx
     ·exact q2.sBlt hx.symm
     ·obtain⟨y,hy,hyx⟩:=List.mem_map.1 hx;exact(q2e y hy).sBlt hyx
    refine .cons (b:=(H++g2++c1++c2++c3).length) (by simp only[List.length_append];omega) q3d (λx hx=>?_) ?_
    ·rcases List.mem_cons.1 hx with hx|hx
     ·exact q3.sBlt hx.symm
     ·obtain⟨y,hy,hyx⟩:=List.mem_map.1 hx;exact(q3e y hy).sBlt hyx
    refine .cons (b:=(H++g2++c1++c2++c3++c4).length) (by simp only[List.length_append];omega) q4d (λx hx=>?_) .nil;rcases List.mem_cons.1 hx with hx|hx
    ·exact q4.sBlt hx.symm
    ·obtain⟨y,hy,hyx⟩:=List.mem_map.1 hx;exact(q4e y hy).sBlt hyx
   refine lay.dis.perm (List.perm_iff_count.2 λa=>?_);simp only[RV.bl,sB,List.count_append,List.count_cons,List.count_nil,Nat.zero_add,Nat.add_zero]
   ac_rfl
 rw[hH]at own hHl;refine(own.low hHl).keep λb hb=>?_
 have hbN:=(own.blk hb).1;simp only[List.append_assoc];exact set_get (by simpa using hbN)
end
end Go.Abs
namespace Go.Abs
def RegOk.ones{h V}(o:RegOk h V):(∀x∈V.shots,x.2.one=true)/\(∀x∈V.mods,x.2.one=true)/\(∀x∈V.jobs,x.2.one=true):=
 ⟨λx hx=>(o.e2 x hx).one,λx hx=>(o.e3 x hx).one,λx hx=>(o.e4 x hx).one⟩
structure LenR(V:RV):Prop where
 l0:V.lines.length<2^30
 l1:V.tapes.length<2^30
 l2:V.shots.length<2^30
 l3:V.mods.length<2^30
 l4:V.jobs.length<2^30
 l5:V.picts.length<2^30
def WfR.len{V}(w:WfR V.reg):LenR V:=by
 have h0:=w.l0;have h1:=w.l1;have h2:=w.l2;have h3:=w.l3;have h4:=w.l4;have h5:=w.l5;simp only[RV.reg,List.length_map]at h0 h1 h2 h3 h4 h5;exact⟨by omega,by omega,by omega,by omega,by omega,by omega⟩
def names_sh{V:RV}:shN V.reg=V.shots.map λx=>x.1.name:=by simp[shN,RV.reg,Function.comp_def]
def names_md{V:RV}:mdN V.reg=V.mods.map λx=>x.1.name:=by simp[mdN,RV.reg,Function.comp_def]
def names_jb{V:RV}:jbN V.reg=V.jobs.map λx=>x.1.name:=by simp[jbN,RV.reg,Function.comp_def]
set_option maxRecDepth 10000
attribute [local irreducible] WP WC WE WB WR WF WL WG WRg
section
variable {P:Program}(T:Tbl P) {h:AHeap}
include T
def r188{V}(o:RegOk h V)(l:LenR V){n}(hn:n∈lnN V.reg):RCall P 188 [.agg V.row,.str n] h (λv _=>v=.agg (lnRow (lineS V.reg n))):=by
 refine .st2 13 T.mix T.c188 ?_;intro ts hlen t0 t1;unfold fn188;have hbx:=@RegOk.box _ _ o;have hlt:posS (lnN V.reg) n<V.lines.length:=by have:=posS_lt hn;simpa [lnN,RV.reg]using this
 have ei:idxS (λx:LnR=>decide (x.name=n)) V.lines=(posS (lnN V.reg) n:Int):=idx_in (f:=LnR.name) hn;have ix:iadrF 3 V.s0 (.i (posS (lnN V.reg) n:Int))=some (elp V.s0 3 (posS (lnN V.reg) n),.keep):=o.i0.ixm hlt;have ld:∀{k:AHeap},Ext h k->loadF (some 3) (elp V.s0 3 (posS (lnN V.reg) n)) (λb=>k[b]?)=some (.agg (lnRow (V.lines[posS (lnN V.reg) n])),.keep):=λ{k} e=>o.i0.ldm hlt e
 have sp:lineS V.reg n=V.lines[posS (lnN V.reg) n]:=getN_at hn;rw[sp];unfold lnRow at ld ⊢;refine Rs (A4 @t0 @t1 @hbx @row_1) ?_;refine WF.ce T.c93 (r93 T (o.i0.ext Xx) (by have:=l.l0;omega) n) λg1=>?_
 rw[ei];exact Rs (A4 @t0 @t1 @ix @ld) trivial
def r48{V}(o:RegOk h V)(l:LenR V){n}(hn:n∈tpN V.reg):RCall P 48 [.agg V.row,.str n] h (λv _=>v=.agg (tpRow (tapeS V.reg n))):=by
 refine .st2 13 T.mix T.c48 ?_;intro ts hlen t0 t1;unfold fn48;have hbx:=@RegOk.box _ _ o;have hlt:posS (tpN V.reg) n<V.tapes.length:=by have:=posS_lt hn;simpa [tpN,RV.reg]using this
 have ei:idxS (λx:TpR=>decide (x.name=n)) V.tapes=(posS (tpN V.reg) n:Int):=idx_in (f:=TpR.name) hn;have ix:iadrF 2 V.s1 (.i (posS (tpN V.reg) n:Int))=some (elp V.s1 2 (posS (tpN V.reg) n),.keep):=o.i1.ixm hlt;have ld:∀{k:AHeap},Ext h k->loadF (some 2) (elp V.s1 2 (posS (tpN V.reg) n)) (λb=>k[b]?)=some (.agg (tpRow (V.tapes[posS (tpN V.reg) n])),.keep):=λ{k} e=>o.i1.ldm hlt e
 have sp:tapeS V.reg n=V.tapes[posS (tpN V.reg) n]:=getN_at hn;rw[sp];unfold tpRow at ld ⊢;refine Rs (A4 @t0 @t1 @hbx @row_2) ?_;refine WF.ce T.c94 (r94 T (o.i1.ext Xx) (by have:=l.l1;omega) n) λg1=>?_
 rw[ei];exact Rs (A4 @t0 @t1 @ix @ld) trivial
def r26{V:RV}(o:RegOk h V)(l:LenR V){n:List UInt8}(hn:n∈shN V.reg):RCall P 26 [.agg V.row,.str n] h (λv _=>∃x∈V.shots,x.1=shotS V.reg n/\v=.agg (shRow x)):=by
 refine .st2 13 T.mix T.c26 ?_;intro ts hlen t0 t1;unfold fn26;have hbx:=@RegOk.box _ _ o;have hlt:posS (shN V.reg) n<V.shots.length:=by have:=posS_lt hn;simpa [shN,RV.reg]using this
 have ei:idxS (λx:ShR×AV=>decide (x.1.name=n)) V.shots=(posS (shN V.reg) n:Int):=(idx_in (f:=λx:ShR×AV=>x.1.name) (by rw[<-names_sh];exact hn)).trans (by rw[names_sh]);have ix:iadrF 3 V.s2 (.i (posS (shN V.reg) n:Int))=some (elp V.s2 3 (posS (shN V.reg) n),.keep):=o.i2.ixm hlt;have ld:∀{k:AHeap},Ext h k->loadF (some 3) (elp V.s2 3 (posS (shN V.reg) n)) (λb=>k[b]?)=some (.agg (shRow (V.shots[posS (shN V.reg) n])),.keep):=λ{k} e=>o.i2.ldm hlt e
 have sp:(V.shots[posS (shN V.reg) n]).1=shotS V.reg n:=by
  have:=getN_at (f:=ShR.name) (l:=V.reg.shots) (n:=n) (d:=noSh) hn;rw[show shotS V.reg n=_ from this];simp only[RV.reg,List.getElem_map];rfl
 have on:=o.ones.1 (V.shots[posS (shN V.reg) n]) (List.getElem_mem _);have hmem:V.shots[posS (shN V.reg) n]∈V.shots:=List.getElem_mem _;generalize V.shots[posS (shN V.reg) n]=x at *;unfold shRow at ld ⊢;refine Rs (A4 @t0 @t1 @hbx @row_3) ?_;refine WF.ce T.c50 (r50 T (o.i2.ext Xx) o.ones.1 (by have:=l.l2;omega) n) λg1=>?_
 rw[ei];refine Rs (A5 @t0 @t1 @ix @ld @on) ?_;exact⟨x,hmem,sp,rfl⟩
def r194{V:RV}(o:RegOk h V)(l:LenR V){n:List UInt8}(hn:n∈mdN V.reg):RCall P 194 [.agg V.row,.str n] h (λv _=>∃x∈V.mods,x.1=modS V.reg n/\v=.agg (mdRow x)):=by
 refine .st2 13 T.mix T.c194 ?_;intro ts hlen t0 t1;unfold fn194;have hbx:=@RegOk.box _ _ o;have hlt:posS (mdN V.reg) n<V.mods.length:=by have:=posS_lt hn;simpa [mdN,RV.reg]using this
 have ei:idxS (λx:MdR×AV=>decide (x.1.name=n)) V.mods=(posS (mdN V.reg) n:Int):=(idx_in (f:=λx:MdR×AV=>x.1.name) (by rw[<-names_md];exact hn)).trans (by rw[names_md]);have ix:iadrF 4 V.s3 (.i (posS (mdN V.reg) n:Int))=some (elp V.s3 4 (posS (mdN V.reg) n),.keep):=o.i3.ixm hlt;have ld:∀{k:AHeap},Ext h k->loadF (some 4) (elp V.s3 4 (posS (mdN V.reg) n)) (λb=>k[b]?)=some (.agg (mdRow (V.mods[posS (mdN V.reg) n])),.keep):=λ{k} e=>o.i3.ldm hlt e
 have sp:(V.mods[posS (mdN V.reg) n]).1=modS V.reg n:=by
  have:=getN_at (f:=MdR.name) (l:=V.reg.mods) (n:=n) (d:=noMd) hn;rw[show modS V.reg n=_ from this];simp only[RV.reg,List.getElem_map];rfl
 have on:=o.ones.2.1 (V.mods[posS (mdN V.reg) n]) (List.getElem_mem _);have hmem:V.mods[posS (mdN V.reg) n]∈V.mods:=List.getElem_mem _;generalize V.mods[posS (mdN V.reg) n]=x at *;unfold mdRow at ld ⊢;refine Rs (A4 @t0 @t1 @hbx @row_4) ?_;refine WF.ce T.c95 (r95 T (o.i3.ext Xx) o.ones.2.1 (by have:=l.l3;omega) n) λg1=>?_
 rw[ei];refine Rs (A5 @t0 @t1 @ix @ld @on) ?_;exact⟨x,hmem,sp,rfl⟩
def r200{V:RV}(o:RegOk h V)(l:LenR V){n:List UInt8}(hn:n∈jbN V.reg):RCall P 200 [.agg V.row,.str n] h (λv _=>∃x∈V.jobs,x.1=jobS V.reg n/\v=.agg (jbRow x)):=by
 refine .st2 13 T.mix T.c200 ?_;intro ts hlen t0 t1;unfold fn200;have hbx:=@RegOk.box _ _ o;have hlt:posS (jbN V.reg) n<V.jobs.length:=by have:=posS_lt hn;simpa [jbN,RV.reg]using this
 have ei:idxS (λx:JbR×AV=>decide (x.1.name=n)) V.jobs=(posS (jbN V.reg) n:Int):=(idx_in (f:=λx:JbR×AV=>x.1.name) (by rw[<-names_jb];exact hn)).trans (by rw[names_jb]);have ix:iadrF 3 V.s4 (.i (posS (jbN V.reg) n:Int))=some (elp V.s4 3 (posS (jbN V.reg) n),.keep):=o.i4.ixm hlt;have ld:∀{k:AHeap},Ext h k->loadF (some 3) (elp V.s4 3 (posS (jbN V.reg) n)) (λb=>k[b]?)=some (.agg (jbRow (V.jobs[posS (jbN V.reg) n])),.keep):=λ{k} e=>o.i4.ldm hlt e
 have sp:(V.jobs[posS (jbN V.reg) n]).1=jobS V.reg n:=by
  have:=getN_at (f:=JbR.name) (l:=V.reg.jobs) (n:=n) (d:=noJb) hn;rw[show jobS V.reg n=_ from this];simp only[RV.reg,List.getElem_map];rfl
 have on:=o.ones.2.2 (V.jobs[posS (jbN V.reg) n]) (List.getElem_mem _);have hmem:V.jobs[posS (jbN V.reg) n]∈V.jobs:=List.getElem_mem _;generalize V.jobs[posS (jbN V.reg) n]=x at *;unfold jbRow at ld ⊢;refine Rs (A4 @t0 @t1 @hbx @row_5) ?_;refine WF.ce T.c96 (r96 T (o.i4.ext Xx) o.ones.2.2 (by have:=l.l4;omega) n) λg1=>?_
 rw[ei];refine Rs (A5 @t0 @t1 @ix @ld @on) ?_;exact⟨x,hmem,sp,rfl⟩
def r205{V}(o:RegOk h V)(l:LenR V){n}(hn:n∈pcN V.reg):RCall P 205 [.agg V.row,.str n] h (λv _=>v=.agg (pcRow (pictS V.reg n))):=by
 refine .st2 13 T.mix T.c205 ?_;intro ts hlen t0 t1;unfold fn205;have hbx:=@RegOk.box _ _ o;have hlt:posS (pcN V.reg) n<V.picts.length:=by have:=posS_lt hn;simpa [pcN,RV.reg]using this
 have ei:idxS (λx:PcR=>decide (x.name=n)) V.picts=(posS (pcN V.reg) n:Int):=idx_in (f:=PcR.name) hn;have ix:iadrF 4 V.s5 (.i (posS (pcN V.reg) n:Int))=some (elp V.s5 4 (posS (pcN V.reg) n),.keep):=o.i5.ixm hlt;have ld:∀{k:AHeap},Ext h k->loadF (some 4) (elp V.s5 4 (posS (pcN V.reg) n)) (λb=>k[b]?)=some (.agg (pcRow (V.picts[posS (pcN V.reg) n])),.keep):=λ{k} e=>o.i5.ldm hlt e
 have sp:pictS V.reg n=V.picts[posS (pcN V.reg) n]:=getN_at hn;rw[sp];unfold pcRow at ld ⊢;refine Rs (A4 @t0 @t1 @hbx @row_6) ?_;refine WF.ce T.c97 (r97 T (o.i5.ext Xx) (by have:=l.l5;omega) n) λg1=>?_
 rw[ei];exact Rs (A4 @t0 @t1 @ix @ld) trivial
def has_0{V}(o:RegOk h V)(l:LenR V)(n:List UInt8):RCall P 46 [.agg V.row,.i 0,.str n] h (λv _=>v=.bool (hasS V.reg 0 n)):=by
 refine .st3 47 T.mix T.c46 ?_;intro ts hlen t0 t1 t2;unfold fn46;have hbx:=@RegOk.box _ _ o;have eh:hasS V.reg 0 n=decide (0<=idxS (λx=>decide (x.name=n)) V.lines):=(idx_has (f:=LnR.name)).symm;rw[eh]
 skip
 refine Rs (A7 @t0 @t1 @t2 @hbx @row_1 @decide_true @decide_false) ?_;refine WF.ce T.c93 (r93 T (o.i0.ext Xx) (by have:=l.l0;omega) n) λg1=>?_
 exact Rs (A3 @t0 @t1 @t2) trivial
def has_1{V}(o:RegOk h V)(l:LenR V)(n:List UInt8):RCall P 46 [.agg V.row,.i 1,.str n] h (λv _=>v=.bool (hasS V.reg 1 n)):=by
 refine .st3 47 T.mix T.c46 ?_;intro ts hlen t0 t1 t2;unfold fn46;have hbx:=@RegOk.box _ _ o;have eh:hasS V.reg 1 n=decide (0<=idxS (λx=>decide (x.name=n)) V.tapes):=(idx_has (f:=TpR.name)).symm;rw[eh]
 skip
 have d0:((1:Int)=0)=False:=eq_false (by decide);refine Rs (A8 @t0 @t1 @t2 @hbx @row_2 @decide_true @decide_false @d0) ?_;refine WF.ce T.c94 (r94 T (o.i1.ext Xx) (by have:=l.l1;omega) n) λg1=>?_
 exact Rs (A3 @t0 @t1 @t2) trivial
def has_2{V:RV}(o:RegOk h V)(l:LenR V)(n:List UInt8):RCall P 46 [.agg V.row,.i 2,.str n] h (λv _=>v=.bool (hasS V.reg 2 n)):=by
 refine .st3 47 T.mix T.c46 ?_;intro ts hlen t0 t1 t2;unfold fn46;have hbx:=@RegOk.box _ _ o;have eh:hasS V.reg 2 n=decide (0<=idxS (λx=>decide (x.1.name=n)) V.shots):=by
  rw[idx_has (f:=λx:ShR×AV=>x.1.name),<-names_sh];rfl
 rw[eh]
 skip
 have d0:((2:Int)=0)=False:=eq_false (by decide);have d1:((2:Int)=1)=False:=eq_false (by decide);refine Rs (A9 @t0 @t1 @t2 @hbx @row_3 @decide_true @decide_false @d0 @d1) ?_;refine WF.ce T.c50 (r50 T (o.i2.ext Xx) o.ones.1 (by have:=l.l2;omega) n) λg1=>?_
 exact Rs (A3 @t0 @t1 @t2) trivial
def has_3{V:RV}(o:RegOk h V)(l:LenR V)(n:List UInt8):RCall P 46 [.agg V.row,.i 3,.str n] h (λv _=>v=.bool (hasS V.reg 3 n)):=by
 refine .st3 47 T.mix T.c46 ?_;intro ts hlen t0 t1 t2;unfold fn46;have hbx:=@RegOk.box _ _ o;have eh:hasS V.reg 3 n=decide (0<=idxS (λx=>decide (x.1.name=n)) V.mods):=by
  rw[idx_has (f:=λx:MdR×AV=>x.1.name),<-names_md];rfl
 rw[eh]
 skip
 have d0:((3:Int)=0)=False:=eq_false (by decide);have d1:((3:Int)=1)=False:=eq_false (by decide);have d2:((3:Int)=2)=False:=eq_false (by decide);refine Rs (A10 @t0 @t1 @t2 @hbx @row_4 @decide_true @decide_false @d0 @d1 @d2) ?_;refine WF.ce T.c95 (r95 T (o.i3.ext Xx) o.ones.2.1 (by have:=l.l3;omega) n) λg1=>?_
 exact Rs (A3 @t0 @t1 @t2) trivial
def has_4{V:RV}(o:RegOk h V)(l:LenR V)(n:List UInt8):RCall P 46 [.agg V.row,.i 4,.str n] h (λv _=>v=.bool (hasS V.reg 4 n)):=by
 refine .st3 47 T.mix T.c46 ?_;intro ts hlen t0 t1 t2;unfold fn46;have hbx:=@RegOk.box _ _ o;have eh:hasS V.reg 4 n=decide (0<=idxS (λx=>decide (x.1.name=n)) V.jobs):=by
  rw[idx_has (f:=λx:JbR×AV=>x.1.name),<-names_jb];rfl
 rw[eh]
 skip
 have d0:((4:Int)=0)=False:=eq_false (by decide);have d1:((4:Int)=1)=False:=eq_false (by decide);have d2:((4:Int)=2)=False:=eq_false (by decide);have d3:((4:Int)=3)=False:=eq_false (by decide);refine Rs (A11 @t0 @t1 @t2 @hbx @row_5 @decide_true @decide_false @d0 @d1 @d2 @d3) ?_;refine WF.ce T.c96 (r96 T (o.i4.ext Xx) o.ones.2.2 (by have:=l.l4;omega) n) λg1=>?_
 exact Rs (A3 @t0 @t1 @t2) trivial
def has_5{V}(o:RegOk h V)(l:LenR V)(n:List UInt8):RCall P 46 [.agg V.row,.i 5,.str n] h (λv _=>v=.bool (hasS V.reg 5 n)):=by
 refine .st3 47 T.mix T.c46 ?_;intro ts hlen t0 t1 t2;unfold fn46;have hbx:=@RegOk.box _ _ o;have eh:hasS V.reg 5 n=decide (0<=idxS (λx=>decide (x.name=n)) V.picts):=(idx_has (f:=PcR.name)).symm;rw[eh]
 skip
 have d0:((5:Int)=0)=False:=eq_false (by decide);have d1:((5:Int)=1)=False:=eq_false (by decide);have d2:((5:Int)=2)=False:=eq_false (by decide);have d3:((5:Int)=3)=False:=eq_false (by decide);have d4:((5:Int)=4)=False:=eq_false (by decide);refine Rs (A12 @t0 @t1 @t2 @hbx @row_6 @decide_true @decide_false @d0 @d1 @d2 @d3 @d4) ?_;refine WF.ce T.c97 (r97 T (o.i5.ext Xx) (by have:=l.l5;omega) n) λg1=>?_
 exact Rs (A3 @t0 @t1 @t2) trivial
def r46{V:RV}(o:RegOk h V)(l:LenR V){t:Nat}(ht:t<6)(n:List UInt8):RCall P 46 [.agg V.row,.i t,.str n] h (λv _=>v=.bool (hasS V.reg t n)):=by
 match t,ht with
 | 0,_=>exact has_0 T o l n
 | 1,_=>exact has_1 T o l n
 | 2,_=>exact has_2 T o l n
 | 3,_=>exact has_3 T o l n
 | 4,_=>exact has_4 T o l n
 | 5,_=>exact has_5 T o l n
def r49(x:TpR)(t:Int):RCall P 49 [.agg (tpRow x),.i t] h (λv _=>v=.bool (decide (t<=x.last))):=by
 refine .of T.mix T.c49 ?_;unfold fn49 tpRow;exact Wn trivial
def r25{V}(o:RegOk h V)(l:LenR V){x}(hx:IsSl h x.2 1 (x.1.tapes.map strRow))(hl:x.1.tapes.length<2^30)(hk:∀n∈x.1.tapes,n∈tpN V.reg)(t:Int):
  RCall P 25 [.agg V.row,.agg (shRow x),.i t] h (λv _=>v=.bool (safeS V.reg x.1 t)):=by
 refine .st3 24 T.mix T.c25 ?_;intro ts hlen t0 t1 t2;unfold fn25;have hbx:=@RegOk.box _ _ o;have ox:=hx.one;unfold shRow at t1;refine Rs (A6 @t0 @t1 @t2 @hbx @ox hx.lenm) ?_;refine WL.inv T.mix (λn ts h'=>∃k:Nat,k<=x.1.tapes.length/\n=x.1.tapes.length-k/\Ext (h++[ABlk.b V.row]) h'/\safeS V.reg x.1 t=(x.1.tapes.drop k).any (readS V.reg t)/\
   ts.length=24/\slot ts 2=.i t/\slot ts 3=.ptr h.length 0/\slot ts 7=.bool false/\slot ts 11=x.2/\slot ts 12=.i x.1.tapes.length/\slot ts 13=.i k) x.1.tapes.length
  ⟨0,by omega,rfl,Xx,rfl,Sn,(Sq @t2),(Sq @t0),(Sq @t0),(Sq @t0),(Sq @t0),(Sqr @t0)⟩ ?_
 rintro _ ts _ ⟨k,hk',rfl,⟨g,rfl⟩,hs,hlen,t2,t3,t7,t11,t12,t13⟩;by_cases hlt:k<x.1.tapes.length
 ·have hd:x.1.tapes.drop k=x.1.tapes[k]::x.1.tapes.drop (k+1):=by simp
  have e3:=dltT hlt;have ix:=hx.ixm (kk:=.i64) hlt;have ld:∀{k':AHeap},Ext h k'->loadF none (elp x.2 1 k) (λb=>k'[b]?)=some (.str x.1.tapes[k],.keep):=λ{k'} e=>hx.l1m hlt rfl e
  refine Rs (A10 @t2 @t3 @t7 @t11 @t12 @t13 @e3 @ix @ld @row_a) ?_;refine WF.ce T.c48 (r48 T (o.ext Xx) l (hk _ (List.getElem_mem hlt))) λg1=>?_
  refine Rs (A6 @t2 @t3 @t7 @t11 @t12 @t13) ?_;refine WF.ce T.c49 (r49 T _ t) λg2=>?_
  have hr:decide (t<=(tapeS V.reg x.1.tapes[k]).last)=readS V.reg t x.1.tapes[k]:=rfl;rw[hr];rw[hd,List.any_cons]at hs;cases hrd:readS V.reg t x.1.tapes[k]with
  |true=>
   rw[hrd,Bool.true_or]at hs;rw[hs];exact Rs (A6 @t2 @t3 @t7 @t11 @t12 @t13) trivial
  |false=>
   rw[hrd,Bool.false_or]at hs;have e5:=wrapN (n:=k) (by omega);refine Rs (A7 @t2 @t3 @t7 @t11 @t12 @t13 @e5) ?_;exact⟨_,by omega,k+1,by omega,rfl,hs,rfl⟩
 ·have e3:=dltF hlt;have e4:k=x.1.tapes.length:=by omega
  rw[e4,List.drop_length]at hs;rw[hs];refine Rs (A7 @t2 @t3 @t7 @t11 @t12 @t13 @e3) ?_;rfl
end
end Go.Abs
namespace Go.Abs
structure InR(V:RV):Prop where
 sh:∀x∈V.shots,(∀n∈x.1.tapes,n∈tpN V.reg)/\x.1.tapes.length<2^30
def WfR.inR{V}(w:WfR V.reg):InR V:=by
 refine⟨λx hx=>?_⟩;have:=(w.sh x.1 (List.mem_map_of_mem hx)).2.2;have hle:=nodup_le this.1 (λt ht=>this.2 t ht);have h1:=w.l1;have hl1:(tpN V.reg).length=V.reg.tapes.length:=by simp[tpN]
 exact⟨this.2,by omega⟩
set_option maxRecDepth 10000
attribute [local irreducible] WP WC WE WB WR WF WL WG WRg
section
variable {P:Program}(T:Tbl P) {h:AHeap}
include T
def r54{V}(o:RegOk h V)(l:LenR V)(ir:InR V){x}(hm:x∈V.shots){t b c}(hb:h[b]? =some (.b V.row))(hc:h[c]? =some (.b [.i t])):
  RCall P 54 [.agg (shRow x),.ptr b 0,.ptr c 0] h (λv _=>v=.bool (!safeS V.reg x.1 t)):=by
 refine .st3 10 T.mix T.c54 ?_;intro ts hlen t0 t1 t2;unfold fn54;have ox:=(o.e2 x hm).one;have lb:∀{k:AHeap}{n:Option Nat}{a:Nat},Ext h k->loadF n (.ptr b a) (λz=>k[z]?)=ldB n a (.b V.row):=λe=>loadF_at (e.some hb)
 have lc:∀{k:AHeap}{n:Option Nat}{a:Nat},Ext h k->loadF n (.ptr c a) (λz=>k[z]?)=ldB n a (.b [.i t]):=λe=>loadF_at (e.some hc)
 have hsf:=λ(k:AHeap) (e:Ext h k)=>r25 T (o.ext e) l ((o.e2 x hm).ext e) (ir.sh x hm).2 (ir.sh x hm).1 t
 unfold shRow at t0 hsf;refine Rs (A7 @t0 @t1 @t2 @ox @lb @lc @row_a) ?_;refine WF.ce T.c25 (hsf _ Xx) λg1=>?_
 exact Rs (A3 @t0 @t1 @t2) trivial
def r29{V}(o:RegOk h V)(l:LenR V)(ir:InR V)(t:Int):RCall P 29 [.agg V.row,.i t] h (λv h'=>IsSl h' v 1 ((unsafeS V.reg t).map strRow)):=by
 refine .st2 10 T.mix T.c29 ?_;intro ts hlen t0 t1;unfold fn29;have hbx:=@RegOk.box _ _ o;refine Rs (A4 @t0 @t1 @hbx @row_3) ?_;have hm:∀x,x∈V.shots->∀k,Ext (h++[ABlk.b V.row]++[ABlk.b [AV.i t]]) k->VCall P (.func (.func 54) [] [.ptr h.length 0,.ptr (h++[ABlk.b V.row]).length 0]) [.agg (shRow x)] k (λv _=>v=.bool (!safeS V.reg x.1 t)):=λx hx k e=>
  VCall.of (a:=[]) T.c54 (r54 T (o.ext (Ext.trans Xx e)) l ir hx (e.some at_1) (e.some at_new))
 refine WF.res T.c53 (r53 T (o.i2.ext Xx) o.ones.1 (by have:=l.l2;omega) (λx=>!safeS V.reg x.1 t) hm) ?_;rintro s1 g1 hf;refine Rs (A2 @t0 @t1) ?_;have hfl:(V.shots.filter λx=>!safeS V.reg x.1 t).length<=V.shots.length:=List.length_filter_le _ _;refine WF.res T.c52 (r52 T hf.isSl (λx hx=>o.ones.1 x ((List.mem_filter.1 hx).1)) (by have:=l.l2;omega) (λx=>x.1.name) (λx hx k e=>VCall.of (a:=[]) (c:=[]) T.c55 (r55 T x (o.ones.1 x ((List.mem_filter.1 hx).1))))) ?_;rintro s2 g2 hf2;have eu:unsafeS V.reg t=(V.shots.filter λx=>!safeS V.reg x.1 t).map λx=>x.1.name:=by
  simp only[unsafeS,RV.reg,List.filter_map,List.map_map];rfl
 rw[eu];have:=hf2.isSl;refine Rs (A2 @t0 @t1) ?_;exact this
def r223{x}(ox:x.2.one=true){n b}(hb:h[b]? =some (.b [.str n])):RCall P 223 [.agg (shRow x),.ptr b 0] h (λv _=>v=.bool (decide (x.1.line=n))):=by
 refine .st2 8 T.mix T.c223 ?_;intro ts hlen t0 t1;unfold fn223;have lb:∀{k:AHeap}{n':Option Nat}{a:Nat},Ext h k->loadF n' (.ptr b a) (λz=>k[z]?)=ldB n' a (.b [.str n]):=λe=>loadF_at (e.some hb)
 unfold shRow at t0;exact Rs (A4 @t0 @t1 @ox @lb) trivial
def r191{V}(o:RegOk h V)(l:LenR V)(n:List UInt8):RCall P 191 [.agg V.row,.str n] h (λv h'=>IsSl h' v 3 ((V.shots.filter λx=>decide (x.1.line=n)).map shRow)):=by
 refine .st2 9 T.mix T.c191 ?_;intro ts hlen t0 t1;unfold fn191;have hbx:=@RegOk.box _ _ o;refine Rs (A4 @t0 @t1 @hbx @row_3) ?_;refine WF.res T.c53 (r53 T (o.i2.ext Xx) o.ones.1 (by have:=l.l2;omega) (λx=>decide (x.1.line=n)) (λx hx k e=>VCall.of (a:=[]) (c:=[.ptr (h++[ABlk.b V.row]).length 0]) T.c223 (r223 T (o.ones.1 x hx) (e.some at_new)))) ?_;rintro s1 g1 hf;have:=hf.isSl;refine Rs (A2 @t0 @t1) ?_;exact this
def r228{x n b}(hb:h[b]? =some (.b [.str n])):RCall P 228 [.agg (pcRow x),.ptr b 0] h (λv _=>v=.bool (decide (x.job=n))):=by
 refine .st2 8 T.mix T.c228 ?_;intro ts hlen t0 t1;unfold fn228;have lb:∀{k:AHeap}{n':Option Nat}{a:Nat},Ext h k->loadF n' (.ptr b a) (λz=>k[z]?)=ldB n' a (.b [.str n]):=λe=>loadF_at (e.some hb)
 unfold pcRow at t0;exact Rs (A3 @t0 @t1 @lb) trivial
def r203{V}(o:RegOk h V)(l:LenR V)(n:List UInt8):RCall P 203 [.agg V.row,.str n] h (λv _=>v=.bool (doneS V.reg n)):=by
 refine .st2 9 T.mix T.c203 ?_;intro ts hlen t0 t1;unfold fn203;have hbx:=@RegOk.box _ _ o;refine Rs (A4 @t0 @t1 @hbx @row_6) ?_;refine WF.ce T.c227 (r227 T (o.i5.ext Xx) (by have:=l.l5;omega) (λx=>decide (x.job=n)) (λx hx k e=>VCall.of (a:=[]) (c:=[.ptr (h++[ABlk.b V.row]).length 0]) T.c228 (r228 T (e.some at_new)))) λg1=>?_
 refine Rs (A2 @t0 @t1) ?_;rfl
end
end Go.Abs
namespace Go.Abs
structure IterM(P:Program)(f:FuncId)(a c:List AV)(L:List (List AV))(pre:AHeap->Prop):Prop where
 run:∀(l:Nat) (h:AHeap) (J:Nat->Nat->AHeap->Prop) (D:AHeap->Prop),(∀m i k,J m i k->pre k)->(∀m i k g,J m i k->J m i (k++g))->
  (∀m i (hi:i<L.length) k,J m i k->∃b k',SCallV P (.func (.yield l) [] []) L[i] k (.bool b) k'/\(∀x,l<x->x<m->k'[x]? =k[x]?)/\(if b=true then J m (i+1) k' else D k'))->
  (∀m k,J m L.length k->D k)->l+1=h.length->pre h->(∀g,J (h++g).length 0 (h++g))->GCall P f (a++[.func (.yield l) [] []]++c) h (λ_ k=>D k)
section
variable {P:Program}{ks:List Kt}{ts:TS}{h:AHeap}{Q:Ex->TS->AHeap->Prop}
def WC.iterM(hmix:P.follows .mixedOrders=true){f A a c L pre g ps asg body}(hA:compileFn P f=some A)
  (hg:val ts g=.func (.func f) a c) (hi:IterM P f a c L pre) (hps:∀x∈L,x.length=ps.length) (I:Nat->Nat->AHeap->AHeap->Prop) (Fin:Ex->AHeap->AHeap->Prop)
  (h0:∀g,I (h.length+1+g.length) 0 h g) (hcl:∀m i h' g g2,I m i h' g->I m i h' (g++g2)) (hp0:∀X,pre (h++[X])) (hpre:∀m i h' g X,h'.length=h.length->I m i h' g->pre (h'++[X]++g))
  (step:∀m i (hi:i<L.length) h' g (R B:ABlk),h'.length=h.length->I m i h' g->
   WC P inRd asg [] (setArgs ts ps L[i]) (h'++[R]++g) λe1 ts2 h2=>e1=.normal/\∃h1 g1,h2=h1++[R]++g1/\h1.length=h.length/\
    WC P inRd body [] ts2 (h1++[B]++g1) λe2 _ h4=>∃h3 g3,h4=h3++[B]++g3/\h3.length=h.length/\(∀x,x+h.length+1<m->g3[x]? =g[x]?)/\(if e2=.normal then I m (i+1) h3 g3 else Fin e2 h3 g3))
  (done:∀e h' g,h'.length=h.length->(if e=.normal then ∃m,I m L.length h' g else Fin e h' g)->WE P inFn e ks ts (h'++[ABlk.dead]++g) Q):WC P inFn (.rangeF g ps asg body) ks ts h Q:=by
 let J:Nat->Nat->AHeap->Prop:=λm i k=>∃h' g,k=h'++[.loop .ready .normal ts ps asg body]++g/\h'.length=h.length/\I m i h' g
 let D:AHeap->Prop:=λk=>∃e h' g st,k=h'++[.loop st e ts ps asg body]++g/\h'.length=h.length/\st≠.busy/\(if e=.normal then ∃m,I m L.length h' g else Fin e h' g)
 obtain⟨v,h2,hs,e,h',g',st,rfl,hl,hst,hfin⟩:=hi.run h.length (h++[.loop .ready .normal ts ps asg body]) J D
  (λm i k hJ=>by obtain⟨h',g,rfl,h1,h2⟩:=hJ;exact hpre m i h' g _ h1 h2)
  (λm i k g2 hJ=>by obtain⟨h',g,rfl,h1,h2⟩:=hJ;exact⟨h',g++g2,by rw[List.append_assoc],h1,hcl _ _ _ _ _ h2⟩)
  (λm i hi k hJ=>by
   obtain⟨h',g,rfl,h1,h2⟩:=hJ;obtain⟨e1,ts2,k2,q1,rfl,h3,g3,rfl,h4,q2⟩:=W.sound hmix (step m i hi h' g (.loop .ready .normal ts ps asg body) (.loop .busy .normal ts ps asg body) h1 h2);obtain⟨e2,ts3,k3,q3,h5,g5,rfl,h6,q5,q4⟩:=W.sound hmix q2;have hy:SCallV P (.func (.yield h.length) [] []) L[i] (h'++[.loop .ready .normal ts ps asg body]++g) (.bool (decide (e2=.normal))) (List.set (h5++[ABlk.loop .busy .normal ts ps asg body]++g5) h.length (ABlk.loop (if e2=.normal then .ready else .done) e2 ts ps asg body)):=
    SCallV.yield (lh_get h1) (hps _ (List.getElem_mem hi)) (λr=>q1 (some r) ⟨r,rfl⟩) (lh_get h4) (λr=>by rw[lh_set h4];exact q3 (some r) ⟨r,rfl⟩) (lh_get h6)
   rw[lh_set h6]at hy;refine⟨decide (e2=.normal),_,hy,?_,?_⟩
   ·intro x hx hxm;rw[List.getElem?_append_right (by simp;omega),List.getElem?_append_right (by simp;omega)];have:=q5 (x-h.length-1) (by omega);simp only[List.length_append,List.length_cons,List.length_nil,h6,h1,Nat.zero_add,Nat.sub_sub]at this ⊢;exact this
   by_cases he:e2=.normal
   ·subst he;rw[if_pos rfl]at q4;simp only[decide_true,if_true];exact⟨h5,g5,rfl,h6,q4⟩
   ·rw[if_neg he]at q4;simp only[he,decide_false,Bool.false_eq_true,if_false];exact⟨e2,h5,g5,.done,rfl,h6,by simp,by rw[if_neg he];exact q4⟩)
  (λm k hJ=>by obtain⟨h',g,rfl,h1,h2⟩:=hJ;exact⟨.normal,h',g,.ready,rfl,h1,by simp,by rw[if_pos rfl];exact⟨m,h2⟩⟩)
  (by simp) (hp0 _) (λg=>⟨h,g,rfl,rfl,by have:=h0 g;simpa only[List.length_append,List.length_cons,List.length_nil,Nat.zero_add]using this⟩)
 refine⟨e,ts,h'++[ABlk.dead]++g',λr hr=>?_,done e h' g' hl hfin⟩;have:r=none:=hr;subst this;have:=Ev.rangeF (h:=h) (ps:=ps) (asg:=asg) (body:=body) hA hg hs (lh_get hl) hst;rw[lh_set hl]at this;exact this
end
def WC.mono0{P ro c ts h Q Q'}(H:WC P ro c [] ts h Q)(hq:∀e ts' h',Q e ts' h'->Q' e ts' h'):WC P ro c [] ts h Q':=W.mono H hq
def at_swap{A B:AHeap}{K K':ABlk}{b:Nat}(h:b≠A.length):(A++[K]++B)[b]? =(A++[K']++B)[b]? :=by
 by_cases h1:b<A.length
 ·rw[List.append_assoc,List.append_assoc,List.getElem?_append_left h1,List.getElem?_append_left h1]
 ·rw[List.getElem?_append_right (by simp;omega),List.getElem?_append_right (by simp;omega)];simp
def encB(x:List UInt8×Bool):AV×AV:=(.str x.1,.bool x.2)
def bget:List (List UInt8×Bool)->List UInt8->Bool
 |[],_=>false
 |(a,b)::r,w=>if w=a then b else bget r w
def bput:List (List UInt8×Bool)->List UInt8->Bool->List (List UInt8×Bool)
 |[],w,b=>[(w,b)]
 |(a,c)::r,w,b=>if w=a then(w,b)::r else(a,c)::bput r w b
theorem bget_put:∀{M}{w w'}{b},bget (bput M w b) w' =if w' =w then b else bget M w'
 |[],w,w',b=>by rw[bput,bget];rfl
 |(a,c)::r,w,w',b=>by
  rw[bput];by_cases h1:w=a
  ·subst h1;rw[if_pos rfl,bget,bget];by_cases h2:w' =w
   ·rw[if_pos h2,if_pos h2]
   ·rw[if_neg h2,if_neg h2,if_neg h2]
  ·rw[if_neg h1,bget,bget,bget_put];by_cases h2:w' =a
   ·subst h2;rw[if_pos rfl,if_neg (Ne.symm h1),if_pos rfl]
   ·rw[if_neg h2,if_neg h2]
theorem find_encB:∀{M}{w},∃o:Option AV,findA .s (.str w) (M.map encB)=some o/\(o=some (.bool (bget M w))\/(o=none/\bget M w=false))
 |[],w=>⟨none,rfl,.inr ⟨rfl,rfl⟩⟩
 |(a,c)::r,w=>by
  by_cases h1:w=a
  ·subst h1;refine⟨some (.bool c),?_,.inl ?_⟩
   ·simp only[List.map_cons,encB,findA,eqCell,BEq.rfl]
   ·rw[bget,if_pos rfl]
  ·obtain⟨o,h2,h3⟩:=find_encB (M:=r) (w:=w);have hb:(w==a)=false:=by simp[h1]
   refine⟨o,?_,?_⟩
   ·simp only[List.map_cons,encB,findA,eqCell,hb];exact h2
   ·rw[bget,if_neg h1];exact h3
theorem upd_encB:∀{M}{w}{b},updA .s (.str w) (.bool b) (M.map encB)=some ((bput M w b).map encB)
 |[],w,b=>rfl
 |(a,c)::r,w,b=>by
  by_cases h1:w=a
  ·subst h1;rw[bput,if_pos rfl];simp only[List.map_cons,encB,updA,eqCell,BEq.rfl]
  ·have hb:(w==a)=false:=by simp[h1]
   have:=upd_encB (M:=r) (w:=w) (b:=b);rw[bput,if_neg h1];show(match some (w==a)with|some true=>some ((AV.str w,AV.bool b)::r.map encB)|some false=>(updA .s (.str w) (.bool b) (r.map encB)).map ((AV.str a,AV.bool c)::·)|none=>none)=_;rw[hb,this];rfl
def mupF(kk:CK)(m k x:AV)(G:Nat->Option ABlk):Option (AV×Eff):=
 match m with
 |.map r=>
  match G r with
  |some (.mapb es)=>
   match updA kk k x es with
   |some es'=>some (undefA,.set r (.mapb es'))
   |none=>none
  |_=>none
 |_=>none
def mupF_at{kk r k x G es es'}(hb:G r=some (.mapb es))(hu:updA kk k x es=some es'):mupF kk (.map r) k x G=some (undefA,.set r (.mapb es')):=by
 simp only[mupF,hb,hu]
def stepT_mupd{kk m k x ρ G N}:stepT (.mupd kk m k x) ρ G N=mupF kk (ρ m) (ρ k) (ρ x) G:=rfl
def lookF(kk:CK)(z:AV)(ok:Bool)(m k:AV)(G:Nat->Option ABlk):Option (AV×Eff):=
 match m with
 |.nilMap=>some (if ok then .tup [z,.bool false]else z,.keep)
 |.map r=>
  match G r with
  |some (.mapb es)=>
   match findA kk k es with
   |some (some v)=>some (if ok then .tup [v,.bool true]else v,.keep)
   |some none=>some (if ok then .tup [z,.bool false]else z,.keep)
   |none=>none
  |_=>none
 |_=>none
def stepT_look{kk z ok m k ρ G N}:stepT (.look kk z ok m k) ρ G N=lookF kk z ok (ρ m) (ρ k) G:=rfl
def lookR(z:AV)(ok:Bool):Option AV->Option (AV×Eff)
 |some v=>some (if ok then .tup [v,.bool true]else v,.keep)
 |none=>some (if ok then .tup [z,.bool false]else z,.keep)
def lookF_at{kk z ok r k G es o}(hb:G r=some (.mapb es))(hu:findA kk k es=some o):
  lookF kk z ok (.map r) k G=lookR z ok o:=by
 simp only[lookF,hb,hu];cases o<;>rfl
def look_encB{r w G M}(hb:G r=some (.mapb (M.map encB))):lookF .s (.bool false) false (.map r) (.str w) G=some (.bool (bget M w),.keep):=by
 obtain⟨o,h1,h2⟩:=find_encB (M:=M) (w:=w);rw[lookF_at hb h1];rcases h2 with rfl|⟨rfl,h2⟩
 ·rfl
 ·rw[h2];rfl
def mup_encB{r w b G M}(hb:G r=some (.mapb (M.map encB))):mupF .s (.map r) (.str w) (.bool b) G=some (undefA,.set r (.mapb ((bput M w b).map encB))):=mupF_at hb upd_encB
end Go.Abs
namespace Go.Abs
def ICode.tl:ICode->ICode
 |.seq _ b=>b
 |c=>c
def ICode.hd:ICode->ICode
 |.seq a _=>a
 |c=>c
def ICode.dr:Nat->ICode->ICode
 | 0,c=>c
 |n+1,c=>c.tl.dr n
def ICode.inn:ICode->ICode
 |.block _ a=>a
 |.loop a=>a
 |c=>c
def ICode.rgA:ICode->ICode
 |.rangeF _ _ a _=>a
 |c=>c
def ICode.rgB:ICode->ICode
 |.rangeF _ _ _ b=>b
 |c=>c
set_option maxRecDepth 10000
attribute [local irreducible] WP WC WE WB WR WF WL WG WRg
def nd1:ICode:=((fn246).body.tl).hd
def ndR:ICode:=nd1.tl.inn
def ndC:ICode:=(fn246).body.tl.tl
def nd_eq:(fn246).body=.seq ((fn246).body.hd) (.seq (.seq nd1.hd (.block 0 (.rangeF (.t 16) [17,18] ndR.rgA ndR.rgB))) ndC):=rfl
section
variable {P:Program}(T:Tbl P) {h:AHeap}
include T
def needs_in{x:MdR×AV}{Hm:List (List UInt8×Bool)->AHeap}{mb bb xb:Nat}(a1:∀M,(Hm M)[mb]? =some (.mapb (M.map encB)))(a2:∀M,(Hm M)[bb]? =some (.b [.map mb]))(a3:∀M,(Hm M)[xb]? =some (.b (mdRow x)))
  (a4:∀M K:List (List UInt8×Bool),(Hm M).set mb (.mapb (K.map encB))=Hm K) (a5:∀M,IsSl (Hm M) x.2 1 (x.1.inputs.map strRow)) (hl:x.1.inputs.length<2^30) {ts:TS}(hlen:ts.length=56) (t4:slot ts 4=.ptr bb 0) (t6:slot ts 6=.ptr xb 0)
  {M:List (List UInt8×Bool)}{S:List (List UInt8)}(hM:∀w,bget M w=decide (w∈S)):
  WC P inRd ndR.rgB [] ts (Hm M) λe _ h4=>e=.normal/\∃M',h4=Hm M'/\∀w,bget M' w=decide (w∈(if x.1.name∈S then S++x.1.inputs else S)):=by
 have l2:∀{M n o},loadF n (.ptr bb o) (λz=>(Hm M)[z]?)=ldB n o (.b [.map mb]):=λ{M _ _}=>loadF_at (a2 M)
 have l3:∀{M n o},loadF n (.ptr xb o) (λz=>(Hm M)[z]?)=ldB n o (.b [.str x.1.name,.str x.1.gives,.str x.1.line,x.2]):=λ{M _ _}=>loadF_at (a3 M)
 have lk:∀{M w},lookF .s (.bool false) false (.map mb) (.str w) (λz=>(Hm M)[z]?)=some (.bool (bget M w),.keep):=λ{M _}=>look_encB (a1 M)
 have mp:∀{M w b},mupF .s (.map mb) (.str w) (.bool b) (λz=>(Hm M)[z]?)=some (undefA,.set mb (.mapb ((bput M w b).map encB))):=λ{M _ _}=>mup_encB (a1 M)
 have hlm:=λM G=>(a5 M).lenm G
 unfold ndR nd1 fn246;simp only[ICode.tl,ICode.hd,ICode.inn,ICode.rgB]
 repeat (first|simp (config:={maxSteps:=1000000}) only[wset,hset,dset,bset,Nat.reduceAdd,Nat.reduceMul,Nat.reduceLeDiff,Nat.reduceEqDiff,pset,hlen,if_false,if_true,t4,t6,l2,l3,hlm M]|simp (config:={maxSteps:=1000000}) (disch:=first|(simp only[List.length_append,List.length_cons,List.length_nil]<;>omega)|rfl|omega|fail) only[kset,wset,hset,dset,bset,Nat.reduceAdd,Nat.reduceMul,Nat.reduceLeDiff,Nat.reduceEqDiff,pset,hlen,if_false,if_true,t4,t6,l2,l3,hlm M])
 refine WL.inv T.mix (λn ts h'=>∃(k:Nat) (M':List (List UInt8×Bool)),k<=x.1.inputs.length/\n=x.1.inputs.length-k/\h' =Hm M'/\(∀w,bget M' w=decide (w∈S\/(x.1.name∈S/\w∈x.1.inputs.take k)))/\
   ts.length=56/\slot ts 4=.ptr bb 0/\slot ts 6=.ptr xb 0/\slot ts 20=x.2/\slot ts 21=.i x.1.inputs.length/\slot ts 22=.i k) x.1.inputs.length
  ⟨0,M,by omega,rfl,rfl,λw=>by rw[hM];simp,Sn,(Sq @t4),(Sq @t6),(Sq @t6),(Sq @t6),Swr⟩ ?_
 clear t4 t6 hlen hM;clear M ts;rintro _ ts _ ⟨k,M,hk',rfl,rfl,hM,hlen,t4,t6,t20,t21,t22⟩;by_cases hlt:k<x.1.inputs.length
 ·have e3:=dltT hlt;have ix:=(a5 M).ixm (kk:=.i64) hlt;have ld:loadF none (elp x.2 1 k) (λb=>(Hm M)[b]?)=some (.str x.1.inputs[k],.keep):=(a5 M).l1m hlt rfl (Ext.refl _);have e5:=wrapN (n:=k) (by omega);have hnew:∀w,bget (bput M x.1.inputs[k] (bget M x.1.inputs[k]||bget M x.1.name)) w=decide (w∈S\/(x.1.name∈S/\w∈x.1.inputs.take (k+1))):=by
   intro w;rw[bget_put];have ht:x.1.inputs.take (k+1)=x.1.inputs.take k++[x.1.inputs[k]]:=by rw[List.take_add_one,List.getElem?_eq_getElem hlt];rfl
   rw[ht];by_cases hw:w=x.1.inputs[k]
   ·rw[if_pos hw,hM,hM,hw,<-Bool.decide_or,decide_eq_decide,List.mem_append,List.mem_singleton];constructor
    ·rintro((h1|h1)|(h1|h1))
     ·exact .inl h1
     ·exact .inr ⟨h1.1,.inl h1.2⟩
     ·exact .inr ⟨h1,.inr rfl⟩
     ·exact .inr ⟨h1.1,.inr rfl⟩
    ·rintro(h1|h1)
     ·exact .inl (.inl h1)
     ·exact .inr (.inl h1.1)
   ·rw[if_neg hw,hM,decide_eq_decide,List.mem_append,List.mem_singleton];simp only[hw,or_false]
  cases hb:bget M x.1.inputs[k]with
  |true=>
   rw[hb,Bool.true_or]at hnew;refine Rs (A17 @t4 @t6 @t20 @t21 @t22 @e3 @ix @ld @e5 @l2 @l3 @stepT_look @stepT_mupd @lk @hb @mp @a4) ?_;exact⟨_,by omega,k+1,_,by omega,rfl,rfl,hnew,rfl⟩
  |false=>
   rw[hb,Bool.false_or]at hnew;refine Rs (A17 @t4 @t6 @t20 @t21 @t22 @e3 @ix @ld @e5 @l2 @l3 @stepT_look @stepT_mupd @lk @hb @mp @a4) ?_;exact⟨_,by omega,k+1,_,by omega,rfl,rfl,hnew,rfl⟩
 ·have e3:=dltF hlt;have e4:k=x.1.inputs.length:=by omega
  rw[e4,List.take_length]at hM;refine Rs (A6 @t4 @t6 @t20 @t21 @t22 @e3) ?_;refine⟨M,rfl,λw=>?_⟩;rw[hM,decide_eq_decide];by_cases hx:x.1.name∈S<;>simp[hx]
end
end Go.Abs
namespace Go.Abs
def noMA:MdR×AV:=(noMd,.nilSlice)
def backL(X:List (MdR×AV)):List (List AV):=(List.range X.length).map λj=>[.i ((X.length-1-j:Nat):Int),.agg (mdRow (X.getD (X.length-1-j) noMA))]
def backL_len{X}:(backL X).length=X.length:=by simp[backL]
def backL_get{X j}(hj:j<(backL X).length):(backL X)[j]=[.i ((X.length-1-j:Nat):Int),.agg (mdRow (X[X.length-1-j]'(by rw[backL_len]at hj;omega)))]:=by
 have h1:X.length-1-j<X.length:=by rw[backL_len]at hj;omega
 simp only[backL,List.getElem_map,List.getElem_range,List.getD_eq_getElem?_getD,List.getElem?_eq_getElem h1,Option.getD_some]
structure NdPre(V:RV)(m:List UInt8)(cm cr:Nat)(k:AHeap):Prop where
 m:k[cm]? =some (.b [.str m])
 r:k[cr]? =some (.b V.row)
 o:RegOk k V
theorem NdPre.ext{V m cm cr k k'}(p:NdPre V m cm cr k)(e:Ext k k'):NdPre V m cm cr k':=⟨e.some p.m,e.some p.r,p.o.ext e⟩
def needV(V:RV)(m:List UInt8):List (MdR×AV):=V.mods.filter λx=>decide (x.1.name∈needSet m V.reg.mods.reverse)
def needSet_s{m:List UInt8}{l:List MdR}{i:Nat}(hi:i<l.length):needSet m (l.take (i+1))=(if l[i].name∈needSet m (l.take i)then needSet m (l.take i)++l[i].inputs else needSet m (l.take i)):=by
 rw[List.take_add_one,List.getElem?_eq_getElem hi,needSet,List.foldl_append];rfl
def filter_at{α:Type}{p:α->Bool}{l:List α}{k:Nat}(hk:k<l.length)(hp:p l[k]=true):∃h:((l.take k).filter p).length<(l.filter p).length,(l.filter p)[((l.take k).filter p).length]=l[k]:=by
 have e:l.filter p=(l.take k).filter p++(l[k]:: (l.drop (k+1)).filter p):=by
  conv=>lhs;rw[<-List.take_append_drop k l,List.drop_eq_getElem_cons hk,List.filter_append,List.filter_cons,if_pos hp]
 have h:((l.take k).filter p).length<(l.filter p).length:=by rw[e];simp
 refine⟨h,?_⟩;have:(l.filter p)[((l.take k).filter p).length]? =some l[k]:=by rw[e,List.getElem?_append_right (Nat.le_refl _)];simp
 exact(List.getElem?_eq_some_iff.1 this).2
def filter_s{α:Type}{p:α->Bool}{l:List α}{k:Nat}(hk:k<l.length):((l.take (k+1)).filter p).length=if p l[k]=true then((l.take k).filter p).length+1 else((l.take k).filter p).length:=by
 rw[List.take_add_one,List.getElem?_eq_getElem hk,List.filter_append,List.length_append];cases h:p l[k]<;>simp[h]
def box_nm{N}:boxF .nilMap N=some (.ptr N 0,.push (.b [.nilMap])):=rfl
def st_nm{r N}:stB 1 0 (.map r) N (.b [.nilMap])=some (undefA,.set N (.b [.map r])):=rfl
set_option maxRecDepth 10000
attribute [local irreducible] WP WC WE WB WR WF WL WG WRg
section
variable {P:Program}(T:Tbl P) {h:AHeap}
include T
def r247{s}(o:s.one=true):RCall P 247 [s] h (λv h'=>v=.func (.func 266) [] [.ptr h.length 0]/\h' =h++[.b [s]]):=by
 refine .of T.mix T.c247 ?_;unfold fn247;exact Ws @o trivial
def iter_back{b s X}(hl:X.length<2^30):
  Iter P 266 [] [.ptr b 0] (backL X) (λk=>k[b]? =some (.b [s])/\IsSl k s 4 (X.map mdRow)):=by
 refine⟨λl h1 J Dn hpre happ hstep hend h0=>GCall.of T.mix T.c266 ?_⟩;obtain⟨ts,hts⟩:∃ts,ts=startTS 19 ([]++[.func (.yield l) [] []]++[.ptr b 0]):=⟨_,rfl⟩;have hlen:ts.length=19:=by rw[hts];rfl
 have t0:slot ts 0=.func (.yield l) [] []:=by rw[hts];rfl
 have t1:slot ts 1=.ptr b 0:=by rw[hts];rfl
 unfold fn266;show WC P inFn _ [] (startTS 19 ([]++[.func (.yield l) [] []]++[.ptr b 0])) h1 _;rw[<-hts];clear hts;have p0:=hpre 0 h1 h0;have l0:∀{n o},loadF n (.ptr b o) (λz=>h1[z]?)=ldB n o (.b [s]):=λ{_ _}=>loadF_at p0.1
 have e0:IntKind.i64.wrap ((X.length:Int)-1)=(X.length:Int)-1-(0:Nat):=by rw[wrap_in (by omega) (by omega)];omega
 refine Rs (A5 @t0 @t1 @l0 p0.2.lenm @e0) ?_;refine WL.inv T.mix (λn ts h'=>∃k:Nat,k<=X.length/\n=X.length-k/\J k h'/\ts.length=19/\slot ts 0=.func (.yield l) [] []/\slot ts 1=.ptr b 0/\slot ts 3=.i ((X.length:Int)-1-k)) X.length
  ⟨0,by omega,rfl,h0,Sn,(Sq @t0),(Sq @t1),(Sq @t0)⟩ ?_
 clear t0 t1 hlen l0 p0;clear ts;rintro _ ts h' ⟨k,hk,rfl,hJ,hlen,t0,t1,t3⟩;obtain⟨p1,p2⟩:=hpre _ _ hJ;have l0:∀{n o},loadF n (.ptr b o) (λz=>h'[z]?)=ldB n o (.b [s]):=λ{_ _}=>loadF_at p1
 by_cases hlt:k<X.length
 ·have hj:X.length-1-k<X.length:=by omega
  have ei:(X.length:Int)-1-k=((X.length-1-k:Nat):Int):=by omega
  have e3:decide ((0:Int)<=((X.length-1-k:Nat):Int))=true:=decide_eq_true (by omega);have ix:=p2.ixm (kk:=.i64) hj;have ld:loadF (some 4) (elp s 4 (X.length-1-k)) (λb=>h'[b]?)=some (.agg (mdRow X[X.length-1-k]),.keep):=p2.ldm hj (Ext.refl _);have hwk:IntKind.i64.wrap (((X.length-1-k:Nat):Int)-1)=(X.length:Int)-1-((k+1:Nat):Int):=by rw[wrap_in (by omega) (by omega)];omega
  rw[ei]at t3;refine Rs (A7 @t0 @t1 @t3 @l0 @e3 @ix @ld) ?_;obtain⟨bb,k',q1,q2⟩:=hstep k (by rw[backL_len];exact hlt) h' hJ;rw[backL_get]at q1;refine WF.valg q1 ?_;cases bb with
  |true=>
   refine Rs (A5 @t0 @t1 @t3 @Bool.not_true @hwk) ?_;exact⟨_,by omega,k+1,by omega,rfl,q2,rfl⟩
  |false=>
   refine Rs (A4 @t0 @t1 @t3 @Bool.not_false) ?_;exact q2
 ·have e3:decide ((0:Int)<=(X.length:Int)-1-k)=false:=decide_eq_false (by omega);have e4:k=X.length:=by omega
  refine Rs (A4 @t0 @t1 @t3 @e3) ?_;refine hend h' ?_;rw[backL_len,<-e4];exact hJ
def r224{V}(o:RegOk h V)(m:List UInt8):RCall P 224 [.agg V.row,.str m] h (λv h'=>v=.func (.func 246) [] [.ptr (h.length+1) 0,.ptr h.length 0]/\NdPre V m (h.length+1) h.length h'):=by
 refine .st2 6 T.mix T.c224 ?_;intro ts hlen t0 t1;unfold fn224;have hbx:=@RegOk.box _ _ o;have hl2:(h++[ABlk.b V.row]).length=h.length+1:=by simp
 refine Rs (A3 @t0 @t1 @hbx) ?_;rw[hl2];refine⟨rfl,?_,at_1,o.ext Xx⟩;rw[<-hl2];exact at_new
def iter_needs{V:RV}(l:LenR V)(hin:∀x∈V.mods,x.1.inputs.length<2^30)(m:List UInt8)(cm cr:Nat):
  IterM P 246 [] [.ptr cm 0,.ptr cr 0] ((needV V m).map λx=>[.agg (mdRow x)]) (NdPre V m cm cr):=by
 refine⟨λlp h J Dn hpre happ hstep hend hlp p0 h0=>GCall.of T.mix T.c246 ?_⟩;obtain⟨ts,hts⟩:∃ts,ts=startTS 56 ([]++[.func (.yield lp) [] []]++[.ptr cm 0,.ptr cr 0]):=⟨_,rfl⟩;have hlen:ts.length=56:=by rw[hts];rfl
 have t0:slot ts 0=.func (.yield lp) [] []:=by rw[hts];rfl
 have t1:slot ts 1=.ptr cm 0:=by rw[hts];rfl
 have t2:slot ts 2=.ptr cr 0:=by rw[hts];rfl
 show WC P inFn (fn246).body [] (startTS 56 ([]++[.func (.yield lp) [] []]++[.ptr cm 0,.ptr cr 0])) h _;rw[<-hts,nd_eq];clear hts;obtain⟨RR,hRR⟩:∃RR,RR=ndC:=⟨_,rfl⟩;obtain⟨RA,hRA⟩:∃RA,RA=ndR.rgA:=⟨_,rfl⟩;obtain⟨RB,hRB⟩:∃RB,RB=ndR.rgB:=⟨_,rfl⟩;rw[<-hRR,<-hRA,<-hRB];unfold nd1 fn246;simp only[ICode.tl,ICode.hd];have lm:=@ldx _ _ _ p0.m;have lr:=@ldx _ _ _ p0.r;have u0:mupF .s (.map h.length) (.str m) (.bool true) (λz=>(h++[ABlk.mapb []])[z]?)=some (undefA,.set h.length (.mapb ([(m,true)].map encB))):=mup_encB (M:=[]) at_new;refine Rs (A10 @t0 @t1 @t2 @lm @lr @stepT_mupd @u0 @row_4 @box_nm @st_nm) ?_
 refine WF.res T.c247 (r247 T p0.o.i3.one) ?_;rintro _ g1 ⟨rfl,hg⟩;have hg:=List.append_cancel_left hg;subst hg;refine Rs (A3 @t0 @t1 @t2) ?_;have hlV:V.reg.mods.length=V.mods.length:=by simp[RV.reg]
 refine WC.iter T.mix T.c266 (a:=[]) (c:=[.ptr (h++[ABlk.mapb (List.map encB [(m,true)])]++[ABlk.b [AV.map h.length]]).length 0]) (Sq @t0) (iter_back T (s:=V.s3) (X:=V.mods) (by have:=l.l3;omega)) (λy hy=>by obtain⟨z,_,rfl⟩:=List.mem_map.1 hy;rfl)
  (λi h' g=>∃M:List (List UInt8×Bool),h' =h++[ABlk.mapb (M.map encB)]++[ABlk.b [AV.map h.length]]++[ABlk.b [V.s3]]/\∀w,bget M w=decide (w∈needSet m (V.reg.mods.reverse.take i))) (λ_ _ _=>False)
  ⟨[(m,true)],rfl,λw=>?_⟩ (λi h' g g' hI=>hI) (λi h' g X hl hI=>?_) (λi hi h' g R B hl' hI=>?_) (λe h' g hl hI=>?_)
 ·show(if w=m then true else false)=decide (w∈[m]);by_cases hw:w=m<;>simp[hw]
 ·obtain⟨M,rfl,_⟩:=hI;refine⟨?_,p0.o.i3.ext Xx⟩;have e:(h++[ABlk.mapb (List.map encB [(m,true)])]++[ABlk.b [AV.map h.length]]).length=(h++[ABlk.mapb (M.map encB)]++[ABlk.b [AV.map h.length]]).length:=by simp
  rw[e];exact at_2
 ·obtain⟨M,rfl,hM⟩:=hI;have hi':i<V.mods.length:=by rw[<-backL_len];exact hi
  have hj:V.mods.length-1-i<V.mods.length:=by omega
  rw[backL_get,hRA];have hxm:V.mods[V.mods.length-1-i]∈V.mods:=List.getElem_mem _;have hxr:V.reg.mods.reverse[i]'(by rw[List.length_reverse];omega)=(V.mods[V.mods.length-1-i]).1:=by
   rw[List.getElem_reverse];simp only[RV.reg,List.getElem_map,List.length_map]
  have hns:=needSet_s (m:=m) (l:=V.reg.mods.reverse) (i:=i) (by rw[List.length_reverse];omega);rw[hxr]at hns;generalize V.mods[V.mods.length-1-i]=x at *;have ox:=p0.o.ones.2.1 x hxm;unfold ndR nd1 fn246;simp only[ICode.tl,ICode.hd,ICode.inn,ICode.rgA,setArgs,mdRow];refine Rs (A4 @t0 @t1 @t2 @ox) ?_;refine⟨_,g++[ABlk.b [AV.str x.1.name,.str x.1.gives,.str x.1.line,x.2]],by rw[<-List.append_assoc],hl',?_⟩;have xin:=p0.o.e3 x hxm;rw[hRB];refine WC.mono0 (needs_in T (x:=x) (mb:=h.length) (bb:=(h++[ABlk.mapb (List.map encB [(m,true)])]).length) (xb:=(h++[ABlk.mapb (List.map encB M)]++[ABlk.b [AV.map h.length]]++[ABlk.b [V.s3]]++[R]++g).length)
   (Hm:=λM=>h++[ABlk.mapb (List.map encB M)]++[ABlk.b [AV.map h.length]]++[ABlk.b [V.s3]]++[B]++(g++[ABlk.b (mdRow x)]))
   (λM=>at_4) (λM=>?_) (λM'=>?_) (λM K=>?_) (λM=>xin.ext Xx) (hin x hxm) ?_ (Sq @t0) (Sq @t0) hM) ?_
  ·have eL:(h++[ABlk.mapb (List.map encB [(m,true)])]).length=(h++[ABlk.mapb (List.map encB M)]).length:=by simp
   rw[eL];exact at_3
  ·have eL:(h++[ABlk.mapb (List.map encB M)]++[ABlk.b [AV.map h.length]]++[ABlk.b [V.s3]]++[B]++g).length=(h++[ABlk.mapb (List.map encB M')]++[ABlk.b [AV.map h.length]]++[ABlk.b [V.s3]]++[B]++g).length:=by simp
   rw[<-List.append_assoc];have eR:(h++[ABlk.mapb (List.map encB M)]++[ABlk.b [AV.map h.length]]++[ABlk.b [V.s3]]++[R]++g).length=(h++[ABlk.mapb (List.map encB M')]++[ABlk.b [AV.map h.length]]++[ABlk.b [V.s3]]++[B]++g).length:=by simp
   rw[eR];exact at_new
  ·exact set_4
  ·simp only[pset,hlen]
  ·rintro e _ _ ⟨rfl,M',rfl,hM'⟩;refine⟨_,_,rfl,by simp,?_⟩;rw[if_pos rfl];exact⟨M',rfl,λw=>by rw[hM',hns]⟩
 ·by_cases hen:e=.normal
  case neg=>rw[if_neg hen]at hI;exact hI.elim
  subst hen;rw[if_pos rfl]at hI;obtain⟨M,rfl,hM⟩:=hI;have hM:∀w,bget M w=decide (w∈needSet m V.reg.mods.reverse):=λw=>by
   rw[hM,List.take_of_length_le (by rw[List.length_reverse,backL_len,hlV];exact Nat.le_refl _)]
  rw[hRR];obtain⟨K0,hK0⟩:∃K0,K0=h++[ABlk.mapb (M.map encB)]++[ABlk.b [AV.map h.length]]++[ABlk.b [V.s3]]++[ABlk.dead]++g:=⟨_,rfl⟩;have eK:Ext h K0:=by rw[hK0];exact Xx
  have k1:K0[h.length]? =some (.mapb (M.map encB)):=by rw[hK0];exact at_4
  have k2:K0[(h++[ABlk.mapb (List.map encB [(m,true)])]).length]? =some (.b [AV.map h.length]):=by
   have eL:(h++[ABlk.mapb (List.map encB [(m,true)])]).length=(h++[ABlk.mapb (List.map encB M)]).length:=by simp
   rw[hK0,eL];exact at_3
  have hJ0:J K0.length 0 K0:=by
   obtain⟨g',hg'⟩:=eK;have:=h0 g'
   rwa [<-hg']at this
  have hmm:(h++[ABlk.mapb (List.map encB [(m,true)])]).length<K0.length:=by rw[hK0];simp only[List.length_append,List.length_cons,List.length_nil];omega
  have hbb:(h++[ABlk.mapb (List.map encB [(m,true)])]).length=h.length+1:=by simp
  rw[<-hK0];generalize K0.length=mm at hJ0 hmm;have lr0:∀{n o},loadF n (.ptr cr o) (λz=>K0[z]?)=ldB n o (.b V.row):=λ{_ _}=>loadF_at (eK.some p0.r)
  have hlm3:=λG=>p0.o.i3.lenm G
  unfold ndC fn246;simp only[ICode.tl];refine Rs (A6 @t0 @t1 @t2 @lr0 @row_4 @hlm3) ?_;rw[hbb]at k2 hmm;refine WL.inv T.mix (λn ts h'=>∃k:Nat,k<=V.mods.length/\n=V.mods.length-k/\J mm ((V.mods.take k).filter λx=>decide (x.1.name∈needSet m V.reg.mods.reverse)).length h'/\h'[h.length]? =some (.mapb (M.map encB))/\h'[h.length+1]? =some (.b [AV.map h.length])/\
    ts.length=56/\slot ts 0=.func (.yield lp) [] []/\slot ts 4=.ptr (h.length+1) 0/\slot ts 39=V.s3/\slot ts 40=.i V.mods.length/\slot ts 41=.i k) V.mods.length
   ⟨0,by omega,rfl,hJ0,k1,k2,Sn,(Sq @t0),(Sq (A2 @t0 @hbb)),(Sq @t0),(Sq @t0),Swr⟩ ?_
  clear t0 t1 t2 hlen lr lm u0 lr0 hJ0 k1 k2 hlm3;clear ts;rintro _ ts h' ⟨k,hk,rfl,hJ,k1,k2,hlen,t0,t4,t39,t40,t41⟩;by_cases hlt:k<V.mods.length
  ·have p1:=hpre _ _ _ hJ;have hxm:V.mods[k]∈V.mods:=List.getElem_mem _;have ix:=p1.o.i3.ixm (kk:=.i64) hlt;have ld:loadF (some 4) (elp V.s3 4 k) (λb=>h'[b]?)=some (.agg (mdRow V.mods[k]),.keep):=p1.o.i3.ldm hlt (Ext.refl _);have ox:=p1.o.ones.2.1 _ hxm;have e3:=dltT hlt;have e5:IntKind.i64.wrap ((k:Int)+1)=((k+1:Nat):Int):=wrapN (by have:=l.l3;omega);have l2:∀{z n o},Ext h' z->loadF n (.ptr (h.length+1) o) (λb=>z[b]?)=ldB n o (.b [AV.map h.length]):=λ{_ _ _} e=>loadF_at (e.some k2)
   have lk:∀{C w},lookF .s (.bool false) false (.map h.length) (.str w) (λz=>(h'++[C])[z]?)=some (.bool (bget M w),.keep):=λ{C _}=>look_encB ((Ext.app [C] (Ext.refl h')).some k1)
   have hf:=filter_at (p:=λx:MdR×AV=>decide (x.1.name∈needSet m V.reg.mods.reverse)) hlt;have hs:=filter_s (p:=λx:MdR×AV=>decide (x.1.name∈needSet m V.reg.mods.reverse)) hlt;have hMx:=hM V.mods[k].1.name;generalize V.mods[k]=x at *;unfold mdRow at ld;cases hb:bget M x.1.name with
   |true=>
    rw[hb]at hMx;obtain⟨hf1,hf2⟩:=hf hMx.symm;refine Rs (A13 @t0 @t4 @t39 @t40 @t41 @ix @ld @ox @e3 @l2 @stepT_look @lk @hb) ?_;obtain⟨bb,k',q1,q2,q3⟩:=hstep mm _ (by rw[List.length_map];exact hf1) _ (happ _ _ _ [ABlk.b [AV.str x.1.name,.str x.1.gives,.str x.1.line,x.2]] hJ);rw[List.getElem_map]at q1;have hf2':(needV V m)[((V.mods.take k).filter λx=>decide (x.1.name∈needSet m V.reg.mods.reverse)).length]'hf1=x:=hf2;have q1:SCallV P (.func (.yield lp) [] []) [AV.agg (mdRow x)] (h'++[ABlk.b [AV.str x.1.name,.str x.1.gives,.str x.1.line,x.2]]) (.bool bb) k':=by
     refine Eq.mp ?_ q1;congr 1;exact congrArg (λy=>[AV.agg (mdRow y)]) hf2'
    unfold mdRow at q1;refine WF.valg q1 ?_;cases bb with
    |true=>
     refine Rs (A7 @t0 @t4 @t39 @t40 @t41 @Bool.not_true @e5) ?_;have hlt1:=(List.getElem?_eq_some_iff.1 k1).1;have hlt2:=(List.getElem?_eq_some_iff.1 k2).1;refine⟨_,by omega,k+1,by omega,rfl,?_,?_,?_,rfl⟩
     ·rw[hs,<-hMx,if_pos rfl];exact q3
     ·rw[q2 _ (by omega) (by omega),List.getElem?_append_left hlt1];exact k1
     ·rw[q2 _ (by omega) (by omega),List.getElem?_append_left hlt2];exact k2
    |false=>
     refine Rs (A6 @t0 @t4 @t39 @t40 @t41 @Bool.not_false) ?_;exact q3
   |false=>
    rw[hb]at hMx;refine Rs (A14 @t0 @t4 @t39 @t40 @t41 @ix @ld @ox @e3 @l2 @stepT_look @lk @hb @e5) ?_;have hlt1:=(List.getElem?_eq_some_iff.1 k1).1;have hlt2:=(List.getElem?_eq_some_iff.1 k2).1;refine⟨_,by omega,k+1,by omega,rfl,?_,?_,?_,rfl⟩
    ·rw[hs,<-hMx,if_neg (by decide)];exact happ _ _ _ _ hJ
    ·rw[List.getElem?_append_left hlt1];exact k1
    ·rw[List.getElem?_append_left hlt2];exact k2
  ·have e3:=dltF hlt;have e4:k=V.mods.length:=by omega
   rw[e4,List.take_length]at hJ;refine Rs (A6 @t0 @t4 @t39 @t40 @t41 @e3) ?_;refine hend mm h' ?_;rw[List.length_map];exact hJ
end
end Go.Abs
namespace Go.Abs
def srC1:ICode:=((fn196).body.tl.tl).hd
def srR:ICode:=srC1.tl.inn
def srC:ICode:=(fn196).body.tl.tl.tl
def sr_eq:(fn196).body=.seq ((fn196).body.hd) (.seq ((fn196).body.tl.hd) (.seq (.seq srC1.hd (.block 0 (.rangeF (.t 10) [11] srR.rgA srR.rgB))) srC)):=rfl
def st_nm'{r N}:stB 1 0 (.map r) N (.b [.nilMap])=some (undefA,.set N (.b [.map r])):=rfl
def needV_fst{V m}:(needV V m).map Prod.fst=needS V.reg m:=by
 rw[needV,needS];show _=List.filter _ (List.map Prod.fst V.mods);rw[List.filter_map];rfl
set_option maxRecDepth 10000
attribute [local irreducible] WP WC WE WB WR WF WL WG WRg
section
variable {P:Program}(T:Tbl P) {h:AHeap}
include T
def r226{x b c M}(hb:h[b]? =some (.b [.map c]))(hc:h[c]? =some (.mapb (M.map encB))):RCall P 226 [.agg (lnRow x),.ptr b 0] h (λv _=>v=.bool (bget M x.name)):=by
 refine .st2 8 T.mix T.c226 ?_;intro ts hlen t0 t1;unfold fn226;have lb:∀{k:AHeap}{n':Option Nat}{a:Nat},Ext h k->loadF n' (.ptr b a) (λz=>k[z]?)=ldB n' a (.b [.map c]):=λe=>loadF_at (e.some hb)
 have lk:∀{C w},lookF .s (.bool false) false (.map c) (.str w) (λz=>(h++[C])[z]?)=some (.bool (bget M w),.keep):=λ{C _}=>look_encB ((Ext.app [C] (Ext.refl h)).some hc)
 unfold lnRow at t0;exact Rs (A5 @t0 @t1 @lb @stepT_look @lk) trivial
def r196{V}(o:RegOk h V)(l:LenR V)(hin:∀x∈V.mods,x.1.inputs.length<2^30)(m:List UInt8):RCall P 196 [.agg V.row,.str m] h (λv h'=>IsSl h' v 3 ((srcS V.reg m).map lnRow)):=by
 refine .of T.mix T.c196 ?_;obtain⟨ts,hts⟩:∃ts,ts=startTS 19 [.agg V.row,.str m]:=⟨_,rfl⟩;have hlen:ts.length=19:=by rw[hts];rfl
 have t0:slot ts 0=.agg V.row:=by rw[hts];rfl
 have t1:slot ts 1=.str m:=by rw[hts];rfl
 show WC P inFn (fn196).body [] (startTS 19 [.agg V.row,.str m]) h _;rw[<-hts,sr_eq];clear hts;obtain⟨RR,hRR⟩:∃RR,RR=srC:=⟨_,rfl⟩;obtain⟨RA,hRA⟩:∃RA,RA=srR.rgA:=⟨_,rfl⟩;obtain⟨RB,hRB⟩:∃RB,RB=srR.rgB:=⟨_,rfl⟩;rw[<-hRR,<-hRA,<-hRB];unfold srC1 fn196;simp only[ICode.tl,ICode.hd];have hbx:=@RegOk.box _ _ o;refine Rs (A6 @t0 @t1 @hbx @box_nm @st_nm' @row_a) ?_;obtain⟨H0,hH0⟩:∃H0,H0=h++[ABlk.b V.row]:=⟨_,rfl⟩;have e0:Ext h H0:=by rw[hH0];exact Xx
 rw[<-hH0];refine WF.res T.c224 (r224 T (o.ext (e0.trans Xx)) m) ?_;rintro _ g1 ⟨rfl,hp⟩;refine Rs (A2 @t0 @t1) ?_;obtain⟨cm,hcm⟩:∃cm,cm=(H0++[ABlk.mapb []]++[ABlk.b [AV.map H0.length]]).length:=⟨_,rfl⟩;rw[<-hcm]at hp ⊢;have pmap:∀(M:List (List UInt8×Bool)) (Z:AHeap),NdPre V m (cm+1) cm (H0++[ABlk.mapb (M.map encB)]++[ABlk.b [AV.map H0.length]]++g1++Z):=by
  intro M Z;have hne:∀b,b≠H0.length->(H0++[ABlk.mapb (M.map encB)]++[ABlk.b [AV.map H0.length]]++g1)[b]? =(H0++[ABlk.mapb []]++[ABlk.b [AV.map H0.length]]++g1)[b]? :=λb hb=>by
   have:=at_swap (A:=H0) (B:=[ABlk.b [AV.map H0.length]]++g1) (K:=ABlk.mapb (M.map encB)) (K':=ABlk.mapb []) (b:=b) hb
   simpa only[List.append_assoc]using this
  have hcl:cm=H0.length+2:=by rw[hcm];simp
  refine NdPre.ext ⟨(hne _ (by omega)).trans hp.m,(hne _ (by omega)).trans hp.r,(o.ext e0).ext Xx⟩ (Ext.app Z (Ext.refl _))
 refine WC.iterM T.mix T.c246 (a:=[]) (c:=[.ptr (cm+1) 0,.ptr cm 0]) (Sq @t0) (iter_needs T l hin m (cm+1) cm) (λy hy=>by obtain⟨z,_,rfl⟩:=List.mem_map.1 hy;rfl)
  (λmm i h' g=>∃M:List (List UInt8×Bool),h' =H0++[ABlk.mapb (M.map encB)]++[ABlk.b [AV.map H0.length]]++g1/\mm<=h'.length+1+g.length/\∀w,bget M w=decide (w∈((needV V m).take i).map λx=>x.1.line)) (λ_ _ _=>False)
  (λg=>⟨[],rfl,Nat.le_refl _,λw=>rfl⟩) (λmm i h' g g' hI=>by obtain⟨M,a1,a2,a3⟩:=hI;exact⟨M,a1,by rw[List.length_append];omega,a3⟩) (λX=>pmap [] [X]) (λmm i h' g X hl hI=>?_) (λmm i hi h' g R B hl' hI=>?_) (λe h' g hl hI=>?_)
 ·obtain⟨M,rfl,_⟩:=hI;rw[List.append_assoc (H0++[ABlk.mapb (M.map encB)]++[ABlk.b [AV.map H0.length]]++g1)];exact pmap M _
 ·obtain⟨M,rfl,hmm,hM⟩:=hI;have hi':i<(needV V m).length:=by simpa using hi
  rw[List.getElem_map,hRA,hRB];have hxm:(needV V m)[i]∈V.mods:=(List.mem_filter.1 (List.getElem_mem hi')).1;have htk:((needV V m).take (i+1)).map (λx=>x.1.line)=((needV V m).take i).map (λx=>x.1.line)++[(needV V m)[i].1.line]:=by
   rw[List.take_add_one,List.getElem?_eq_getElem hi',List.map_append];rfl
  generalize (needV V m)[i]=x at *;have ox:=o.ones.2.1 x hxm;have eL:∀K:List (List UInt8×Bool),(H0++[ABlk.mapb (K.map encB)]).length=(H0++[ABlk.mapb []]).length:=λK=>by simp
  have u0:∀{Z Y:AHeap},mupF .s (.map H0.length) (.str x.1.line) (.bool true) (λz=>(H0++[ABlk.mapb (M.map encB)]++[ABlk.b [AV.map H0.length]]++g1++[B]++Z++Y)[z]?)=some (undefA,.set H0.length (.mapb ((bput M x.1.line true).map encB))):=λ{Z Y}=>mup_encB at_5
  have lb:∀{Z Y:AHeap}{n a},loadF n (.ptr (H0++[ABlk.mapb []]).length a) (λz=>(H0++[ABlk.mapb (M.map encB)]++[ABlk.b [AV.map H0.length]]++g1++[B]++Z++Y)[z]?)=ldB n a (.b [.map H0.length]):=λ{Z Y _ _}=>by
   rw[<-eL M];exact loadF_at at_4
  have lx:∀{n a},loadF n (.ptr (H0++[ABlk.mapb (M.map encB)]++[ABlk.b [AV.map H0.length]]++g1++[R]++g).length a) (λz=>(H0++[ABlk.mapb (M.map encB)]++[ABlk.b [AV.map H0.length]]++g1++[B]++g++[ABlk.b [AV.str x.1.name,.str x.1.gives,.str x.1.line,x.2]])[z]?)=ldB n a (.b [AV.str x.1.name,.str x.1.gives,.str x.1.line,x.2]):=λ{_ _}=>by
   have:(H0++[ABlk.mapb (M.map encB)]++[ABlk.b [AV.map H0.length]]++g1++[R]++g).length=(H0++[ABlk.mapb (M.map encB)]++[ABlk.b [AV.map H0.length]]++g1++[B]++g).length:=by simp
   rw[this];exact loadF_at at_new
  unfold srR srC1 fn196;simp only[ICode.tl,ICode.hd,ICode.inn,ICode.rgA,ICode.rgB,setArgs,mdRow];refine Rs (A3 @t0 @t1 @ox) ?_;refine⟨_,g++[ABlk.b [AV.str x.1.name,.str x.1.gives,.str x.1.line,x.2]],by rw[<-List.append_assoc],hl',?_⟩;rw[<-List.append_assoc];refine Rs (A7 @t0 @t1 @ox @lb @lx @stepT_mupd @u0) ?_;refine⟨_,g++[ABlk.b [AV.str x.1.name,.str x.1.gives,.str x.1.line,x.2]],by rw[<-List.append_assoc],by simp,λy hy=>List.getElem?_append_left ?_,_,rfl,?_,λw=>?_⟩
  ·simp only[List.length_append,List.length_cons,List.length_nil]at hy hmm;omega
  ·simp only[List.length_append,List.length_cons,List.length_nil]at hmm ⊢;omega
  ·rw[bget_put,htk];by_cases hw:w=x.1.line
   ·rw[if_pos hw];simp[hw]
   ·rw[if_neg hw,hM];simp[hw]
 ·by_cases hen:e=.normal
  case neg=>rw[if_neg hen]at hI;exact hI.elim
  subst hen;rw[if_pos rfl]at hI;obtain⟨mm,M,rfl,_,hM⟩:=hI;rw[List.length_map,List.take_length]at hM;rw[hRR];have eL:(H0++[ABlk.mapb (M.map encB)]).length=(H0++[ABlk.mapb []]).length:=by simp
  obtain⟨K0,hK0⟩:∃K0,K0=H0++[ABlk.mapb (M.map encB)]++[ABlk.b [AV.map H0.length]]++g1++[ABlk.dead]++g:=⟨_,rfl⟩;have eK:Ext H0 K0:=by rw[hK0];exact Xx
  have k1:K0[H0.length]? =some (.mapb (M.map encB)):=by rw[hK0];exact at_4
  have k2:K0[(H0++[ABlk.mapb []]).length]? =some (.b [AV.map H0.length]):=by
   rw[hK0,<-eL];exact at_3
  rw[<-hK0];have lr:∀{k n a},Ext K0 k->loadF n (.ptr h.length a) (λz=>k[z]?)=ldB n a (.b V.row):=λ{_ _ _} e=>loadF_at ((eK.trans e).some (by rw[hH0];exact at_new))
  unfold srC fn196;simp only[ICode.tl];refine Rs (A4 @t0 @t1 @lr @row_1) ?_;refine WF.res T.c225 (r225 T (o.i0.ext (e0.trans (eK.trans Xx))) (by have:=l.l0;omega) (λx=>bget M x.name) (λx hx k e=>VCall.of (a:=[]) (c:=[.ptr (H0++[ABlk.mapb []]).length 0]) T.c226 (r226 T (e.some k2) (e.some k1)))) ?_;rintro s1 g2 hf;have eh:=e0.trans eK;have es:V.lines.filter (λx=>bget M x.name)=srcS V.reg m:=by
   refine List.filter_congr λx _=>?_
   rw[hM,<-needV_fst,List.map_map];rfl
  rw[es]at hf;have:=hf.isSl;refine Rs (A2 @t0 @t1) ?_;exact⟨Ext.app _ eh,this⟩
end
end Go.Abs
namespace Go.Abs
def roRow(x:Nat×Bool):List AV:=[.i (x.1:Int),.bool x.2]
def kdChk:Kd->AV
 |.undo=>.nilFunc
 |.line=>.func (.func 117) [] []
 |.tape=>.func (.func 120) [] []
 |.shot=>.func (.func 124) [] []
 |.copy=>.func (.func 126) [] []
 |.accept=>.func (.func 128) [] []
 |.source=>.func (.func 130) [] []
 |.modl=>.func (.func 132) [] []
 |.merge=>.func (.func 134) [] []
 |.run=>.func (.func 136) [] []
 |.tile=>.func (.func 138) [] []
 |.fail=>.func (.func 140) [] []
 |.pict=>.func (.func 142) [] []
 |.rel=>.func (.func 144) [] []
def kdDo:Kd->AV
 |.undo=>.nilFunc
 |.line=>.func (.func 118) [] []
 |.tape=>.func (.func 121) [] []
 |.shot=>.func (.func 125) [] []
 |.copy=>.func (.func 127) [] []
 |.accept=>.func (.func 129) [] []
 |.source=>.func (.func 131) [] []
 |.modl=>.func (.func 133) [] []
 |.merge=>.func (.func 135) [] []
 |.run=>.func (.func 137) [] []
 |.tile=>.func (.func 139) [] []
 |.fail=>.func (.func 141) [] []
 |.pict=>.func (.func 143) [] []
 |.rel=>.func (.func 145) [] []
def kdAb:Kd->Option Nat
 |.undo=>none
 |.line=>some 0
 |.tape=>some 3
 |.shot=>some 1
 |.copy=>some 3
 |.accept=>some 0
 |.source=>some 1
 |.modl=>none
 |.merge=>none
 |.run=>none
 |.tile=>none
 |.fail=>none
 |.pict=>none
 |.rel=>none
def AbOk(h:AHeap)(d:Kd)(v:AV):Prop:=
 match kdAb d with
 |none=>v=.nilFunc
 |some 3=>v=.func (.func 122) [] []
 |some i=>∃b,v=.func (.func 187) [] [.ptr b 0]/\h[b]? =some (.b [.i (i:Int)])
structure KdOk(h:AHeap)(d:Kd)(v:AV):Prop where
 ex:∃rs a,v=.agg [rs,.i (valsK d:Int),kdChk d,kdDo d,a]/\IsSl h rs 2 ((rolesK d).map roRow)/\a.one=true/\AbOk h d a
def kdEs(vf:Kd->AV):List (AV×AV):=kdAll.map λd=>(.str (kdName d),vf d)
structure KindsOk(h:AHeap)(r:Nat)(vf:Kd->AV):Prop where
 m:h[r]? =some (.mapb (kdEs vf))
 k:∀d,KdOk h d (vf d)
theorem find_kd{vf:Kd->AV}{k:List UInt8}:∀{L:List Kd},findA .s (.str k) (L.map λd=>(AV.str (kdName d),vf d))=some ((L.find? λd=>kdName d==k).map vf)
 |[]=>rfl
 |d::L=>by
  rw[List.map_cons,List.find?_cons];by_cases hk:k=kdName d
  ·subst hk;simp only[findA,eqCell,BEq.rfl,Option.map_some]
  ·have h1:(k==kdName d)=false:=by simp[hk]
   have h2:(kdName d==k)=false:=by simp[Ne.symm hk]
   simp only[findA,eqCell,h1,h2];exact find_kd
def KindsOk.look{h:AHeap}{r:Nat}{vf:Kd->AV}(o:KindsOk h r vf){z:AV}{ok:Bool}{k:List UInt8}:lookF .s z ok (.map r) (.str k) (λb=>h[b]?)=lookR z ok ((kdOf k).map vf):=lookF_at o.m find_kd
def BeR(h g:AHeap)(s:AV)(rs:List (Nat×Bool)):Prop:=∀X,IsSl (h++[X]++g) s 2 (rs.map roRow)
theorem BeR.app{h g s rs}(o:BeR h g s rs)(g':AHeap):BeR h (g++g') s rs:=λX=>by rw[<-List.append_assoc];exact(o X).app g'
def BeC(h g:AHeap)(b:Nat)(i:Int):Prop:=∀X,(h++[X]++g)[b]? =some (ABlk.b [.i i])
theorem AbOk.app{h d v}(o:AbOk h d v)(g:AHeap):AbOk (h++g) d v:=by
 unfold AbOk at *;split at o
 ·exact o
 ·exact o
 ·obtain⟨b,h1,h2⟩:=o;exact⟨b,h1,(Ext.app g (Ext.refl _)).some h2⟩
theorem KdOk.app{h d v}(o:KdOk h d v)(g:AHeap):KdOk (h++g) d v:=by
 obtain⟨rs,a,e,hs,ha,hb⟩:=o.ex;exact⟨rs,a,e,hs.app g,ha,hb.app g⟩
def kdL(ds:List Kd)(vf:Kd->AV):List (AV×AV):=ds.map λd=>(.str (kdName d),vf d)
def kdU(vf:Kd->AV)(d:Kd)(v:AV):Kd->AV:=λx=>if x=d then v else vf x
def okA(a:Nat)(F:List (Nat×AV)):Bool:=decide (a<56)&&decide (a≠1)&&F.all λp=>decide (p.1≠a)
structure KSt(h:AHeap)(ts:TS)(g:AHeap)(ds:List Kd)(vf:Kd->AV)(F:List (Nat×AV)):Prop where
 l:ts.length=56
 m:slot ts 1=.map h.length
 f:∀p∈F,slot ts p.1=p.2
 e:∀d∈ds,∀X,KdOk (h++[X]++g) d (vf d)
def KSt.put{h ts g ds vf F}(s:KSt h ts g ds vf F){a v}(g':AHeap)(hc:okA a F=true):KSt h (ts.set a v) (g++g') ds vf ((a,v)::F):=by
 simp only[okA,Bool.and_eq_true,decide_eq_true_eq,List.all_eq_true]at hc;have hl:a+1<=ts.length:=by rw[s.l];omega
 refine⟨by simp only[pset,s.l],by simp only[pset,eq_false hc.1.2,s.m],λp hp=>?_,λd hd X=>?_⟩
 ·rcases List.mem_cons.1 hp with rfl|hp
  ·simp only[pset,hl]
  ·simp only[pset,eq_false (λe=>hc.2 p hp (Eq.symm e)),s.f p hp]
 ·rw[<-List.append_assoc];exact(s.e d hd X).app g'
theorem upd_kd{vf k v}:∀{ds},ds.all (λx=>!(kdName x==k))=true->updA .s (.str k) v (kdL ds vf)=some (kdL ds vf++[(.str k,v)])
 |[],_=>rfl
 |d::ds,hd=>by
  rw[List.all_cons,Bool.and_eq_true]at hd;have h2:(kdName d==k)=false:=by simpa using hd.1
  have h3:¬kdName d=k:=by simpa using hd.1
  have h1:(k==kdName d)=false:=by simp[Ne.symm h3]
  have:=upd_kd (vf:=vf) (v:=v) hd.2;unfold kdL at *;simp only[List.map_cons,updA,eqCell,h1,h2,this,Option.map_some,List.cons_append]
def one_nf:AV.one .nilFunc=true:=rfl
set_option maxRecDepth 10000
attribute [local irreducible] WP WC WE WB WR WF WL WG WRg
section
variable {P:Program}(T:Tbl P) {h:AHeap}
include T
def r116(t:Int):RCall P 116 [.i t] h (λv _=>v=.agg [.i t,.bool false]):=by
 refine .of T.mix T.c116 ?_;unfold fn116;exact Wn trivial
def r123(t:Int):RCall P 123 [.i t] h (λv _=>v=.agg [.i t,.bool true]):=by
 refine .of T.mix T.c123 ?_;unfold fn123;exact Wn trivial
def r119(i:Int):RCall P 119 [.i i] h (λv h'=>v=.func (.func 187) [] [.ptr h.length 0]/\h' =h++[.b [.i i]]):=by
 refine .of T.mix T.c119 ?_;unfold fn119;exact Wn trivial
section
variable {ks:List Kt}{ts:TS}{Q:Ex->TS->AHeap->Prop}{g:AHeap}{ds:List Kd}{vf:Kd->AV}{F:List (Nat×AV)}{a:Nat}{l:List IOp}
def k_fresh{t}(s:KSt h ts g ds vf F)(hc:okA a F=true)(K:∀ts' g',KSt h ts' (g++g') ds vf ((a,.agg [.i t,.bool false])::F)->WP P inFn l ks ts' (h++[.mapb (kdL ds vf)]++(g++g')) Q):
  WP P inFn (.c a 116 [.c (.i t)]::l) ks ts (h++[.mapb (kdL ds vf)]++g) Q:=by
 refine Wn ?_;refine WF.ce T.c116 (r116 T t) λg1=>?_
 rw[List.append_assoc (h++[ABlk.mapb (kdL ds vf)]) g];exact K _ _ (s.put g1 hc)
def k_old{t}(s:KSt h ts g ds vf F)(hc:okA a F=true)(K:∀ts' g',KSt h ts' (g++g') ds vf ((a,.agg [.i t,.bool true])::F)->WP P inFn l ks ts' (h++[.mapb (kdL ds vf)]++(g++g')) Q):
  WP P inFn (.c a 123 [.c (.i t)]::l) ks ts (h++[.mapb (kdL ds vf)]++g) Q:=by
 refine Wn ?_;refine WF.ce T.c123 (r123 T t) λg1=>?_
 rw[List.append_assoc (h++[ABlk.mapb (kdL ds vf)]) g];exact K _ _ (s.put g1 hc)
def k_at{t}(s:KSt h ts g ds vf F)(hc:okA a F=true)(K:∀ts' g' b,KSt h ts' (g++g') ds vf ((a,.func (.func 187) [] [.ptr b 0])::F)->BeC h (g++g') b t->WP P inFn l ks ts' (h++[.mapb (kdL ds vf)]++(g++g')) Q):
  WP P inFn (.c a 119 [.c (.i t)]::l) ks ts (h++[.mapb (kdL ds vf)]++g) Q:=by
 refine Wn ?_;refine WF.res T.c119 (r119 T t) ?_;rintro _ g1 ⟨rfl,hg⟩;have hg:=List.append_cancel_left hg;subst hg;rw[List.append_assoc (h++[ABlk.mapb (kdL ds vf)]) g];refine K _ _ _ (s.put _ hc) λX=>?_
 have e:(h++[ABlk.mapb (kdL ds vf)]++g).length=(h++[X]++g).length:=by simp
 rw[e,<-List.append_assoc];exact at_new
theorem k_bsl{N}(s:KSt h ts g ds vf F)(hc:okA a []=true){n xs}(hN:N=(h++[ABlk.mapb (kdL ds vf)]++g).length)(hn:xs.length=n)(K:∀ts' g' s,KSt h ts' (g++g') ds vf [(a,s)]->BeR h (g++g') s xs->WP P inFn l ks ts' (h++[.mapb (kdL ds vf)]++(g++g')) Q):
  WP P inFn l ks (ts.set a (.slice N 0 n 2)) (h++[.mapb (kdL ds vf)]++g++[.cells (xs.map roRow).flatten true true]) Q:=by
 subst hN;subst hn;rw[List.append_assoc (h++[ABlk.mapb (kdL ds vf)]) g];have s0:KSt h ts g ds vf []:=⟨s.l,s.m,λ_ hp=>(by cases hp),s.e⟩;refine K _ _ _ (s0.put _ hc) λX=>?_
 have e:(h++[ABlk.mapb (kdL ds vf)]++g).length=(h++[X]++g).length:=by simp
 rw[e,<-List.append_assoc];have:=(Fr.push (N:=0) (h:=h++[X]++g) (Nat.zero_le _) (xs.map roRow) (es:=2) (by intro c hc;obtain⟨x,_,rfl⟩:=List.mem_map.1 hc;rfl)).isSl
 rwa [List.length_map]at this
def k_bs1{a0 x0}(s:KSt h ts g ds vf [(a0,.agg (roRow x0))])(hc:okA a []=true)(K:∀ts' g' s,KSt h ts' (g++g') ds vf [(a,s)]->BeR h (g++g') s [x0]->WP P inFn l ks ts' (h++[.mapb (kdL ds vf)]++(g++g')) Q):
  WP P inFn (.o a (.bslice 2 1 [.i 0,.bool false] [(0,.t a0)])::l) ks ts (h++[.mapb (kdL ds vf)]++g) Q:=by
 have s0:slot ts a0=.agg [.i (x0.1:Int),.bool x0.2]:=s.f (a0,.agg (roRow x0)) (by simp);refine Ws @s0 ?_;exact k_bsl T s hc rfl rfl K
def k_bs2{a0 a1 x0 x1}(s:KSt h ts g ds vf [(a1,.agg (roRow x1)),(a0,.agg (roRow x0))])(hc:okA a []=true)(K:∀ts' g' s,KSt h ts' (g++g') ds vf [(a,s)]->BeR h (g++g') s [x0,x1]->WP P inFn l ks ts' (h++[.mapb (kdL ds vf)]++(g++g')) Q):
  WP P inFn (.o a (.bslice 2 2 [.i 0,.bool false] [(0,.t a0),(2,.t a1)])::l) ks ts (h++[.mapb (kdL ds vf)]++g) Q:=by
 have s0:slot ts a0=.agg [.i (x0.1:Int),.bool x0.2]:=s.f (a0,.agg (roRow x0)) (by simp);have s1:slot ts a1=.agg [.i (x1.1:Int),.bool x1.2]:=s.f (a1,.agg (roRow x1)) (by simp);refine Ws (A2 @s0 @s1) ?_;exact k_bsl T s hc rfl rfl K
def k_bs3{a0 a1 a2 x0 x1 x2}(s:KSt h ts g ds vf [(a2,.agg (roRow x2)),(a1,.agg (roRow x1)),(a0,.agg (roRow x0))])(hc:okA a []=true)(K:∀ts' g' s,KSt h ts' (g++g') ds vf [(a,s)]->BeR h (g++g') s [x0,x1,x2]->WP P inFn l ks ts' (h++[.mapb (kdL ds vf)]++(g++g')) Q):
  WP P inFn (.o a (.bslice 2 3 [.i 0,.bool false] [(0,.t a0),(2,.t a1),(4,.t a2)])::l) ks ts (h++[.mapb (kdL ds vf)]++g) Q:=by
 have s0:slot ts a0=.agg [.i (x0.1:Int),.bool x0.2]:=s.f (a0,.agg (roRow x0)) (by simp);have s1:slot ts a1=.agg [.i (x1.1:Int),.bool x1.2]:=s.f (a1,.agg (roRow x1)) (by simp);have s2:slot ts a2=.agg [.i (x2.1:Int),.bool x2.2]:=s.f (a2,.agg (roRow x2)) (by simp);refine Ws (A3 @s0 @s1 @s2) ?_;exact k_bsl T s hc rfl rfl K
theorem k_mv{v}:WP P inFn [.o a (.mov (.c v))] ks ts h Q=WE P inFn .normal ks (ts.set a v) h Q:=by
 unfold IOp.o;rw[WP_mov,WP_nil,val_c,put_s]
theorem k_mk:WP P inFn (.o a .mkmap::l) ks ts h Q=WP P inFn l ks (ts.set a (.map h.length)) (h++[.mapb []]) Q:=WP_mkmap
theorem k_upG{z ps v}(d:Kd)(s:KSt h ts g ds vf F)(hc:okA a []=true)(hd:ds.all (λx=>!(kdName x==kdName d))=true)
  (hv:buildF (fillA z (ps.map λp=>(p.1,p.2.1,val ts p.2.2)))=some v) (ok:∀X,KdOk (h++[X]++g) d v)
  (K:∀ts',KSt h ts' g (ds++[d]) (kdU vf d v) []->WP P inFn l ks ts' (h++[.mapb (kdL (ds++[d]) (kdU vf d v))]++g) Q):
  WP P inFn (.o a (.build z ps):: .x (.mupd .s (.t 1) (.c (.str (kdName d))) (.t a))::l) ks ts (h++[.mapb (kdL ds vf)]++g) Q:=by
 have e1:mupF .s (.map h.length) (.str (kdName d)) v (λb=>(h++[ABlk.mapb (kdL ds vf)]++g)[b]?)=some (undefA,.set h.length (.mapb (kdL ds vf++[(.str (kdName d),v)]))):=mupF_at at_1 (upd_kd hd);have hn:∀x∈ds,x≠d:=λx hx e=>by
  have:=List.all_eq_true.1 hd x hx;rw[e]at this;simp at this
 have eL:kdL ds vf++[(.str (kdName d),v)]=kdL (ds++[d]) (kdU vf d v):=by
  unfold kdL;rw[List.map_append,List.map_singleton,kdU,if_pos rfl];exact congrArg (· ++_) (List.map_congr_left λx hx=>by rw[kdU,if_neg (hn x hx)])
 unfold IOp.o IOp.x;rw[WP_build,hv,WV_some,WP_mupd];simp only[okA,Bool.and_eq_true,decide_eq_true_eq]at hc;have hl:a+1<=ts.length:=by rw[s.l];omega
 have e2:val (put ts (some a) v) (.t 1)=.map h.length:=by
  simp only[put_s,val_t,pset,eq_false hc.1.2,s.m]
 have e3:val (put ts (some a) v) (.t a)=v:=by simp only[put_s,val_t,pset,hl]
 rw[stepT_mupd,e2,e3,val_c,e1,WR_set,put_n,put_s];have e4:(h++[ABlk.mapb (kdL ds vf)]++g).set h.length (.mapb (kdL ds vf++[(.str (kdName d),v)]))=h++[.mapb (kdL ds vf++[(.str (kdName d),v)])]++g:=set_1;rw[e4,eL];refine K _ ⟨by simp only[pset,s.l],by simp only[pset,eq_false hc.1.2,s.m],λ_ hp=>(by cases hp),λx hx X=>?_⟩;rcases List.mem_append.1 hx with hx|hx
 ·rw[kdU,if_neg (hn x hx)];exact s.e x hx X
 ·rw[List.mem_singleton.1 hx,kdU,if_pos rfl];exact ok X
def k_up{i f2 f3 n x4 r a4}(d:Kd)(s:KSt h ts g ds vf F)(hc:okA a []=true)(hd:ds.all (λx=>!(kdName x==kdName d))=true)(hi:(i,r)∈F)(hb:BeR h g r (rolesK d))(h4:val ts x4=a4)(o4:a4.one=true)(b4:∀X,AbOk (h++[X]++g) d a4)
  (hn:(valsK d:Int)=n) (h2:kdChk d=.func (.func f2) [] []) (h3:kdDo d=.func (.func f3) [] [])
  (K:∀ts',KSt h ts' g (ds++[d]) (kdU vf d (.agg [r,.i n,kdChk d,kdDo d,a4])) []->WP P inFn l ks ts' (h++[.mapb (kdL (ds++[d]) (kdU vf d (.agg [r,.i n,kdChk d,kdDo d,a4])))]++g) Q):
  WP P inFn (.o a (.build [.nilSlice,.i 0,.nilFunc,.nilFunc,.nilFunc] [(0,1,.t i),(1,1,.c (.i n)),(2,1,.f f2),(3,1,.f f3),(4,1,x4)]):: .x (.mupd .s (.t 1) (.c (.str (kdName d))) (.t a))::l) ks ts (h++[.mapb (kdL ds vf)]++g) Q:=by
 have s0:slot ts i=r:=s.f (i,r) hi;have o0:r.one=true:=(hb (.mapb [])).one;refine k_upG T d s hc hd ?_ (λX=>⟨r,a4,by rw[hn],hb X,o4,b4 X⟩) K;exact Ws (A6 @s0 @h4 @o0 @o4 @h2 @h3) trivial
end
def r65:RCall P 65 [] h (λv h'=>∃vf,v=.map h.length/\KindsOk h' h.length vf):=by
 refine .st0 56 T.mix T.c65 ?_;intro ts hlen;unfold fn65;have m0:slot ((ts.set 0 AV.nilMap).set 1 (.map h.length)) 1=.map h.length:=by simp only[pset,hlen,Nat.reduceAdd,Nat.reduceLeDiff]
 have l0:((ts.set 0 AV.nilMap).set 1 (.map h.length)).length=56:=by simp only[pset,hlen]
 dsimp only[ICode.j,ICode.s,ICode.r];rw[WC_seq,WC_ops,k_mv T,WE_seqN,WC_seq,WC_ops,k_mk T];rw[<-List.append_nil (h++[ABlk.mapb []])];generalize (ts.set 0 AV.nilMap).set 1 (.map h.length)=ts at *;clear hlen;have s:KSt h ts [] [] (λ_=>undefA) []:=⟨l0,m0,λ_ hp=>(by cases hp),λ_ hd=>(by cases hd)⟩;clear l0 m0;refine k_upG T .undo s rfl rfl (v:=.agg [.nilSlice,.i 0,.nilFunc,.nilFunc,.nilFunc]) rfl (λX=>⟨_,_,rfl,.nil,rfl,rfl⟩) ?_;intro ts s;refine k_fresh T (t:=0) s rfl ?_;intro ts g s;refine k_bs1 T (x0:=(0,false)) s rfl ?_;intro ts g r s b;refine k_at T (t:=0) s rfl ?_;intro ts g p s c;refine k_up T .line s rfl rfl (by simp only[List.mem_cons,true_or,or_true]) (b.app g) (s.f (_,_) (List.mem_cons_self ..)) rfl (λX=>⟨p,rfl,c X⟩) rfl rfl rfl ?_
 intro ts s;refine k_fresh T (t:=1) s rfl ?_;intro ts g s;refine k_bs1 T (x0:=(1,false)) s rfl ?_;intro ts g r s b;refine k_up T .tape s rfl rfl (List.mem_cons_self ..) b rfl rfl (λ_=>rfl) rfl rfl rfl ?_;intro ts s;refine k_fresh T (t:=2) s rfl ?_;intro ts g s;refine k_old T (t:=0) s rfl ?_;intro ts g s;refine k_old T (t:=1) s rfl ?_;intro ts g s;refine k_bs3 T (x0:=(2,false)) (x1:=(0,true)) (x2:=(1,true)) s rfl ?_;intro ts g r s b;refine k_at T (t:=1) s rfl ?_;intro ts g p s c;refine k_up T .shot s rfl rfl (by simp only[List.mem_cons,true_or,or_true]) (b.app g) (s.f (_,_) (List.mem_cons_self ..)) rfl (λX=>⟨p,rfl,c X⟩) rfl rfl rfl ?_
 intro ts s;refine k_old T (t:=1) s rfl ?_;intro ts g s;refine k_old T (t:=1) s rfl ?_;intro ts g s;refine k_bs2 T (x0:=(1,true)) (x1:=(1,true)) s rfl ?_;intro ts g r s b;refine k_up T .copy s rfl rfl (List.mem_cons_self ..) b rfl rfl (λ_=>rfl) rfl rfl rfl ?_;intro ts s;refine k_old T (t:=0) s rfl ?_;intro ts g s;refine k_bs1 T (x0:=(0,true)) s rfl ?_;intro ts g r s b;refine k_at T (t:=0) s rfl ?_;intro ts g p s c;refine k_up T .accept s rfl rfl (by simp only[List.mem_cons,true_or,or_true]) (b.app g) (s.f (_,_) (List.mem_cons_self ..)) rfl (λX=>⟨p,rfl,c X⟩) rfl rfl rfl ?_;intro ts s;refine k_fresh T (t:=3) s rfl ?_
 intro ts g s;refine k_old T (t:=0) s rfl ?_;intro ts g s;refine k_bs2 T (x0:=(3,false)) (x1:=(0,true)) s rfl ?_;intro ts g r s b;refine k_at T (t:=1) s rfl ?_;intro ts g p s c;refine k_up T .source s rfl rfl (by simp only[List.mem_cons,true_or,or_true]) (b.app g) (s.f (_,_) (List.mem_cons_self ..)) rfl (λX=>⟨p,rfl,c X⟩) rfl rfl rfl ?_;intro ts s;refine k_fresh T (t:=3) s rfl ?_;intro ts g s;refine k_old T (t:=3) s rfl ?_;intro ts g s;refine k_bs2 T (x0:=(3,false)) (x1:=(3,true)) s rfl ?_;intro ts g r s b;refine k_up T .modl s rfl rfl (List.mem_cons_self ..) b rfl rfl (λ_=>rfl) rfl rfl rfl ?_;intro ts s
 refine k_fresh T (t:=3) s rfl ?_;intro ts g s;refine k_old T (t:=3) s rfl ?_;intro ts g s;refine k_old T (t:=3) s rfl ?_;intro ts g s;refine k_bs3 T (x0:=(3,false)) (x1:=(3,true)) (x2:=(3,true)) s rfl ?_;intro ts g r s b;refine k_up T .merge s rfl rfl (List.mem_cons_self ..) b rfl rfl (λ_=>rfl) rfl rfl rfl ?_;intro ts s;refine k_fresh T (t:=4) s rfl ?_;intro ts g s;refine k_old T (t:=3) s rfl ?_;intro ts g s;refine k_bs2 T (x0:=(4,false)) (x1:=(3,true)) s rfl ?_;intro ts g r s b;refine k_up T .run s rfl rfl (List.mem_cons_self ..) b rfl rfl (λ_=>rfl) rfl rfl rfl ?_;intro ts s;refine k_old T (t:=4) s rfl ?_
 intro ts g s;refine k_bs1 T (x0:=(4,true)) s rfl ?_;intro ts g r s b;refine k_up T .tile s rfl rfl (List.mem_cons_self ..) b rfl rfl (λ_=>rfl) rfl rfl rfl ?_;intro ts s;refine k_old T (t:=4) s rfl ?_;intro ts g s;refine k_bs1 T (x0:=(4,true)) s rfl ?_;intro ts g r s b;refine k_up T .fail s rfl rfl (List.mem_cons_self ..) b rfl rfl (λ_=>rfl) rfl rfl rfl ?_;intro ts s;refine k_fresh T (t:=5) s rfl ?_;intro ts g s;refine k_old T (t:=4) s rfl ?_;intro ts g s;refine k_bs2 T (x0:=(5,false)) (x1:=(4,true)) s rfl ?_;intro ts g r s b;refine k_up T .pict s rfl rfl (List.mem_cons_self ..) b rfl rfl (λ_=>rfl) rfl rfl rfl ?_
 intro ts s;refine k_old T (t:=5) s rfl ?_;intro ts g s;refine k_bs1 T (x0:=(5,true)) s rfl ?_;intro ts g r s b;refine k_up T .rel s rfl rfl (List.mem_cons_self ..) b rfl rfl (λ_=>rfl) rfl rfl rfl ?_;intro ts s;have hlen:=s.l;have t1:=s.m;refine Rs @t1 ?_;exact⟨_,at_1,λd=>s.e d (by cases d<;>decide) _⟩
end
end Go.Abs
namespace Go.Abs
theorem EvOk.row{h x}(o:EvOk h x):x.row.all AV.one=true:=by
 simp only[EV.row,all_c,all_n,one_i,one_s,o.n.one,o.v.one,Bool.and_self]
def EvOk.box{h x}(o:EvOk h x){N}:boxF (.agg x.row) N=some (.ptr N 0,.push (.b x.row)):=by
 have:(AV.agg x.row).cells=x.row:=rfl;simp only[boxF,this,o.row,if_true]
def erow_0{x:EV}:x.row[0]? =some (.i x.ev.num):=rfl
def erow_1{x:EV}:x.row[1]? =some (.str x.ev.kind):=rfl
def erow_2{x:EV}:x.row[2]? =some x.sn:=rfl
def erow_3{x:EV}:x.row[3]? =some x.sv:=rfl
def erow_4{x:EV}:x.row[4]? =some (.str x.ev.text):=rfl
def erow_a{x:EV}{mu tl:Bool}:ldB (some 5) 0 (.cells x.row mu tl)=some (.agg x.row,.keep):=rfl
def kdChk_one(d:Kd):(kdChk d).one=true:=by cases d<;>rfl
def kdDo_one(d:Kd):(kdDo d).one=true:=by cases d<;>rfl
def first_when{l:List (List UInt8)}:firstS (l.map λs=>whenS (!nameS s) 8)=if l.any (λs=>!nameS s)then 8 else 0:=by
 induction l with
 |nil=>rfl
 |cons a l ih=>
  rw[List.map_cons,firstS,ih,List.any_cons,whenS];cases h:nameS a<;>simp
def first_range{l:List Int}:firstS (l.map λn=>rangeS n 0 999999999)=if l.any (λn=>decide (rangeS n 0 999999999≠0))then 3 else 0:=by
 induction l with
 |nil=>rfl
 |cons a l ih=>
  rw[List.map_cons,firstS,ih,List.any_cons];by_cases h:rangeS a 0 999999999=0
  ·simp[h]
  ·have h3:rangeS a 0 999999999=3:=by unfold rangeS at h ⊢;split<;>simp_all
   simp[h3]
def range_3{n lo hi}(h:rangeS n lo hi≠0):rangeS n lo hi=3:=by unfold rangeS at h ⊢;split<;>simp_all
set_option maxRecDepth 10000
attribute [local irreducible] WP WC WE WB WR WF WL WG WRg
section
variable {P:Program}(T:Tbl P) {h:AHeap}
include T
def r67(s:List UInt8):RCall P 67 [.str s] h (λv _=>v=.i (whenS (!nameS s) 8)):=by
 refine .of T.mix T.c67 ?_;unfold fn67;refine Wn ?_;refine WF.ce T.c68 (r68 T s) λg1=>?_
 refine Wn ?_;refine WF.ce T.c34 (r34 T _ _) λg2=>?_
 exact Wn trivial
def r70(n:Int):RCall P 70 [.i n] h (λv _=>v=.i (rangeS n 0 999999999)):=by
 refine .of T.mix T.c70 ?_;unfold fn70;refine Wn ?_;refine WF.ce T.c47 (r47 T _ _ _) λg1=>?_
 exact Wn trivial
def r33{x:EV}(o:EvOk h x)(hl:x.ev.names.length<=2^40/\x.ev.vals.length<=2^40):RCall P 33 [.agg x.row] h (λv _=>v=.i (chkE x.ev)):=by
 refine .st1 53 T.mix T.c33 ?_;intro ts hlen t0;unfold fn33;have hbx:=@EvOk.box _ _ o;refine Rs (A3 @t0 @hbx @erow_0) ?_;refine WF.ce T.c47 (r47 T _ _ _) λg1=>?_
 by_cases h0:rangeS x.ev.num 1 1000=0
 case neg=>
  have e0:decide (rangeS x.ev.num 1 1000≠0)=true:=decide_eq_true h0;refine Rs (A2 @t0 @e0) ?_;rw[chkE,if_pos h0];exact congrArg (AV.int .i64) (range_3 h0)
 have e0:decide (rangeS x.ev.num 1 1000≠0)=false:=decide_eq_false (λz=>z h0);refine Rs (A2 @t0 @e0) ?_;refine WF.res T.c65 (r65 T) ?_;rintro _ g2 ⟨vf,rfl,hk⟩;have lk:∀{z:AV},lookF .s z true (.map (h++[ABlk.b x.row]++g1).length) (.str x.ev.kind) (λb=>(h++[ABlk.b x.row]++g1++g2)[b]?)=lookR z true ((kdOf x.ev.kind).map vf):=hk.look;cases hd:kdOf x.ev.kind with
 |none=>
  rw[hd]at lk;have lk':∀{z:AV},_=some (AV.tup [z,.bool false],Eff.keep):=@lk;refine Rs (A6 @t0 @erow_1 @stepT_look @lk' @one_nf @Bool.not_false) ?_;rw[chkE,if_neg (by simpa using h0),hd]
 |some d=>
  rw[hd]at lk;have lk':∀{z:AV},_=some (AV.tup [vf d,.bool true],Eff.keep):=@lk;obtain⟨rs,a,hv,hr,ha,hab⟩:=(hk.k d).ex;rw[hv]at lk';have hlr:=hr.lenm;have c1:=kdChk_one d;have c2:=kdDo_one d;have c3:=hr.one;refine Rs (A14 @t0 @erow_1 @erow_2 @erow_3 @stepT_look @lk' @Bool.not_true @c1 @c2 @c3 @ha @hlr o.n.lenm o.v.lenm) ?_;have esh:chkE x.ev=if x.ev.names.length≠(rolesK d).length\/x.ev.vals.length≠valsK d then 2 else firstS [firstS (x.ev.names.map λs=>whenS (!nameS s) 8),firstS (x.ev.vals.map λn=>rangeS n 0 999999999),whenS (decide (x.ev.text≠[])) 1]:=by
   rw[chkE,if_neg (by simpa using h0),hd,first_when,first_range];simp only;split
   ·rfl
   cases x.ev.names.any (λs=>!nameS s)with
   |true=>rfl
   |false=>
    cases x.ev.vals.any (λn=>decide (rangeS n 0 999999999≠0))with
    |true=>rfl
    |false=>by_cases ht:x.ev.text=[]<;>simp[firstS,whenS,ht]
  rw[esh];by_cases h1:x.ev.names.length=(rolesK d).length/\x.ev.vals.length=valsK d
  case neg=>
   have e1:(!(decide ((x.ev.names.length:Int)=((rolesK d).length:Int))&&(decide ((x.ev.vals.length:Int)=(valsK d:Int))&&true)))=true:=by
    by_cases q1:x.ev.names.length=(rolesK d).length
    ·have q2:¬x.ev.vals.length=valsK d:=λz=>h1 ⟨q1,z⟩
     have q3:¬(x.ev.vals.length:Int)=(valsK d:Int):=by omega
     simp[q3]
    ·have q3:¬(x.ev.names.length:Int)=((rolesK d).length:Int):=by omega
     simp[q3]
   rw[e1,if_pos (by omega)];exact Rs @t0 trivial
  have e1:(!(decide ((x.ev.names.length:Int)=((rolesK d).length:Int))&&(decide ((x.ev.vals.length:Int)=(valsK d:Int))&&true)))=false:=by
   rw[h1.1,h1.2];simp
  rw[e1,if_neg (by omega)];refine Rs (A3 @t0 @erow_2 @erow_3) ?_;refine WF.res T.c66 (r66 T (o.n.ext Xx) hl.1 (λs=>whenS (!nameS s) 8) (λs _ k _=>VCall.of (a:=[]) (c:=[]) T.c67 (r67 T s))) ?_;rintro s6 g6 hf6;refine Rs (A3 @t0 @erow_2 @erow_3) ?_;refine WF.res T.c69 (r69 T (o.v.ext Xx) hl.2 (λn=>rangeS n 0 999999999) (λn _ k _=>VCall.of (a:=[]) (c:=[]) T.c70 (r70 T n))) ?_;rintro s7 g7 hf7;refine Rs (A3 @t0 @erow_2 @erow_3) ?_;refine WF.ce T.c23 (r23 T (hf6.isSl.ext Xx) (by simp;omega)) λg8=>?_
  refine Rs @t0 ?_;refine WF.ce T.c23 (r23 T (hf7.isSl.ext Xx) (by simp;omega)) λg9=>?_
  refine Rs (A2 @t0 @erow_4) ?_;refine WF.ce T.c34 (r34 T _ _) λg10=>?_
  refine Rs @t0 ?_;refine WF.ce T.c23 (r23 T (isSl_ints [_,_,_]) (by simp)) λg11=>?_
  refine Rs @t0 ?_;exact⟨Xx,trivial⟩
end
end Go.Abs
namespace Go.Abs
def stC:List AV:=[.str gvShots,.str gvShots,.str gvShots,.str gvSection,.str gvSection,.str gvImage,.str gvImage,.str gvImage]
def Gl(h:AHeap):Prop:=∃mu tl,h[1]? =some (.cells stC mu tl)
def Gl.ext{h k}(o:Gl h)(e:Ext h k):Gl k:=by obtain⟨mu,tl,h1⟩:=o;exact⟨mu,tl,e.some h1⟩
structure Cx(h:AHeap)(V:RV)(x:EV)(d:Kd):Prop where
 o:RegOk h V
 w:WfR V.reg
 e:EvOk h x
 we:WfE x.ev d
 nk:NmK V.reg x.ev d
def Cx.nm{h V x d}(c:Cx h V x d){i:Nat}(hi:i<(rolesK d).length):iadrF 1 x.sn (.i (i:Int))=some (elp x.sn 1 i,.keep)/\∀{k},Ext h k->loadF none (elp x.sn 1 i) (λb=>k[b]?)=some (.str (nmE x.ev i),.keep):=by
 have hi':i<x.ev.names.length:=by rw[c.we.nl];exact hi
 refine⟨c.e.n.ixm hi',λ{k} e=>?_⟩;have:nmE x.ev i=x.ev.names[i]:=by rw[nmE,List.getD_eq_getElem?_getD,List.getElem?_eq_getElem hi'];rfl
 rw[this];exact c.e.n.l1m hi' rfl e
theorem Cx.vl{h V x d}(c:Cx h V x d){i:Nat}(hi:i<valsK d):iadrF 1 x.sv (.i (i:Int))=some (elp x.sv 1 i,.keep)/\(∀{k},Ext h k->loadF none (elp x.sv 1 i) (λb=>k[b]?)=some (.i (vlE x.ev i),.keep))/\0<=vlE x.ev i/\vlE x.ev i<=999999999:=by
 have hi':i<x.ev.vals.length:=by rw[c.we.vl];exact hi
 have:vlE x.ev i=x.ev.vals[i]:=by rw[vlE,List.getD_eq_getElem?_getD,List.getElem?_eq_getElem hi'];rfl
 refine⟨c.e.v.ixm hi',λ{k} e=>?_,c.we.vr _ (vlE_mem hi')⟩;rw[this];exact c.e.v.l1m hi' rfl e
theorem Cx.ext{h k V x d}(c:Cx h V x d)(e:Ext h k):Cx k V x d:=⟨c.o.ext e,c.w,c.e.ext e,c.we,c.nk⟩
def f_when{c e l}(he:e≠0):firstS (whenS c e::l)=if c=true then e else firstS l:=by
 cases c<;>simp[firstS,whenS,he]
def f_range{a b c l}:firstS (rangeS a b c::l)=if rangeS a b c≠0 then 3 else firstS l:=by
 by_cases h:rangeS a b c=0
 ·simp[firstS,h]
 ·simp[firstS,h,range_3 h]
set_option maxRecDepth 10000
attribute [local irreducible] WP WC WE WB WR WF WL WG WRg
section
variable {P:Program}(T:Tbl P) {h:AHeap}
include T
def r117{V x}(c:Cx h V x .line):RCall P 117 [.agg V.row,.agg x.row] h (λv _=>v=.i (chkK V.reg x.ev .line)):=by
 refine .st2 17 T.mix T.c117 ?_;intro ts hlen t0 t1;unfold fn117;have hbx:=@RegOk.box _ _ c.o;have hex:=@EvOk.box _ _ c.e;have i1:iadrF 1 x.sv (.i 1)=_:=(c.vl (i:=1) (by decide)).1;have d1:=@(c.vl (i:=1) (by decide)).2.1;refine Rs (A7 @t0 @t1 @hbx @hex @erow_3 @i1 @d1) ?_;refine WF.ce T.c47 (r47 T _ _ _) λg1=>?_
 refine Rs (A4 @t0 @t1 @row_1 c.o.i0.lenm) ?_;refine WF.ce T.c34 (r34 T _ _) λg2=>?_
 refine Rs (A2 @t0 @t1) ?_;refine WF.ce T.c23 (r23 T (isSl_ints [_,_]) (by simp)) λg3=>?_
 refine Rs (A2 @t0 @t1) ?_;rw[f_range,f_when (by decide),chkK];congr 2;simp only[decide_eq_true_eq,firstS];congr 1;exact propext ⟨λz=>(by have:V.reg.lines.length=V.lines.length:=rfl;omega),λz=>(by have:V.reg.lines.length=V.lines.length:=rfl;omega)⟩
def r120{V x}(c:Cx h V x .tape):RCall P 120 [.agg V.row,.agg x.row] h (λv _=>v=.i (chkK V.reg x.ev .tape)):=by
 refine .st2 23 T.mix T.c120 ?_;intro ts hlen t0 t1;unfold fn120;have hbx:=@RegOk.box _ _ c.o;have hex:=@EvOk.box _ _ c.e;have i0:iadrF 1 x.sv (.i 0)=_:=(c.vl (i:=0) (by decide)).1;have d0:=@(c.vl (i:=0) (by decide)).2.1;have i1:iadrF 1 x.sv (.i 1)=_:=(c.vl (i:=1) (by decide)).1;have d1:=@(c.vl (i:=1) (by decide)).2.1;have q0:=(c.vl (i:=0) (by decide)).2.2;have q1:=(c.vl (i:=1) (by decide)).2.2;have hw:IntKind.i64.wrap (vlE x.ev 0+vlE x.ev 1)=vlE x.ev 0+vlE x.ev 1:=wrap_in (by omega) (by omega);refine Rs (A10 @t0 @t1 @hbx @hex @erow_3 @i0 @d0 @i1 @d1 @hw) ?_;refine WF.ce T.c34 (r34 T _ _) λg1=>?_
 refine Rs (A4 @t0 @t1 @row_2 c.o.i1.lenm) ?_;refine WF.ce T.c34 (r34 T _ _) λg2=>?_
 refine Rs (A2 @t0 @t1) ?_;refine WF.ce T.c23 (r23 T (isSl_ints [_,_]) (by simp)) λg3=>?_
 refine Rs (A2 @t0 @t1) ?_;rw[f_when (by decide),f_when (by decide),chkK];congr 1;simp only[decide_eq_true_eq,firstS];have e:((16:Int)<=(V.tapes.length:Int))=(16<=V.reg.tapes.length):=propext ⟨λz=>(by have:V.reg.tapes.length=V.tapes.length:=rfl;omega),λz=>(by have:V.reg.tapes.length=V.tapes.length:=rfl;omega)⟩;simp only[e]
def r189{V x n d}(c:Cx h V x d)(hd:0<valsK d)(hn:n∈tpN V.reg):RCall P 189 [.agg V.row,.agg x.row,.str n] h (λv _=>v=.i (whenS (!readS V.reg (vlE x.ev 0) n) 30)):=by
 refine .st3 17 T.mix T.c189 ?_;intro ts hlen t0 t1 t2;unfold fn189;have hbx:=@RegOk.box _ _ c.o;have hex:=@EvOk.box _ _ c.e;have i0:iadrF 1 x.sv (.i 0)=_:=(c.vl (i:=0) hd).1;have d0:=@(c.vl (i:=0) hd).2.1;refine Rs (A6 @t0 @t1 @t2 @hbx @hex @row_a) ?_;refine WF.ce T.c48 (r48 T (c.o.ext Xx) c.w.len hn) λg1=>?_
 refine Rs (A6 @t0 @t1 @t2 @erow_3 @i0 @d0) ?_;refine WF.ce T.c49 (r49 T _ _) λg2=>?_
 refine Rs (A3 @t0 @t1 @t2) ?_;refine WF.ce T.c34 (r34 T _ _) λg3=>?_
 refine Rs (A3 @t0 @t1 @t2) ?_;rfl
def r124{V x}(c:Cx h V x .shot):RCall P 124 [.agg V.row,.agg x.row] h (λv _=>v=.i (chkK V.reg x.ev .shot)):=by
 refine .st2 27 T.mix T.c124 ?_;intro ts hlen t0 t1;unfold fn124;have hbx:=@RegOk.box _ _ c.o;have hex:=@EvOk.box _ _ c.e;have i1:iadrF 1 x.sn (.i 1)=_:=(c.nm (i:=1) (by decide)).1;have d1:=@(c.nm (i:=1) (by decide)).2;have i2:iadrF 1 x.sn (.i 2)=_:=(c.nm (i:=2) (by decide)).1;have d2:=@(c.nm (i:=2) (by decide)).2;have k1:nmE x.ev 1∈lnN V.reg:=c.nk.kn 1 0 rfl;have k2:nmE x.ev 2∈tpN V.reg:=c.nk.kn 2 1 rfl;refine Rs (A8 @t0 @t1 @hbx @hex @row_a @erow_2 @i1 @d1) ?_;refine WF.ce T.c188 (r188 T (c.o.ext Xx) c.w.len k1) λg1=>?_
 unfold lnRow;refine Rs (A2 @t0 @t1) ?_;refine WF.ce T.c34 (r34 T _ _) λg2=>?_
 refine Rs (A7 @t0 @t1 @row_a @erow_a @erow_2 @i2 @d2) ?_;refine WF.ce T.c189 (r189 T (c.ext Xx) (by decide) k2) λg3=>?_
 refine Rs (A4 @t0 @t1 @row_3 c.o.i2.lenm) ?_;refine WF.ce T.c34 (r34 T _ _) λg4=>?_
 refine Rs (A2 @t0 @t1) ?_;refine WF.ce T.c23 (r23 T (isSl_ints [_,_,_]) (by simp)) λg5=>?_
 refine Rs (A2 @t0 @t1) ?_;rw[f_when (by decide),f_when (by decide),f_when (by decide),chkK];simp only[decide_eq_true_eq,firstS];have e:((64:Int)<=(V.shots.length:Int))=(64<=V.reg.shots.length):=by
  have:V.reg.shots.length=V.shots.length:=by simp[RV.reg]
  exact propext ⟨λz=>by omega,λz=>by omega⟩
 simp only[e]
end
end Go.Abs
namespace Go.Abs
def tape_inj{R a b}(ha:a∈tpN R)(hb:b∈tpN R):(decide ((tapeS R a).name=(tapeS R b).name)&&(decide ((tapeS R a).last=(tapeS R b).last)&&true))=decide (a=b):=by
 have e1:(tapeS R a).name=a:=getN_name ha;have e2:(tapeS R b).name=b:=getN_name hb;by_cases h:a=b
 ·subst h;simp
 ·rw[e1,e2];simp[h]
set_option maxRecDepth 10000
attribute [local irreducible] WP WC WE WB WR WF WL WG WRg
section
variable {P:Program}(T:Tbl P) {h:AHeap}
include T
def r126{V x}(c:Cx h V x .copy):RCall P 126 [.agg V.row,.agg x.row] h (λv _=>v=.i (chkK V.reg x.ev .copy)):=by
 refine .st2 35 T.mix T.c126 ?_;intro ts hlen t0 t1;unfold fn126;have hbx:=@RegOk.box _ _ c.o;have hex:=@EvOk.box _ _ c.e;have i0:iadrF 1 x.sn (.i 0)=_:=(c.nm (i:=0) (by decide)).1;have d0:=@(c.nm (i:=0) (by decide)).2;have i1:iadrF 1 x.sn (.i 1)=_:=(c.nm (i:=1) (by decide)).1;have d1:=@(c.nm (i:=1) (by decide)).2;have k0:nmE x.ev 0∈tpN V.reg:=c.nk.kn 0 1 rfl;have k1:nmE x.ev 1∈tpN V.reg:=c.nk.kn 1 1 rfl;refine Rs (A8 @t0 @t1 @hbx @hex @row_a @erow_2 @i0 @d0) ?_;refine WF.ce T.c48 (r48 T (c.o.ext Xx) c.w.len k0) λg1=>?_
 refine Rs (A6 @t0 @t1 @row_a @erow_2 @i1 @d1) ?_;refine WF.ce T.c48 (r48 T (c.o.ext Xx) c.w.len k1) λg2=>?_
 unfold tpRow;refine Rs (A2 @t0 @t1) ?_;refine WF.ce T.c34 (r34 T _ _) λg3=>?_
 rw[tape_inj k0 k1];have n0:(tapeS V.reg (nmE x.ev 0)).name=nmE x.ev 0:=getN_name k0;have n1:(tapeS V.reg (nmE x.ev 1)).name=nmE x.ev 1:=getN_name k1;refine Rs (A6 @t0 @t1 @row_a @erow_a @n0 @n1) ?_;refine WF.ce T.c189 (r189 T (c.ext Xx) (by decide) k0) λg4=>?_
 refine Rs (A6 @t0 @t1 @row_a @erow_a @n0 @n1) ?_;refine WF.ce T.c189 (r189 T (c.ext Xx) (by decide) k1) λg5=>?_
 refine Rs (A2 @t0 @t1) ?_;refine WF.ce T.c23 (r23 T (isSl_ints [_,_,_]) (by simp)) λg6=>?_
 refine Rs (A2 @t0 @t1) ?_;rw[f_when (by decide),f_when (by decide),f_when (by decide),chkK];simp only[decide_eq_true_eq,firstS];exact⟨Xx,trivial⟩
def r130{V x}(o:RegOk h V)(e:EvOk h x):RCall P 130 [.agg V.row,.agg x.row] h (λv _=>v=.i (whenS (decide (32<=V.reg.mods.length)) 5)):=by
 refine .st2 10 T.mix T.c130 ?_;intro ts hlen t0 t1;unfold fn130;have hbx:=@RegOk.box _ _ o;have hex:=@EvOk.box _ _ e;refine Rs (A6 @t0 @t1 @hbx @hex @row_4 o.i3.lenm) ?_;refine WF.ce T.c34 (r34 T _ _) λg1=>?_
 refine Rs (A2 @t0 @t1) ?_;have e:decide ((32:Int)<=(V.mods.length:Int))=decide (32<=V.reg.mods.length):=by
  have:V.reg.mods.length=V.mods.length:=by simp[RV.reg]
  rw[decide_eq_decide];omega
 rw[e]
def r193{V x d}(c:Cx h V x d)(hd:0<valsK d){y}(hm:y∈V.shots){b b'}(hb:h[b]? =some (.b V.row))(hb':h[b']? =some (.b x.row)):
  RCall P 193 [.agg (shRow y),.ptr b 0,.ptr b' 0] h (λv _=>v=.bool (!safeS V.reg y.1 (vlE x.ev 0))):=by
 refine .st3 13 T.mix T.c193 ?_;intro ts hlen t0 t1 t2;unfold fn193;have oy:=(c.o.e2 y hm).one;have lb:∀{k:AHeap}{n:Option Nat}{a:Nat},Ext h k->loadF n (.ptr b a) (λz=>k[z]?)=ldB n a (.b V.row):=λe=>loadF_at (e.some hb)
 have lc:∀{k:AHeap}{n:Option Nat}{a:Nat},Ext h k->loadF n (.ptr b' a) (λz=>k[z]?)=ldB n a (.b x.row):=λe=>loadF_at (e.some hb')
 have i0:iadrF 1 x.sv (.i 0)=_:=(c.vl (i:=0) hd).1;have d0:=@(c.vl (i:=0) hd).2.1;have hsf:=λ(k:AHeap) (e:Ext h k)=>r25 T (c.o.ext e) c.w.len ((c.o.e2 y hm).ext e) (c.w.inR.sh y hm).2 (c.w.inR.sh y hm).1 (vlE x.ev 0)
 unfold shRow at t0 hsf;refine Rs (A10 @t0 @t1 @t2 @oy @lb @lc @row_a @erow_3 @i0 @d0) ?_;refine WF.ce T.c25 (hsf _ Xx) λg1=>?_
 exact Rs (A3 @t0 @t1 @t2) trivial
def r128{V x}(c:Cx h V x .accept):RCall P 128 [.agg V.row,.agg x.row] h (λv _=>v=.i (chkK V.reg x.ev .accept)):=by
 refine .st2 36 T.mix T.c128 ?_;intro ts hlen t0 t1;unfold fn128;have hbx:=@RegOk.box _ _ c.o;have hex:=@EvOk.box _ _ c.e;have i0:iadrF 1 x.sn (.i 0)=_:=(c.nm (i:=0) (by decide)).1;have d0:=@(c.nm (i:=0) (by decide)).2;have k0:nmE x.ev 0∈lnN V.reg:=c.nk.kn 0 0 rfl;refine Rs (A8 @t0 @t1 @hbx @hex @row_a @erow_2 @i0 @d0) ?_;refine WF.ce T.c188 (r188 T (c.o.ext Xx) c.w.len k0) λg1=>?_
 unfold lnRow;refine Rs (A6 @t0 @t1 @row_a @erow_2 @i0 @d0) ?_;refine WF.res T.c191 (r191 T (c.o.ext Xx) c.w.len _) ?_;rintro s2 g2 hs2;refine Rs (A2 @t0 @t1) ?_;have hin:∀y∈V.shots.filter (λy=>decide (y.1.line=nmE x.ev 0)),y∈V.shots:=λy hy=>(List.mem_filter.1 hy).1
 have hfl:(V.shots.filter (λy=>decide (y.1.line=nmE x.ev 0))).length<=V.shots.length:=List.length_filter_le _ _;have hll:=c.w.len.l2;refine WF.res T.c192 (r192 T (hs2.ext Xx) (by omega) (λy=>!safeS V.reg y.1 (vlE x.ev 0)) (λy hy k e=>VCall.of (a:=[]) (c:=[.ptr h.length 0,.ptr (h++[ABlk.b V.row]).length 0]) T.c193 (r193 T (c.ext (Ext.trans Xx e)) (by decide) (hin y hy) (e.some ?_) (e.some ?_)))) ?_
 ·exact at_4
 ·exact at_3
 rintro _ g3 rfl;refine Rs (A2 @t0 @t1) ?_;refine WF.ce T.c34 (r34 T _ _) λg4=>?_
 have hl2:=hs2.lenm;refine Rs (A3 @t0 @t1 @hl2) ?_;refine WF.ce T.c34 (r34 T _ _) λg5=>?_
 refine Rs (A2 @t0 @t1) ?_;refine WF.ce T.c34 (r34 T _ _) λg6=>?_
 refine Rs (A2 @t0 @t1) ?_;refine WF.ce T.c23 (r23 T (isSl_ints [_,_,_]) (by simp)) λg7=>?_
 refine Rs (A2 @t0 @t1) ?_;rw[f_when (by decide),f_when (by decide),f_when (by decide),chkK];have e1:(ofS V.reg (nmE x.ev 0))=(V.shots.filter (λy=>decide (y.1.line=nmE x.ev 0))).map Prod.fst:=by
  show List.filter _ (List.map Prod.fst V.shots)=_;rw[List.filter_map];rfl
 rw[e1,List.length_map,List.any_map];simp only[decide_eq_true_eq,firstS];refine⟨Xx,?_⟩;rfl
def r132{V x}(c:Cx h V x .modl)(gl:Gl h):RCall P 132 [.agg V.row,.agg x.row] h (λv _=>v=.i (chkK V.reg x.ev .modl)):=by
 refine .st2 35 T.mix T.c132 ?_;intro ts hlen t0 t1;unfold fn132;have hbx:=@RegOk.box _ _ c.o;have hex:=@EvOk.box _ _ c.e;have i1:iadrF 1 x.sn (.i 1)=_:=(c.nm (i:=1) (by decide)).1;have d1:=@(c.nm (i:=1) (by decide)).2;have j1:iadrF 1 x.sv (.i 1)=_:=(c.vl (i:=1) (by decide)).1;have f1:=@(c.vl (i:=1) (by decide)).2.1;have k1:nmE x.ev 1∈mdN V.reg:=c.nk.kn 1 3 rfl;obtain⟨gmu,gtl,hg0⟩:=gl;rw[chkK];by_cases hn:1<=vlE x.ev 1/\vlE x.ev 1<=4
 case neg=>
  have hr:rangeS (vlE x.ev 1) 1 4≠0:=by unfold rangeS;rw[if_pos (by omega)];decide
  rw[if_pos hr];by_cases ha:vlE x.ev 1<1
  ·have q1:decide (vlE x.ev 1<1)=true:=decide_eq_true ha;exact Rs (A8 @t0 @t1 @hbx @hex @erow_3 @j1 @f1 @q1) trivial
  ·have q1:decide (vlE x.ev 1<1)=false:=decide_eq_false ha;have q2:decide (4<vlE x.ev 1)=true:=decide_eq_true (by omega);exact Rs (A9 @t0 @t1 @hbx @hex @erow_3 @j1 @f1 @q1 @q2) trivial
 have hr:¬rangeS (vlE x.ev 1) 1 4≠0:=by unfold rangeS;rw[if_neg (by omega)];decide
 rw[if_neg hr];have q1:decide (vlE x.ev 1<1)=false:=decide_eq_false (by omega);have q2:decide (4<vlE x.ev 1)=false:=decide_eq_false (by omega);have hw:IntKind.i64.wrap (vlE x.ev 1-1)=vlE x.ev 1-1:=wrap_in (by omega) (by omega);have a1:iadaF 4 2 (.ptr 1 0) (.i (vlE x.ev 1-1))=some (.ptr 1 ((vlE x.ev 1-1).toNat*2)):=by simp only[iadaF];rw[if_pos (by omega),Nat.zero_add]
 have a2:iadaF 2 1 (.ptr 1 ((vlE x.ev 1-1).toNat*2)) (.i 0)=some (.ptr 1 ((vlE x.ev 1-1).toNat*2)):=by simp[iadaF]
 have lg:∀{k:AHeap},Ext h k->loadF none (.ptr 1 ((vlE x.ev 1-1).toNat*2)) (λb=>k[b]?)=some (.str (takesS (vlE x.ev 1)),.keep):=by
  intro k e;rw[loadF_at (e.some hg0)];have:vlE x.ev 1=1\/vlE x.ev 1=2\/vlE x.ev 1=3\/vlE x.ev 1=4:=by omega
  rcases this with z|z|z|z<;>rw[z]<;>rfl
 refine Rs (A13 @t0 @t1 @hbx @hex @erow_2 @erow_3 @j1 @f1 @q1 @q2 @row_a @i1 @d1) ?_;refine WF.res T.c194 (r194 T (c.o.ext Xx) c.w.len k1) ?_;rintro _ g1 ⟨y,hy,hy1,rfl⟩;unfold mdRow;refine Rs (A6 @t0 @t1 @hw @a1 @a2 @lg) ?_;refine WF.ce T.c34 (r34 T _ _) λg2=>?_
 refine Rs (A4 @t0 @t1 @row_a @erow_a) ?_;refine WF.ce T.c130 (r130 T (c.o.ext Xx) (c.e.ext Xx)) λg3=>?_
 refine Rs (A2 @t0 @t1) ?_;refine WF.ce T.c23 (r23 T (isSl_ints [_,_]) (by simp)) λg4=>?_
 refine Rs (A2 @t0 @t1) ?_;rw[f_when (by decide),f_when (by decide),hy1];simp only[decide_eq_true_eq,firstS]
def r134{V x}(c:Cx h V x .merge):RCall P 134 [.agg V.row,.agg x.row] h (λv _=>v=.i (chkK V.reg x.ev .merge)):=by
 refine .st2 36 T.mix T.c134 ?_;intro ts hlen t0 t1;unfold fn134;have hbx:=@RegOk.box _ _ c.o;have hex:=@EvOk.box _ _ c.e;have i1:iadrF 1 x.sn (.i 1)=_:=(c.nm (i:=1) (by decide)).1;have d1:=@(c.nm (i:=1) (by decide)).2;have i2:iadrF 1 x.sn (.i 2)=_:=(c.nm (i:=2) (by decide)).1;have d2:=@(c.nm (i:=2) (by decide)).2;have k1:nmE x.ev 1∈mdN V.reg:=c.nk.kn 1 3 rfl;have k2:nmE x.ev 2∈mdN V.reg:=c.nk.kn 2 3 rfl;refine Rs (A9 @t0 @t1 @hbx @hex @erow_2 @i1 @d1 @i2 @d2) ?_;refine WF.ce T.c34 (r34 T _ _) λg1=>?_
 refine Rs (A6 @t0 @t1 @row_a @erow_2 @i1 @d1) ?_;refine WF.res T.c194 (r194 T (c.o.ext Xx) c.w.len k1) ?_;rintro _ g2 ⟨y,hy,hy1,rfl⟩;unfold mdRow;refine Rs (A6 @t0 @t1 @row_a @erow_2 @i2 @d2) ?_;refine WF.res T.c194 (r194 T (c.o.ext Xx) c.w.len k2) ?_;rintro _ g3 ⟨z,hz,hz1,rfl⟩;unfold mdRow;refine Rs (A2 @t0 @t1) ?_;refine WF.ce T.c34 (r34 T _ _) λg4=>?_
 refine Rs (A4 @t0 @t1 @row_a @erow_a) ?_;refine WF.ce T.c130 (r130 T (c.o.ext Xx) (c.e.ext Xx)) λg5=>?_
 refine Rs (A2 @t0 @t1) ?_;refine WF.ce T.c23 (r23 T (isSl_ints [_,_,_]) (by simp)) λg6=>?_
 refine Rs (A2 @t0 @t1) ?_;rw[f_when (by decide),f_when (by decide),f_when (by decide),chkK,hy1,hz1];simp only[decide_eq_true_eq,firstS]
def r197(y:LnR):RCall P 197 [.agg (lnRow y)] h (λv _=>v=.bool (!y.acc)):=by
 refine .of T.mix T.c197 ?_;unfold fn197 lnRow;exact Wn trivial
def r136{V x}(c:Cx h V x .run):RCall P 136 [.agg V.row,.agg x.row] h (λv _=>v=.i (chkK V.reg x.ev .run)):=by
 refine .st2 27 T.mix T.c136 ?_;intro ts hlen t0 t1;unfold fn136;have hbx:=@RegOk.box _ _ c.o;have hex:=@EvOk.box _ _ c.e;have i1:iadrF 1 x.sn (.i 1)=_:=(c.nm (i:=1) (by decide)).1;have d1:=@(c.nm (i:=1) (by decide)).2;have j1:iadrF 1 x.sv (.i 1)=_:=(c.vl (i:=1) (by decide)).1;have f1:=@(c.vl (i:=1) (by decide)).2.1;have hin:∀y∈V.mods,y.1.inputs.length<2^30:=λy hy=>by have:=(c.w.md y.1 (List.mem_map_of_mem hy)).2.1;omega
 refine Rs (A8 @t0 @t1 @hbx @hex @row_a @erow_2 @i1 @d1) ?_;refine WF.res T.c196 (r196 T (c.o.ext Xx) c.w.len hin _) ?_;rintro s1 g1 hs1;have hsl:(srcS V.reg (nmE x.ev 1)).length<=V.lines.length:=List.length_filter_le _ _;have hll:=c.w.len.l0;refine Rs (A2 @t0 @t1) ?_;refine WF.ce T.c195 (r195 T hs1 (by omega) (λy=>!y.acc) (λy hy k e=>VCall.of (a:=[]) (c:=[]) T.c197 (r197 T y))) λg2=>?_
 refine Rs (A2 @t0 @t1) ?_;refine WF.ce T.c34 (r34 T _ _) λg3=>?_
 refine Rs (A5 @t0 @t1 @erow_3 @j1 @f1) ?_;refine WF.ce T.c47 (r47 T _ _ _) λg4=>?_
 refine Rs (A4 @t0 @t1 @row_5 c.o.i4.lenm) ?_;refine WF.ce T.c34 (r34 T _ _) λg5=>?_
 refine Rs (A2 @t0 @t1) ?_;refine WF.ce T.c23 (r23 T (isSl_ints [_,_,_]) (by simp)) λg6=>?_
 refine Rs (A2 @t0 @t1) ?_;rw[f_when (by decide),f_range,f_when (by decide),chkK];simp only[decide_eq_true_eq,firstS];have e:((16:Int)<=(V.jobs.length:Int))=(16<=V.reg.jobs.length):=by
  have:V.reg.jobs.length=V.jobs.length:=by simp[RV.reg]
  exact propext ⟨λz=>by omega,λz=>by omega⟩
 simp only[e]
end
end Go.Abs
namespace Go.Abs
theorem leftS_app:∀{l m}{i},leftS (l++m) i=leftS l i++leftS m (i+l.length)
 |[],m,i=>by simp[leftS]
 |x::l,m,i=>by
  have e:i+1+l.length=i+(x::l).length:=by simp;omega
  rw[List.cons_append,leftS,leftS,leftS_app,e];split<;>simp
theorem leftS_len:∀{l}{i},(leftS l i).length<=l.length
 |[],i=>by simp[leftS]
 |x::l,i=>by
  have:=leftS_len (l:=l) (i:=i+1);rw[leftS];split<;>simp<;>omega
set_option maxRecDepth 10000
attribute [local irreducible] WP WC WE WB WR WF WL WG WRg
section
variable {P:Program}(T:Tbl P) {h:AHeap}
include T
def r202{x}(hx:IsSl h x.2 1 (x.1.sums.map intRow))(hl:x.1.sums.length<2^30)(hs:∀s∈x.1.sums,-1<=s):RCall P 202 [.agg (jbRow x)] h (λv h'=>IsSl h' v 1 ((leftS x.1.sums 0).map intRow)):=by
 refine .st1 23 T.mix T.c202 ?_;intro ts hlen t0;unfold fn202;have ox:=hx.one;unfold jbRow at t0;refine Rs (A3 @t0 @ox hx.lenm) ?_;obtain⟨H0,hH0⟩:∃H0,H0=h++[ABlk.b [AV.str x.1.name,.str x.1.mod,x.2]]:=⟨_,rfl⟩;have e0:Ext h H0:=by rw[hH0];exact Xx
 have lb:∀{k n a},Ext H0 k->loadF n (.ptr h.length a) (λz=>k[z]?)=ldB n a (.b [AV.str x.1.name,.str x.1.mod,x.2]):=λ{_ _ _} e=>loadF_at (e.some (by rw[hH0];exact at_new))
 rw[<-hH0];refine WL.inv T.mix (λn ts h'=>∃(k:Nat) (out:AV),k<=x.1.sums.length/\n=x.1.sums.length-k/\Ext H0 h'/\Fr H0.length h' out 1 ((leftS (x.1.sums.take k) 0).map intRow)/\
   ts.length=23/\slot ts 1=.ptr h.length 0/\slot ts 3=out/\slot ts 7=.i x.1.sums.length/\slot ts 8=.i k) x.1.sums.length
  ⟨0,.nilSlice,by omega,rfl,Ext.refl _,.nil,Sn,(Sq @t0),(Sq @t0),(Sq @t0),Swr⟩ ?_
 rintro _ ts _ ⟨k,out,hk',rfl,⟨g,rfl⟩,hfr,hlen,t1,t3,t7,t8⟩;by_cases hlt:k<x.1.sums.length
 ·have e3:=dltT hlt;have ix:=hx.ixm (kk:=.i64) hlt;have ld:∀{k':AHeap},Ext H0 k'->loadF none (elp x.2 1 k) (λb=>k'[b]?)=some (.i x.1.sums[k],.keep):=λ{k'} e=>hx.l1m hlt rfl (e0.trans e)
  have e5:=wrapN (n:=k) (by omega);have htk:leftS (x.1.sums.take (k+1)) 0=leftS (x.1.sums.take k) 0++(if x.1.sums[k]<0 then [(k:Int)]else []):=by
   rw[List.take_add_one,List.getElem?_eq_getElem hlt,leftS_app];simp only[Option.toList_some,leftS,Nat.zero_add,List.length_take];rw[Nat.min_eq_left (by omega)]
  have hsk:=hs _ (List.getElem_mem hlt);by_cases hn:x.1.sums[k]= -1
  ·have q:decide (x.1.sums[k]= -1)=true:=decide_eq_true hn;rw[if_pos (by omega)]at htk;refine Rs (A9 @t1 @t3 @t7 @t8 @e3 @lb @ix @ld @q) ?_;have hll:=leftS_len (l:=x.1.sums.take k) (i:=0);refine WR.app1 (h0:=H0) (cs:=(leftS (x.1.sums.take k) 0).map intRow) (ys:=[intRow (k:Int)]) (hfr.app _) (Fr.push (N:=0) (Nat.zero_le _) [intRow (k:Int)] (by simp)).isSl (by decide) (by simp) (by simp only[List.length_map,List.length_take,List.length_cons,List.length_nil]at hll ⊢;omega) Xx ?_;intro g' hl' hff hkp;have hrow:(leftS (x.1.sums.take k) 0).map intRow++[intRow (k:Int)]=(leftS (x.1.sums.take (k+1)) 0).map intRow:=by rw[htk,List.map_append];rfl
   rw[hrow]at hff;rw[hrow];refine Rs (A5 @t1 @t3 @t7 @t8 @e5) ?_;exact⟨_,by omega,k+1,_,by omega,rfl,hff,rfl,rfl⟩
  ·have q:decide (x.1.sums[k]= -1)=false:=decide_eq_false hn;rw[if_neg (by omega),List.append_nil]at htk;rw[<-htk]at hfr;refine Rs (A10 @t1 @t3 @t7 @t8 @e3 @lb @ix @ld @q @e5) ?_;exact⟨_,by omega,k+1,_,by omega,rfl,hfr,rfl,rfl⟩
 ·have e3:=dltF hlt;have e4:k=x.1.sums.length:=by omega
  rw[e4,List.take_length]at hfr;have:=hfr.isSl;refine Rs (A5 @t1 @t3 @t7 @t8 @e3) ?_;exact⟨e0.trans Xx,this⟩
def r199{V x d}(c:Cx h V x d)(hd:1<valsK d)(h0:0<(rolesK d).length)(k0:nmE x.ev 0∈jbN V.reg):RCall P 199 [.agg V.row,.agg x.row] h (λv _=>v=.i (chkT V.reg x.ev)):=by
 refine .st2 28 T.mix T.c199 ?_;intro ts hlen t0 t1;unfold fn199;have hbx:=@RegOk.box _ _ c.o;have hex:=@EvOk.box _ _ c.e;have i0:iadrF 1 x.sn (.i 0)=_:=(c.nm (i:=0) h0).1;have d0:=@(c.nm (i:=0) h0).2;have j1:iadrF 1 x.sv (.i 1)=_:=(c.vl (i:=1) hd).1;have f1:=@(c.vl (i:=1) hd).2.1;have q1:=(c.vl (i:=1) hd).2.2;refine Rs (A8 @t0 @t1 @hbx @hex @row_a @erow_2 @i0 @d0) ?_;refine WF.ce T.c203 (r203 T (c.o.ext Xx) c.w.len _) λg1=>?_
 refine Rs (A2 @t0 @t1) ?_;refine WF.ce T.c34 (r34 T _ _) λg2=>?_
 refine Rs (A9 @t0 @t1 @erow_3 @j1 @f1 @row_a @erow_2 @i0 @d0) ?_;refine WF.res T.c200 (r200 T (c.o.ext Xx) c.w.len k0) ?_;rintro _ g3 ⟨y,hy,hy1,rfl⟩;have hyl:=(c.o.e4 y hy).lenm;have hyb:=(c.w.jb y.1 (List.mem_map_of_mem hy)).2;have hw:IntKind.i64.wrap ((y.1.sums.length:Int)-1)=(y.1.sums.length:Int)-1:=wrap_in (by omega) (by omega);unfold jbRow;refine Rs (A4 @t0 @t1 @hyl @hw) ?_;refine WF.ce T.c47 (r47 T _ _ _) λg4=>?_
 refine Rs (A2 @t0 @t1) ?_;refine WF.ce T.c23 (r23 T (isSl_ints [_,_]) (by simp)) λg5=>?_
 refine Rs (A2 @t0 @t1) ?_;rw[f_when (by decide),f_range,chkT,<-hy1];have e:(rangeS (vlE x.ev 1) 0 ((y.1.sums.length:Int)-1)≠0)=((y.1.sums.length:Int)<=vlE x.ev 1):=by
  unfold rangeS;refine propext ⟨λz=>?_,λz=>?_⟩
  ·split at z
   ·omega
   ·exact absurd rfl z
  ·rw[if_pos (by omega)];decide
 simp only[e,firstS]
def r138{V x}(c:Cx h V x .tile):RCall P 138 [.agg V.row,.agg x.row] h (λv _=>v=.i (chkK V.reg x.ev .tile)):=by
 refine .st2 27 T.mix T.c138 ?_;intro ts hlen t0 t1;unfold fn138;have hbx:=@RegOk.box _ _ c.o;have hex:=@EvOk.box _ _ c.e;have i0:iadrF 1 x.sn (.i 0)=_:=(c.nm (i:=0) (by decide)).1;have d0:=@(c.nm (i:=0) (by decide)).2;have j1:iadrF 1 x.sv (.i 1)=_:=(c.vl (i:=1) (by decide)).1;have f1:=@(c.vl (i:=1) (by decide)).2.1;have q1:=(c.vl (i:=1) (by decide)).2.2;have k0:nmE x.ev 0∈jbN V.reg:=c.nk.kn 0 4 rfl;refine Rs (A6 @t0 @t1 @hbx @hex @row_a @erow_a) ?_;refine WF.ce T.c199 (r199 T (c.ext Xx) (by decide) (by decide) k0) λg1=>?_
 by_cases hb:chkT V.reg x.ev=0
 case neg=>
  have e1:decide (chkT V.reg x.ev≠0)=true:=decide_eq_true hb;refine Rs (A3 @t0 @t1 @e1) ?_;rw[chkK,if_pos hb]
 have e1:decide (chkT V.reg x.ev≠0)=false:=decide_eq_false (λz=>z hb);refine Rs (A7 @t0 @t1 @e1 @row_a @erow_2 @i0 @d0) ?_;refine WF.res T.c200 (r200 T (c.o.ext Xx) c.w.len k0) ?_;rintro _ g2 ⟨y,hy,hy1,rfl⟩;have hyb:=(c.w.jb y.1 (List.mem_map_of_mem hy)).2;have hlt:(vlE x.ev 1).toNat<y.1.sums.length:=by
  rw[hy1];unfold chkT at hb;split at hb
  ·cases hb
  split at hb
  ·cases hb
  omega
 have ev1:vlE x.ev 1=((vlE x.ev 1).toNat:Int):=by omega
 have iy:iadrF 1 y.2 (.i (vlE x.ev 1))=some (elp y.2 1 (vlE x.ev 1).toNat,.keep):=by
  rw[ev1];exact(c.o.e4 y hy).ixm hlt
 have hsm:sumAt V.reg x.ev=y.1.sums[(vlE x.ev 1).toNat]:=by
  rw[sumAt,<-hy1,List.getD_eq_getElem?_getD,List.getElem?_eq_getElem hlt];rfl
 have ly:∀{k:AHeap},Ext h k->loadF none (elp y.2 1 (vlE x.ev 1).toNat) (λb=>k[b]?)=some (.i (sumAt V.reg x.ev),.keep):=λ{k} e=>by
  rw[hsm];exact(c.o.e4 y hy).l1m hlt rfl e
 have hsb:=hyb.2.2 _ (List.getElem_mem hlt);rw[<-hsm]at hsb;unfold jbRow;refine Rs (A7 @t0 @t1 @erow_3 @j1 @f1 @iy @ly) ?_;refine WF.ce T.c34 (r34 T _ _) λg3=>?_
 refine Rs (A2 @t0 @t1) ?_;rw[chkK,if_neg (λz=>z hb),whenS];have e2:(decide (sumAt V.reg x.ev≠-1)=true)=(0<=sumAt V.reg x.ev):=by
  rw[decide_eq_true_eq];exact propext ⟨λz=>by omega,λz=>by omega⟩
 simp only[e2]
def r140{V x}(c:Cx h V x .fail):RCall P 140 [.agg V.row,.agg x.row] h (λv _=>v=.i (chkK V.reg x.ev .fail)):=by
 refine .st2 27 T.mix T.c140 ?_;intro ts hlen t0 t1;unfold fn140;have hbx:=@RegOk.box _ _ c.o;have hex:=@EvOk.box _ _ c.e;have i0:iadrF 1 x.sn (.i 0)=_:=(c.nm (i:=0) (by decide)).1;have d0:=@(c.nm (i:=0) (by decide)).2;have j1:iadrF 1 x.sv (.i 1)=_:=(c.vl (i:=1) (by decide)).1;have f1:=@(c.vl (i:=1) (by decide)).2.1;have q1:=(c.vl (i:=1) (by decide)).2.2;have k0:nmE x.ev 0∈jbN V.reg:=c.nk.kn 0 4 rfl;refine Rs (A6 @t0 @t1 @hbx @hex @row_a @erow_a) ?_;refine WF.ce T.c199 (r199 T (c.ext Xx) (by decide) (by decide) k0) λg1=>?_
 by_cases hb:chkT V.reg x.ev=0
 case neg=>
  have e1:decide (chkT V.reg x.ev≠0)=true:=decide_eq_true hb;refine Rs (A3 @t0 @t1 @e1) ?_;rw[chkK,if_pos hb]
 have e1:decide (chkT V.reg x.ev≠0)=false:=decide_eq_false (λz=>z hb);refine Rs (A7 @t0 @t1 @e1 @row_a @erow_2 @i0 @d0) ?_;refine WF.res T.c200 (r200 T (c.o.ext Xx) c.w.len k0) ?_;rintro _ g2 ⟨y,hy,hy1,rfl⟩;have hyb:=(c.w.jb y.1 (List.mem_map_of_mem hy)).2;have hlt:(vlE x.ev 1).toNat<y.1.sums.length:=by
  rw[hy1];unfold chkT at hb;split at hb
  ·cases hb
  split at hb
  ·cases hb
  omega
 have ev1:vlE x.ev 1=((vlE x.ev 1).toNat:Int):=by omega
 have iy:iadrF 1 y.2 (.i (vlE x.ev 1))=some (elp y.2 1 (vlE x.ev 1).toNat,.keep):=by
  rw[ev1];exact(c.o.e4 y hy).ixm hlt
 have hsm:sumAt V.reg x.ev=y.1.sums[(vlE x.ev 1).toNat]:=by
  rw[sumAt,<-hy1,List.getD_eq_getElem?_getD,List.getElem?_eq_getElem hlt];rfl
 have ly:∀{k:AHeap},Ext h k->loadF none (elp y.2 1 (vlE x.ev 1).toNat) (λb=>k[b]?)=some (.i (sumAt V.reg x.ev),.keep):=λ{k} e=>by
  rw[hsm];exact(c.o.e4 y hy).l1m hlt rfl e
 have hsb:=hyb.2.2 _ (List.getElem_mem hlt);rw[<-hsm]at hsb;unfold jbRow;refine Rs (A7 @t0 @t1 @erow_3 @j1 @f1 @iy @ly) ?_;refine WF.ce T.c34 (r34 T _ _) λg3=>?_
 refine Rs (A2 @t0 @t1) ?_;rw[chkK,if_neg (λz=>z hb),whenS];have e2:(decide (sumAt V.reg x.ev= -1)=true)=(sumAt V.reg x.ev<0):=by
  rw[decide_eq_true_eq];exact propext ⟨λz=>by omega,λz=>by omega⟩
 simp only[e2]
def r142{V x}(c:Cx h V x .pict):RCall P 142 [.agg V.row,.agg x.row] h (λv _=>v=.i (chkK V.reg x.ev .pict)):=by
 refine .st2 31 T.mix T.c142 ?_;intro ts hlen t0 t1;unfold fn142;have hbx:=@RegOk.box _ _ c.o;have hex:=@EvOk.box _ _ c.e;have i1:iadrF 1 x.sn (.i 1)=_:=(c.nm (i:=1) (by decide)).1;have d1:=@(c.nm (i:=1) (by decide)).2;have k1:nmE x.ev 1∈jbN V.reg:=c.nk.kn 1 4 rfl;refine Rs (A8 @t0 @t1 @hbx @hex @row_a @erow_2 @i1 @d1) ?_;refine WF.res T.c200 (r200 T (c.o.ext Xx) c.w.len k1) ?_;rintro _ g1 ⟨y,hy,hy1,rfl⟩;have hyb:=(c.w.jb y.1 (List.mem_map_of_mem hy)).2;refine Rs (A2 @t0 @t1) ?_;refine WF.res T.c202 (r202 T (x:=y) ((c.o.e4 y hy).ext Xx) (by omega) (λs hs=>(hyb.2.2 s hs).1)) ?_;rintro s2 g2 hs2
 have hl2:=hs2.lenm;refine Rs (A6 @t0 @t1 @row_a @erow_2 @i1 @d1) ?_;refine WF.ce T.c203 (r203 T (c.o.ext Xx) c.w.len _) λg3=>?_
 refine Rs (A2 @t0 @t1) ?_;refine WF.ce T.c34 (r34 T _ _) λg4=>?_
 refine Rs (A3 @t0 @t1 @hl2) ?_;refine WF.ce T.c34 (r34 T _ _) λg5=>?_
 refine Rs (A4 @t0 @t1 @row_6 c.o.i5.lenm) ?_;refine WF.ce T.c34 (r34 T _ _) λg6=>?_
 refine Rs (A2 @t0 @t1) ?_;refine WF.ce T.c23 (r23 T (isSl_ints [_,_,_]) (by simp)) λg7=>?_
 refine Rs (A2 @t0 @t1) ?_;rw[f_when (by decide),f_when (by decide),f_when (by decide),chkK,<-hy1];have e1:(decide ((0:Int)<((leftS y.1.sums 0).length:Int))=true)=(leftS y.1.sums 0≠[]):=by
  rw[decide_eq_true_eq];refine propext ⟨λz e=>by rw[e]at z;simp at z,λz=>by have:=List.length_pos_iff.2 z;omega⟩
 have e2:(decide ((16:Int)<=(V.picts.length:Int))=true)=(16<=V.reg.picts.length):=by
  rw[decide_eq_true_eq];have:V.reg.picts.length=V.picts.length:=rfl;exact propext ⟨λz=>by omega,λz=>by omega⟩
 simp only[e1,e2,firstS];exact⟨Xx,trivial⟩
def r144{V x}(c:Cx h V x .rel):RCall P 144 [.agg V.row,.agg x.row] h (λv _=>v=.i (chkK V.reg x.ev .rel)):=by
 refine .st2 13 T.mix T.c144 ?_;intro ts hlen t0 t1;unfold fn144;have hbx:=@RegOk.box _ _ c.o;have hex:=@EvOk.box _ _ c.e;have i0:iadrF 1 x.sn (.i 0)=_:=(c.nm (i:=0) (by decide)).1;have d0:=@(c.nm (i:=0) (by decide)).2;have k0:nmE x.ev 0∈pcN V.reg:=c.nk.kn 0 5 rfl;refine Rs (A8 @t0 @t1 @hbx @hex @row_a @erow_2 @i0 @d0) ?_;refine WF.ce T.c205 (r205 T (c.o.ext Xx) c.w.len k0) λg1=>?_
 unfold pcRow;refine Rs (A2 @t0 @t1) ?_;refine WF.ce T.c34 (r34 T _ _) λg2=>?_
 refine Rs (A2 @t0 @t1) ?_;rw[chkK,whenS]
def c_kd{V x d}(hd:d≠.undo)(c:Cx h V x d)(gl:Gl h):VCall P (kdChk d) [.agg V.row,.agg x.row] h (λv _=>v=.i (chkK V.reg x.ev d)):=by
 cases d with
 |undo=>exact absurd rfl hd
 |line=>exact VCall.of (a:=[]) (c:=[]) T.c117 (r117 T c)
 |tape=>exact VCall.of (a:=[]) (c:=[]) T.c120 (r120 T c)
 |shot=>exact VCall.of (a:=[]) (c:=[]) T.c124 (r124 T c)
 |copy=>exact VCall.of (a:=[]) (c:=[]) T.c126 (r126 T c)
 |accept=>exact VCall.of (a:=[]) (c:=[]) T.c128 (r128 T c)
 |source=>
  refine VCall.of (a:=[]) (c:=[]) T.c130 ((r130 T c.o c.e).mono λv g hv=>?_);rw[hv,chkK,whenS];simp only[decide_eq_true_eq]
 |modl=>exact VCall.of (a:=[]) (c:=[]) T.c132 (r132 T c gl)
 |merge=>exact VCall.of (a:=[]) (c:=[]) T.c134 (r134 T c)
 |run=>exact VCall.of (a:=[]) (c:=[]) T.c136 (r136 T c)
 |tile=>exact VCall.of (a:=[]) (c:=[]) T.c138 (r138 T c)
 |fail=>exact VCall.of (a:=[]) (c:=[]) T.c140 (r140 T c)
 |pict=>exact VCall.of (a:=[]) (c:=[]) T.c142 (r142 T c)
 |rel=>exact VCall.of (a:=[]) (c:=[]) T.c144 (r144 T c)
end
end Go.Abs
namespace Go.Abs
def mem_mid{l1 l2:List (Option Nat)}{a y:Option Nat}(h:y∈l1\/y∈l2):y∈l1++a::l2:=by rcases h with h|h<;>simp[h]
def mem_mid3{l1 l2:List (Option Nat)}{a y:Option Nat}(h:y∈l1++a::l2):y∈l1\/y=a\/y∈l2:=by simpa using h
def Dis.repl{l1 l2 a x}(h:Dis (l1++a::l2))(hx:∀i,x=some i->a=some i\/((∀y∈l1,y≠some i)/\∀y∈l2,y≠some i)):Dis (l1++x::l2):=by
 obtain⟨h1,h2,h3⟩:=List.pairwise_append.1 h;obtain⟨h4,h5⟩:=List.pairwise_cons.1 h2;refine List.pairwise_append.2 ⟨h1,List.pairwise_cons.2 ⟨λy hy b hb=>?_,h5⟩,λy hy z hz b hb=>?_⟩
 ·rcases hx b hb with ha|⟨_,ha⟩
  ·exact h4 y hy b ha
  ·exact ha y hy
 ·rcases List.mem_cons.1 hz with rfl|hz
  ·intro e;rcases hx b e with ha|⟨ha,_⟩
   ·exact h3 y hy a (by simp) b hb ha
   ·exact ha y hy hb
  ·exact h3 y hy z (List.mem_cons_of_mem _ hz) b hb
def Dis.ins{l1 l2 x}(h:Dis (l1++l2))(hx:∀i,x=some i->(∀y∈l1,y≠some i)/\∀y∈l2,y≠some i):Dis (l1++x::l2):=by
 obtain⟨h1,h2,h3⟩:=List.pairwise_append.1 h;refine List.pairwise_append.2 ⟨h1,List.pairwise_cons.2 ⟨λy hy b hb=>(hx b hb).2 y hy,h2⟩,λy hy z hz b hb=>?_⟩;rcases List.mem_cons.1 hz with rfl|hz
 ·exactλe=>(hx b e).1 y hy hb
 ·exact h3 y hy z hz b hb
structure RegBk(N:Nat)(h:AHeap)(b:Nat)(V:RV):Prop where
 o:RegOwn N h V
 hN:N<=b
 m:h[b]? =some (.b V.row)
 ne:some b∉V.bl
def RegBk.lt{N h b V}(r:RegBk N h b V):b<h.length:=(List.getElem?_eq_some_iff.1 r.m).1
theorem RegBk.app{N h b V}(r:RegBk N h b V)(g:AHeap):RegBk N (h++g) b V:=⟨r.o.app g,r.hN,(Ext.app g (Ext.refl h)).some r.m,r.ne⟩
section
variable {N b:Nat}{h k:AHeap}{V:RV}
def RegBk.up0(r:RegBk N h b V){s:AV}{L:List LnR}(hs:Fr N k s 3 (L.map lnRow))(hn:∀i,sB s=some i->sB V.s0=some i\/h.length<=i)(hm:k[b]? =some (.cells {V with lines:=L,s0:=s}.row true false))
  (hk:∀i,i<h.length->sB V.s0≠some i->i≠b->k[i]? =h[i]?):RegBk N k b {V with lines:=L,s0:=s}:=by
 have hd:V.bl=[]++sB V.s0:: ([sB V.s1,sB V.s2,sB V.s3,sB V.s4,sB V.s5]++(V.shots.map λx=>sB x.2)++(V.mods.map λx=>sB x.2)++(V.jobs.map λx=>sB x.2)):=rfl;have hin:∀i,some i∈V.bl->N<=i/\i<h.length:=λi hi=>r.o.blk hi
 have hdi:=r.o.di;rw[hd]at hdi;have keep:∀i,(some i∈[]\/some i∈([sB V.s1,sB V.s2,sB V.s3,sB V.s4,sB V.s5]++(V.shots.map λx=>sB x.2)++(V.mods.map λx=>sB x.2)++(V.jobs.map λx=>sB x.2)))->k[i]? =h[i]? :=λi hi=>by
  have hmem:some i∈V.bl:=by rw[hd];exact mem_mid hi
  refine hk i (hin i hmem).2 (λe=>?_) (λe=>r.ne (e▸hmem));obtain⟨h1,h2,h3⟩:=List.pairwise_append.1 hdi;rcases hi with hi|hi
  ·exact h3 _ hi _ (by simp) i rfl e
  ·exact(List.pairwise_cons.1 h2).1 _ hi i e rfl
 have own:RegOwn N k {V with lines:=L,s0:=s}:=by
  refine⟨hs,(r.o.i1.sBkeep λi hi=>keep i (.inr (by rw[<-hi];simp))),(r.o.i2.sBkeep λi hi=>keep i (.inr (by rw[<-hi];simp))),(r.o.i3.sBkeep λi hi=>keep i (.inr (by rw[<-hi];simp))),(r.o.i4.sBkeep λi hi=>keep i (.inr (by rw[<-hi];simp))),(r.o.i5.sBkeep λi hi=>keep i (.inr (by rw[<-hi];simp))),(λx hx=>(r.o.e2 x hx).sBkeep λi hi=>keep i (.inr (by rw[<-hi];simp only[List.mem_append,List.mem_map];exact .inl (.inl (.inr ⟨x,hx,rfl⟩))))),(λx hx=>(r.o.e3 x hx).sBkeep λi hi=>keep i (.inr (by rw[<-hi];simp only[List.mem_append,List.mem_map];exact .inl (.inr ⟨x,hx,rfl⟩)))),(λx hx=>(r.o.e4 x hx).sBkeep λi hi=>keep i (.inr (by rw[<-hi];simp only[List.mem_append,List.mem_map];exact .inr ⟨x,hx,rfl⟩))),?_⟩
  have hx:∀i,sB s=some i->sB V.s0=some i\/((∀y∈[],y≠some i)/\∀y∈([sB V.s1,sB V.s2,sB V.s3,sB V.s4,sB V.s5]++(V.shots.map λx=>sB x.2)++(V.mods.map λx=>sB x.2)++(V.jobs.map λx=>sB x.2)),y≠some i):=λi hi=>by
   rcases hn i hi with hn|hn
   ·exact .inl hn
   ·refine .inr ⟨λy hy e=>?_,λy hy e=>?_⟩
    ·subst e;have:=(hin i (by rw[hd];exact mem_mid (.inl hy))).2;omega
    ·subst e;have:=(hin i (by rw[hd];exact mem_mid (.inr hy))).2;omega
  exact hdi.repl hx
 refine⟨own,r.hN,hm,λhb=>?_⟩;have hbl:=r.lt;have hbn:=r.ne;rw[hd]at hbn;have e:{V with lines:=L,s0:=s}.bl=[]++sB s:: ([sB V.s1,sB V.s2,sB V.s3,sB V.s4,sB V.s5]++(V.shots.map λx=>sB x.2)++(V.mods.map λx=>sB x.2)++(V.jobs.map λx=>sB x.2)):=rfl;rw[e]at hb;by_cases hsb:sB s=some b
 ·rcases hn b hsb with z|z
  ·exact hbn (by rw[z];simp)
  ·omega
 ·rcases mem_mid3 hb with z|z|z
  ·exact hbn (mem_mid (.inl z))
  ·exact hsb z.symm
  ·exact hbn (mem_mid (.inr z))
def RegBk.up1(r:RegBk N h b V){s:AV}{L:List TpR}(hs:Fr N k s 2 (L.map tpRow))(hn:∀i,sB s=some i->sB V.s1=some i\/h.length<=i)(hm:k[b]? =some (.cells {V with tapes:=L,s1:=s}.row true false))
  (hk:∀i,i<h.length->sB V.s1≠some i->i≠b->k[i]? =h[i]?):RegBk N k b {V with tapes:=L,s1:=s}:=by
 have hd:V.bl=[sB V.s0]++sB V.s1:: ([sB V.s2,sB V.s3,sB V.s4,sB V.s5]++(V.shots.map λx=>sB x.2)++(V.mods.map λx=>sB x.2)++(V.jobs.map λx=>sB x.2)):=rfl;have hin:∀i,some i∈V.bl->N<=i/\i<h.length:=λi hi=>r.o.blk hi
 have hdi:=r.o.di;rw[hd]at hdi;have keep:∀i,(some i∈[sB V.s0]\/some i∈([sB V.s2,sB V.s3,sB V.s4,sB V.s5]++(V.shots.map λx=>sB x.2)++(V.mods.map λx=>sB x.2)++(V.jobs.map λx=>sB x.2)))->k[i]? =h[i]? :=λi hi=>by
  have hmem:some i∈V.bl:=by rw[hd];exact mem_mid hi
  refine hk i (hin i hmem).2 (λe=>?_) (λe=>r.ne (e▸hmem));obtain⟨h1,h2,h3⟩:=List.pairwise_append.1 hdi;rcases hi with hi|hi
  ·exact h3 _ hi _ (by simp) i rfl e
  ·exact(List.pairwise_cons.1 h2).1 _ hi i e rfl
 have own:RegOwn N k {V with tapes:=L,s1:=s}:=by
  refine⟨(r.o.i0.sBkeep λi hi=>keep i (.inl (by rw[<-hi];simp))),hs,(r.o.i2.sBkeep λi hi=>keep i (.inr (by rw[<-hi];simp))),(r.o.i3.sBkeep λi hi=>keep i (.inr (by rw[<-hi];simp))),(r.o.i4.sBkeep λi hi=>keep i (.inr (by rw[<-hi];simp))),(r.o.i5.sBkeep λi hi=>keep i (.inr (by rw[<-hi];simp))),(λx hx=>(r.o.e2 x hx).sBkeep λi hi=>keep i (.inr (by rw[<-hi];simp only[List.mem_append,List.mem_map];exact .inl (.inl (.inr ⟨x,hx,rfl⟩))))),(λx hx=>(r.o.e3 x hx).sBkeep λi hi=>keep i (.inr (by rw[<-hi];simp only[List.mem_append,List.mem_map];exact .inl (.inr ⟨x,hx,rfl⟩)))),(λx hx=>(r.o.e4 x hx).sBkeep λi hi=>keep i (.inr (by rw[<-hi];simp only[List.mem_append,List.mem_map];exact .inr ⟨x,hx,rfl⟩))),?_⟩
  have hx:∀i,sB s=some i->sB V.s1=some i\/((∀y∈[sB V.s0],y≠some i)/\∀y∈([sB V.s2,sB V.s3,sB V.s4,sB V.s5]++(V.shots.map λx=>sB x.2)++(V.mods.map λx=>sB x.2)++(V.jobs.map λx=>sB x.2)),y≠some i):=λi hi=>by
   rcases hn i hi with hn|hn
   ·exact .inl hn
   ·refine .inr ⟨λy hy e=>?_,λy hy e=>?_⟩
    ·subst e;have:=(hin i (by rw[hd];exact mem_mid (.inl hy))).2;omega
    ·subst e;have:=(hin i (by rw[hd];exact mem_mid (.inr hy))).2;omega
  exact hdi.repl hx
 refine⟨own,r.hN,hm,λhb=>?_⟩;have hbl:=r.lt;have hbn:=r.ne;rw[hd]at hbn;have e:{V with tapes:=L,s1:=s}.bl=[sB V.s0]++sB s:: ([sB V.s2,sB V.s3,sB V.s4,sB V.s5]++(V.shots.map λx=>sB x.2)++(V.mods.map λx=>sB x.2)++(V.jobs.map λx=>sB x.2)):=rfl;rw[e]at hb;by_cases hsb:sB s=some b
 ·rcases hn b hsb with z|z
  ·exact hbn (by rw[z];simp)
  ·omega
 ·rcases mem_mid3 hb with z|z|z
  ·exact hbn (mem_mid (.inl z))
  ·exact hsb z.symm
  ·exact hbn (mem_mid (.inr z))
def RegBk.up2(r:RegBk N h b V){s t:AV}{y:ShR}(hs:Fr N k s 3 ((V.shots++[(y,t)]).map shRow))(ht:Fr N k t 1 (y.tapes.map strRow))(hn:∀i,sB s=some i->sB V.s2=some i\/h.length<=i)(hnt:∀i,sB t=some i->h.length<=i/\sB s≠some i)
  (hm:k[b]? =some (.cells {V with shots:=V.shots++[(y,t)],s2:=s}.row true false))
  (hk:∀i,i<h.length->sB V.s2≠some i->i≠b->k[i]? =h[i]?):RegBk N k b {V with shots:=V.shots++[(y,t)],s2:=s}:=by
 have hd:V.bl=[sB V.s0,sB V.s1]++sB V.s2:: ([sB V.s3,sB V.s4,sB V.s5]++(V.shots.map λx=>sB x.2)++(V.mods.map λx=>sB x.2)++(V.jobs.map λx=>sB x.2)):=rfl;have hin:∀i,some i∈V.bl->N<=i/\i<h.length:=λi hi=>r.o.blk hi
 have hdi:=r.o.di;rw[hd]at hdi;have keep:∀i,(some i∈[sB V.s0,sB V.s1]\/some i∈([sB V.s3,sB V.s4,sB V.s5]++(V.shots.map λx=>sB x.2)++(V.mods.map λx=>sB x.2)++(V.jobs.map λx=>sB x.2)))->k[i]? =h[i]? :=λi hi=>by
  have hmem:some i∈V.bl:=by rw[hd];exact mem_mid hi
  refine hk i (hin i hmem).2 (λe=>?_) (λe=>r.ne (e▸hmem));obtain⟨h1,h2,h3⟩:=List.pairwise_append.1 hdi;rcases hi with hi|hi
  ·exact h3 _ hi _ (by simp) i rfl e
  ·exact(List.pairwise_cons.1 h2).1 _ hi i e rfl
 have own:RegOwn N k {V with shots:=V.shots++[(y,t)],s2:=s}:=by
  refine⟨(r.o.i0.sBkeep λi hi=>keep i (.inl (by rw[<-hi];simp))),(r.o.i1.sBkeep λi hi=>keep i (.inl (by rw[<-hi];simp))),hs,(r.o.i3.sBkeep λi hi=>keep i (.inr (by rw[<-hi];simp))),(r.o.i4.sBkeep λi hi=>keep i (.inr (by rw[<-hi];simp))),(r.o.i5.sBkeep λi hi=>keep i (.inr (by rw[<-hi];simp))),(λx hx=>by
   rcases List.mem_append.1 hx with hx|hx
   ·exact(r.o.e2 x hx).sBkeep λi hi=>keep i (.inr (by rw[<-hi];simp only[List.mem_append,List.mem_map];exact .inl (.inl (.inr ⟨x,hx,rfl⟩))))
   ·rw[List.mem_singleton]at hx;subst hx;exact ht),(λx hx=>(r.o.e3 x hx).sBkeep λi hi=>keep i (.inr (by rw[<-hi];simp only[List.mem_append,List.mem_map];exact .inl (.inr ⟨x,hx,rfl⟩)))),(λx hx=>(r.o.e4 x hx).sBkeep λi hi=>keep i (.inr (by rw[<-hi];simp only[List.mem_append,List.mem_map];exact .inr ⟨x,hx,rfl⟩))),?_⟩
  have hx:∀i,sB s=some i->sB V.s2=some i\/((∀y∈[sB V.s0,sB V.s1],y≠some i)/\∀y∈([sB V.s3,sB V.s4,sB V.s5]++(V.shots.map λx=>sB x.2)++(V.mods.map λx=>sB x.2)++(V.jobs.map λx=>sB x.2)),y≠some i):=λi hi=>by
   rcases hn i hi with hn|hn
   ·exact .inl hn
   ·refine .inr ⟨λy hy e=>?_,λy hy e=>?_⟩
    ·subst e;have:=(hin i (by rw[hd];exact mem_mid (.inl hy))).2;omega
    ·subst e;have:=(hin i (by rw[hd];exact mem_mid (.inr hy))).2;omega
  have h1:=hdi.repl hx;have h2:Dis (([sB V.s0,sB V.s1,sB s,sB V.s3,sB V.s4,sB V.s5]++(V.shots.map λx=>sB x.2))++((V.mods.map λx=>sB x.2)++(V.jobs.map λx=>sB x.2))):=by
   have:[sB V.s0,sB V.s1]++sB s:: ([sB V.s3,sB V.s4,sB V.s5]++(V.shots.map λx=>sB x.2)++(V.mods.map λx=>sB x.2)++(V.jobs.map λx=>sB x.2))=([sB V.s0,sB V.s1,sB s,sB V.s3,sB V.s4,sB V.s5]++(V.shots.map λx=>sB x.2))++((V.mods.map λx=>sB x.2)++(V.jobs.map λx=>sB x.2)):=by simp
   rw[<-this];exact h1
  have h3:=h2.ins (x:=sB t) (λi hi=>by
   obtain⟨n1,n2⟩:=hnt i hi;refine⟨λy hy e=>?_,λy hy e=>?_⟩
   ·subst e;by_cases hsi:sB s=some i
    ·exact n2 hsi
    ·have:=(hin i (by rw[hd];simp only[List.mem_append,List.mem_cons,List.not_mem_nil,or_false]at hy ⊢;have hsi':some i≠sB s:=λz=>hsi z.symm;grind)).2;omega
   ·subst e;have:=(hin i (by rw[hd];simp only[List.mem_append,List.mem_cons,List.not_mem_nil,or_false]at hy ⊢<;>grind)).2;omega)
  have:{V with shots:=V.shots++[(y,t)],s2:=s}.bl=([sB V.s0,sB V.s1,sB s,sB V.s3,sB V.s4,sB V.s5]++(V.shots.map λx=>sB x.2))++sB t:: ((V.mods.map λx=>sB x.2)++(V.jobs.map λx=>sB x.2)):=by
   simp[RV.bl]
  rw[this];exact h3
 refine⟨own,r.hN,hm,λhb=>?_⟩;have hbl:=r.lt;have hbn:=r.ne;rw[hd]at hbn;by_cases hsb:sB s=some b
 ·rcases hn b hsb with z|z
  ·exact hbn (by rw[z];simp)
  ·omega
 ·by_cases htb:sB t=some b
  ·have:=(hnt b htb).1;omega
  ·have hsb':some b≠sB s:=λz=>hsb z.symm
   have htb':some b≠sB t:=λz=>htb z.symm
   simp only[RV.bl,List.map_append,List.map_cons,List.map_nil,List.mem_append,List.mem_cons,List.not_mem_nil,or_false]at hb;simp only[List.mem_append,List.mem_cons,List.not_mem_nil,or_false]at hbn
   grind
def RegBk.up3(r:RegBk N h b V){s t:AV}{y:MdR}(hs:Fr N k s 4 ((V.mods++[(y,t)]).map mdRow))(ht:Fr N k t 1 (y.inputs.map strRow))(hn:∀i,sB s=some i->sB V.s3=some i\/h.length<=i)(hnt:∀i,sB t=some i->h.length<=i/\sB s≠some i)
  (hm:k[b]? =some (.cells {V with mods:=V.mods++[(y,t)],s3:=s}.row true false))
  (hk:∀i,i<h.length->sB V.s3≠some i->i≠b->k[i]? =h[i]?):RegBk N k b {V with mods:=V.mods++[(y,t)],s3:=s}:=by
 have hd:V.bl=[sB V.s0,sB V.s1,sB V.s2]++sB V.s3:: ([sB V.s4,sB V.s5]++(V.shots.map λx=>sB x.2)++(V.mods.map λx=>sB x.2)++(V.jobs.map λx=>sB x.2)):=rfl;have hin:∀i,some i∈V.bl->N<=i/\i<h.length:=λi hi=>r.o.blk hi
 have hdi:=r.o.di;rw[hd]at hdi;have keep:∀i,(some i∈[sB V.s0,sB V.s1,sB V.s2]\/some i∈([sB V.s4,sB V.s5]++(V.shots.map λx=>sB x.2)++(V.mods.map λx=>sB x.2)++(V.jobs.map λx=>sB x.2)))->k[i]? =h[i]? :=λi hi=>by
  have hmem:some i∈V.bl:=by rw[hd];exact mem_mid hi
  refine hk i (hin i hmem).2 (λe=>?_) (λe=>r.ne (e▸hmem));obtain⟨h1,h2,h3⟩:=List.pairwise_append.1 hdi;rcases hi with hi|hi
  ·exact h3 _ hi _ (by simp) i rfl e
  ·exact(List.pairwise_cons.1 h2).1 _ hi i e rfl
 have own:RegOwn N k {V with mods:=V.mods++[(y,t)],s3:=s}:=by
  refine⟨(r.o.i0.sBkeep λi hi=>keep i (.inl (by rw[<-hi];simp))),(r.o.i1.sBkeep λi hi=>keep i (.inl (by rw[<-hi];simp))),(r.o.i2.sBkeep λi hi=>keep i (.inl (by rw[<-hi];simp))),hs,(r.o.i4.sBkeep λi hi=>keep i (.inr (by rw[<-hi];simp))),(r.o.i5.sBkeep λi hi=>keep i (.inr (by rw[<-hi];simp))),(λx hx=>(r.o.e2 x hx).sBkeep λi hi=>keep i (.inr (by rw[<-hi];simp only[List.mem_append,List.mem_map];exact .inl (.inl (.inr ⟨x,hx,rfl⟩))))),(λx hx=>by
   rcases List.mem_append.1 hx with hx|hx
   ·exact(r.o.e3 x hx).sBkeep λi hi=>keep i (.inr (by rw[<-hi];simp only[List.mem_append,List.mem_map];exact .inl (.inr ⟨x,hx,rfl⟩)))
   ·rw[List.mem_singleton]at hx;subst hx;exact ht),(λx hx=>(r.o.e4 x hx).sBkeep λi hi=>keep i (.inr (by rw[<-hi];simp only[List.mem_append,List.mem_map];exact .inr ⟨x,hx,rfl⟩))),?_⟩
  have hx:∀i,sB s=some i->sB V.s3=some i\/((∀y∈[sB V.s0,sB V.s1,sB V.s2],y≠some i)/\∀y∈([sB V.s4,sB V.s5]++(V.shots.map λx=>sB x.2)++(V.mods.map λx=>sB x.2)++(V.jobs.map λx=>sB x.2)),y≠some i):=λi hi=>by
   rcases hn i hi with hn|hn
   ·exact .inl hn
   ·refine .inr ⟨λy hy e=>?_,λy hy e=>?_⟩
    ·subst e;have:=(hin i (by rw[hd];exact mem_mid (.inl hy))).2;omega
    ·subst e;have:=(hin i (by rw[hd];exact mem_mid (.inr hy))).2;omega
  have h1:=hdi.repl hx;have h2:Dis (([sB V.s0,sB V.s1,sB V.s2,sB s,sB V.s4,sB V.s5]++(V.shots.map λx=>sB x.2)++(V.mods.map λx=>sB x.2))++((V.jobs.map λx=>sB x.2))):=by
   have:[sB V.s0,sB V.s1,sB V.s2]++sB s:: ([sB V.s4,sB V.s5]++(V.shots.map λx=>sB x.2)++(V.mods.map λx=>sB x.2)++(V.jobs.map λx=>sB x.2))=([sB V.s0,sB V.s1,sB V.s2,sB s,sB V.s4,sB V.s5]++(V.shots.map λx=>sB x.2)++(V.mods.map λx=>sB x.2))++((V.jobs.map λx=>sB x.2)):=by simp
   rw[<-this];exact h1
  have h3:=h2.ins (x:=sB t) (λi hi=>by
   obtain⟨n1,n2⟩:=hnt i hi;refine⟨λy hy e=>?_,λy hy e=>?_⟩
   ·subst e;by_cases hsi:sB s=some i
    ·exact n2 hsi
    ·have:=(hin i (by rw[hd];simp only[List.mem_append,List.mem_cons,List.not_mem_nil,or_false]at hy ⊢;have hsi':some i≠sB s:=λz=>hsi z.symm;grind)).2;omega
   ·subst e;have:=(hin i (by rw[hd];simp only[List.mem_append,List.mem_cons,List.not_mem_nil,or_false]at hy ⊢<;>grind)).2;omega)
  have:{V with mods:=V.mods++[(y,t)],s3:=s}.bl=([sB V.s0,sB V.s1,sB V.s2,sB s,sB V.s4,sB V.s5]++(V.shots.map λx=>sB x.2)++(V.mods.map λx=>sB x.2))++sB t:: ((V.jobs.map λx=>sB x.2)):=by
   simp[RV.bl]
  rw[this];exact h3
 refine⟨own,r.hN,hm,λhb=>?_⟩;have hbl:=r.lt;have hbn:=r.ne;rw[hd]at hbn;by_cases hsb:sB s=some b
 ·rcases hn b hsb with z|z
  ·exact hbn (by rw[z];simp)
  ·omega
 ·by_cases htb:sB t=some b
  ·have:=(hnt b htb).1;omega
  ·have hsb':some b≠sB s:=λz=>hsb z.symm
   have htb':some b≠sB t:=λz=>htb z.symm
   simp only[RV.bl,List.map_append,List.map_cons,List.map_nil,List.mem_append,List.mem_cons,List.not_mem_nil,or_false]at hb;simp only[List.mem_append,List.mem_cons,List.not_mem_nil,or_false]at hbn
   grind
def RegBk.up4(r:RegBk N h b V){s t:AV}{y:JbR}(hs:Fr N k s 3 ((V.jobs++[(y,t)]).map jbRow))(ht:Fr N k t 1 (y.sums.map intRow))(hn:∀i,sB s=some i->sB V.s4=some i\/h.length<=i)(hnt:∀i,sB t=some i->h.length<=i/\sB s≠some i)
  (hm:k[b]? =some (.cells {V with jobs:=V.jobs++[(y,t)],s4:=s}.row true false))
  (hk:∀i,i<h.length->sB V.s4≠some i->i≠b->k[i]? =h[i]?):RegBk N k b {V with jobs:=V.jobs++[(y,t)],s4:=s}:=by
 have hd:V.bl=[sB V.s0,sB V.s1,sB V.s2,sB V.s3]++sB V.s4:: ([sB V.s5]++(V.shots.map λx=>sB x.2)++(V.mods.map λx=>sB x.2)++(V.jobs.map λx=>sB x.2)):=rfl;have hin:∀i,some i∈V.bl->N<=i/\i<h.length:=λi hi=>r.o.blk hi
 have hdi:=r.o.di;rw[hd]at hdi;have keep:∀i,(some i∈[sB V.s0,sB V.s1,sB V.s2,sB V.s3]\/some i∈([sB V.s5]++(V.shots.map λx=>sB x.2)++(V.mods.map λx=>sB x.2)++(V.jobs.map λx=>sB x.2)))->k[i]? =h[i]? :=λi hi=>by
  have hmem:some i∈V.bl:=by rw[hd];exact mem_mid hi
  refine hk i (hin i hmem).2 (λe=>?_) (λe=>r.ne (e▸hmem));obtain⟨h1,h2,h3⟩:=List.pairwise_append.1 hdi;rcases hi with hi|hi
  ·exact h3 _ hi _ (by simp) i rfl e
  ·exact(List.pairwise_cons.1 h2).1 _ hi i e rfl
 have own:RegOwn N k {V with jobs:=V.jobs++[(y,t)],s4:=s}:=by
  refine⟨(r.o.i0.sBkeep λi hi=>keep i (.inl (by rw[<-hi];simp))),(r.o.i1.sBkeep λi hi=>keep i (.inl (by rw[<-hi];simp))),(r.o.i2.sBkeep λi hi=>keep i (.inl (by rw[<-hi];simp))),(r.o.i3.sBkeep λi hi=>keep i (.inl (by rw[<-hi];simp))),hs,(r.o.i5.sBkeep λi hi=>keep i (.inr (by rw[<-hi];simp))),(λx hx=>(r.o.e2 x hx).sBkeep λi hi=>keep i (.inr (by rw[<-hi];simp only[List.mem_append,List.mem_map];exact .inl (.inl (.inr ⟨x,hx,rfl⟩))))),(λx hx=>(r.o.e3 x hx).sBkeep λi hi=>keep i (.inr (by rw[<-hi];simp only[List.mem_append,List.mem_map];exact .inl (.inr ⟨x,hx,rfl⟩)))),(λx hx=>by
   rcases List.mem_append.1 hx with hx|hx
   ·exact(r.o.e4 x hx).sBkeep λi hi=>keep i (.inr (by rw[<-hi];simp only[List.mem_append,List.mem_map];exact .inr ⟨x,hx,rfl⟩))
   ·rw[List.mem_singleton]at hx;subst hx;exact ht),?_⟩
  have hx:∀i,sB s=some i->sB V.s4=some i\/((∀y∈[sB V.s0,sB V.s1,sB V.s2,sB V.s3],y≠some i)/\∀y∈([sB V.s5]++(V.shots.map λx=>sB x.2)++(V.mods.map λx=>sB x.2)++(V.jobs.map λx=>sB x.2)),y≠some i):=λi hi=>by
   rcases hn i hi with hn|hn
   ·exact .inl hn
   ·refine .inr ⟨λy hy e=>?_,λy hy e=>?_⟩
    ·subst e;have:=(hin i (by rw[hd];exact mem_mid (.inl hy))).2;omega
    ·subst e;have:=(hin i (by rw[hd];exact mem_mid (.inr hy))).2;omega
  have h1:=hdi.repl hx;have h2:Dis (([sB V.s0,sB V.s1,sB V.s2,sB V.s3,sB s,sB V.s5]++(V.shots.map λx=>sB x.2)++(V.mods.map λx=>sB x.2)++(V.jobs.map λx=>sB x.2))++([])):=by
   have:[sB V.s0,sB V.s1,sB V.s2,sB V.s3]++sB s:: ([sB V.s5]++(V.shots.map λx=>sB x.2)++(V.mods.map λx=>sB x.2)++(V.jobs.map λx=>sB x.2))=([sB V.s0,sB V.s1,sB V.s2,sB V.s3,sB s,sB V.s5]++(V.shots.map λx=>sB x.2)++(V.mods.map λx=>sB x.2)++(V.jobs.map λx=>sB x.2))++([]):=by simp
   rw[<-this];exact h1
  have h3:=h2.ins (x:=sB t) (λi hi=>by
   obtain⟨n1,n2⟩:=hnt i hi;refine⟨λy hy e=>?_,λy hy e=>?_⟩
   ·subst e;by_cases hsi:sB s=some i
    ·exact n2 hsi
    ·have:=(hin i (by rw[hd];simp only[List.mem_append,List.mem_cons,List.not_mem_nil,or_false]at hy ⊢;have hsi':some i≠sB s:=λz=>hsi z.symm;grind)).2;omega
   ·subst e;have:=(hin i (by rw[hd];simp only[List.mem_append,List.mem_cons,List.not_mem_nil,or_false]at hy ⊢<;>grind)).2;omega)
  have:{V with jobs:=V.jobs++[(y,t)],s4:=s}.bl=([sB V.s0,sB V.s1,sB V.s2,sB V.s3,sB s,sB V.s5]++(V.shots.map λx=>sB x.2)++(V.mods.map λx=>sB x.2)++(V.jobs.map λx=>sB x.2))++sB t:: ([]):=by
   simp[RV.bl]
  rw[this];exact h3
 refine⟨own,r.hN,hm,λhb=>?_⟩;have hbl:=r.lt;have hbn:=r.ne;rw[hd]at hbn;by_cases hsb:sB s=some b
 ·rcases hn b hsb with z|z
  ·exact hbn (by rw[z];simp)
  ·omega
 ·by_cases htb:sB t=some b
  ·have:=(hnt b htb).1;omega
  ·have hsb':some b≠sB s:=λz=>hsb z.symm
   have htb':some b≠sB t:=λz=>htb z.symm
   simp only[RV.bl,List.map_append,List.map_cons,List.map_nil,List.mem_append,List.mem_cons,List.not_mem_nil,or_false]at hb;simp only[List.mem_append,List.mem_cons,List.not_mem_nil,or_false]at hbn
   grind
def RegBk.up5(r:RegBk N h b V){s:AV}{L:List PcR}(hs:Fr N k s 4 (L.map pcRow))(hn:∀i,sB s=some i->sB V.s5=some i\/h.length<=i)(hm:k[b]? =some (.cells {V with picts:=L,s5:=s}.row true false))
  (hk:∀i,i<h.length->sB V.s5≠some i->i≠b->k[i]? =h[i]?):RegBk N k b {V with picts:=L,s5:=s}:=by
 have hd:V.bl=[sB V.s0,sB V.s1,sB V.s2,sB V.s3,sB V.s4]++sB V.s5:: ([]++(V.shots.map λx=>sB x.2)++(V.mods.map λx=>sB x.2)++(V.jobs.map λx=>sB x.2)):=rfl;have hin:∀i,some i∈V.bl->N<=i/\i<h.length:=λi hi=>r.o.blk hi
 have hdi:=r.o.di;rw[hd]at hdi;have keep:∀i,(some i∈[sB V.s0,sB V.s1,sB V.s2,sB V.s3,sB V.s4]\/some i∈([]++(V.shots.map λx=>sB x.2)++(V.mods.map λx=>sB x.2)++(V.jobs.map λx=>sB x.2)))->k[i]? =h[i]? :=λi hi=>by
  have hmem:some i∈V.bl:=by rw[hd];exact mem_mid hi
  refine hk i (hin i hmem).2 (λe=>?_) (λe=>r.ne (e▸hmem));obtain⟨h1,h2,h3⟩:=List.pairwise_append.1 hdi;rcases hi with hi|hi
  ·exact h3 _ hi _ (by simp) i rfl e
  ·exact(List.pairwise_cons.1 h2).1 _ hi i e rfl
 have own:RegOwn N k {V with picts:=L,s5:=s}:=by
  refine⟨(r.o.i0.sBkeep λi hi=>keep i (.inl (by rw[<-hi];simp))),(r.o.i1.sBkeep λi hi=>keep i (.inl (by rw[<-hi];simp))),(r.o.i2.sBkeep λi hi=>keep i (.inl (by rw[<-hi];simp))),(r.o.i3.sBkeep λi hi=>keep i (.inl (by rw[<-hi];simp))),(r.o.i4.sBkeep λi hi=>keep i (.inl (by rw[<-hi];simp))),hs,(λx hx=>(r.o.e2 x hx).sBkeep λi hi=>keep i (.inr (by rw[<-hi];simp only[List.mem_append,List.mem_map];exact .inl (.inl (.inr ⟨x,hx,rfl⟩))))),(λx hx=>(r.o.e3 x hx).sBkeep λi hi=>keep i (.inr (by rw[<-hi];simp only[List.mem_append,List.mem_map];exact .inl (.inr ⟨x,hx,rfl⟩)))),(λx hx=>(r.o.e4 x hx).sBkeep λi hi=>keep i (.inr (by rw[<-hi];simp only[List.mem_append,List.mem_map];exact .inr ⟨x,hx,rfl⟩))),?_⟩
  have hx:∀i,sB s=some i->sB V.s5=some i\/((∀y∈[sB V.s0,sB V.s1,sB V.s2,sB V.s3,sB V.s4],y≠some i)/\∀y∈([]++(V.shots.map λx=>sB x.2)++(V.mods.map λx=>sB x.2)++(V.jobs.map λx=>sB x.2)),y≠some i):=λi hi=>by
   rcases hn i hi with hn|hn
   ·exact .inl hn
   ·refine .inr ⟨λy hy e=>?_,λy hy e=>?_⟩
    ·subst e;have:=(hin i (by rw[hd];exact mem_mid (.inl hy))).2;omega
    ·subst e;have:=(hin i (by rw[hd];exact mem_mid (.inr hy))).2;omega
  exact hdi.repl hx
 refine⟨own,r.hN,hm,λhb=>?_⟩;have hbl:=r.lt;have hbn:=r.ne;rw[hd]at hbn;have e:{V with picts:=L,s5:=s}.bl=[sB V.s0,sB V.s1,sB V.s2,sB V.s3,sB V.s4]++sB s:: ([]++(V.shots.map λx=>sB x.2)++(V.mods.map λx=>sB x.2)++(V.jobs.map λx=>sB x.2)):=rfl;rw[e]at hb;by_cases hsb:sB s=some b
 ·rcases hn b hsb with z|z
  ·exact hbn (by rw[z];simp)
  ·omega
 ·rcases mem_mid3 hb with z|z|z
  ·exact hbn (mem_mid (.inl z))
  ·exact hsb z.symm
  ·exact hbn (mem_mid (.inr z))
end
end Go.Abs
