/- The abstract layer, part M: calls; one operation in the model; a region whose operations stand in one order. No condition. · The abstract layer, part N: a region whose operations may stand in more than one order. No condition. · The abstract layer, part O: one operation of a region that stands in more than one order, taken when it comes. No condition. · The abstract layer, part PA: boxes that are filled later in a region whose operations may stand in more than one order. No condition. · The abstract layer, part P: a region whose operations may stand in more than one order, whole. No condition. · The abstract layer, part PB: a region in which whatever alters a block is settled ahead of, or behind, all that looks at one. No condition. · The abstract layer, part PC: a region in which one literal of a slice stands ahead of, or behind, what alters blocks. No condition. · The abstract layer, part Q: code: how it is left, and with what; rounds of a range over a function; functions. No condition. · The abstract layer, part R: functions from their code; a range over a function; yield. No condition. · The abstract layer, part S: a range over a function; yield. No condition. · The abstract layer, part T: an interpreter of the small code: its values, its heap, what an operation does. No condition. · The abstract layer, part XA: regions in which nothing is made and nothing called, and whose stores meet no other load or store: any order. No condition. -/
import Derived.Test.YtjipbemoklhnaaaGreatDoorAc1
import Derived.RangeFuncRecord
set_option maxHeartbeats 4000000
set_option linter.all false
namespace Go.Abs
def Rel(P:Program)(m:Emb)(h:AHeap)(w:World)(v:AV)(h':AHeap)(e:Ending)(w':World):Prop:=
 ∃cv m',e=.returned cv/\VR m' v cv/\HR P m' h' w'/\Grow m h w m' h' w'
def SCall(P:Program)(f:FuncId)(args:List AV)(h:AHeap)(v:AV)(h':AHeap):Prop:=
 ∀(m:Emb) (w:World) (vs:List Value),HR P m h w->VRs m args vs->Calls P f ⟨vs⟩ w (Rel P m h w v h')
def After(P:Program)(R:Ending->World->Prop):Result Next->Prop
 |.ok (.value cv) w'=>R (.returned cv) w'
 |.ok (.enter f args) w'=>CallsIn Fence.wide 0 P f args w' R
 |.ok (.round l f tmps asg body) w'=>RoundIn Fence.wide 0 P l f tmps asg body w' R
 |_=>False
def SCallV(P:Program)(fv:AV)(args:List AV)(h:AHeap)(v:AV)(h':AHeap):Prop:=
 ∀(m:Emb) (w:World) (cv:Value) (vs:List Value),HR P m h w->VR m fv cv->VRs m args vs->
  ∃d,(∀w,(Deferred.ofValue cv ⟨vs⟩).run P w=.ok d w)/\After P (Rel P m h w v h') ((invoke d.target d.args).run P w)
def OpStep(P:Program)(k:OpK)(ρ:Opd->AV)(h:AHeap)(v:AV)(h':AHeap):Prop:=
 match k with
 |.call f args=>SCallV P (ρ f) (args.map ρ) h v h'
 |k=>StepN k ρ h v h'
abbrev Fd(ro:Option Nat):Fence:={Fence.wide with round:=ro}
def run_callFunc{P f fn args w}(hf:P.funcs[f]? =some fn)(hb:fn.body.isSome=true)(hn:(fn.name == "runtime.NumGoroutine")=false):
  (callFunc f args).run P w=.ok (.enter f args) w:=by
 have hb':fn.body≠none:=by cases h:fn.body<;>simp_all
 have hn':fn.name≠ "runtime.NumGoroutine":=by simpa using hn
 simp[callFunc,Sem.run_bind,run_program,hf,hn',hb',Result.andThen]
section
variable {P:Program}{m:Emb}{h h':AHeap}{w:World}{v:AV}
def upon_after{ro:Option Nat}{o:Oper}{a:Act}{next:Act->World->Prop}{Q:Exit->Act->World->Prop}{r:Result Next}
  (hr:After P (Rel P m h w v h') r) (hn:∀cv m' w',VR m' v cv->HR P m' h' w'->Grow m h w m' h' w'->next (a.put o.dst cv) w'):o.uponIn (Fd ro) 0 P a next Q r:=by
 cases r with
 |halt x w'=>exact hr.elim
 |ok x w'=>
  cases x<;>first
   |exact hr.elim
   |skip
  case value cv=>
   obtain⟨cv',m',he,h1,h2,h3⟩:=hr;cases he;exact hn cv m' w' h1 h2 h3
  case enter f args=>
   rw[Oper.uponIn_enter];refine⟨λhd=>by simp[Fd,Fence.wide]at hd,CallsIn.mono (F:=Fd ro) (show CallsIn (Fd ro) (0-1) P f args w' (Rel P m h w v h')from hr) λe w'' he=>?_⟩;obtain⟨cv',m',rfl,h1,h2,h3⟩:=he;exact hn cv' m' w'' h1 h2 h3
  case round l f tmps asg body=>
   rw[Oper.uponIn_round];refine⟨λhd=>by simp[Fd,Fence.wide]at hd,RoundIn.mono (F:=Fd ro) (show RoundIn (Fd ro) (0-1) P l f tmps asg body w' (Rel P m h w v h')from hr) λe w'' he=>?_⟩;obtain⟨cv',m',rfl,h1,h2,h3⟩:=he;exact hn cv' m' w'' h1 h2 h3
def op_sound{o:Oper}{k:OpK}{ρ:Opd->AV}(hc:compileK P o=some k){a:Act}(hρ:∀x∈o.op.operands,∀x',opd? x=some x'->VR m (ρ x') (a.eval x))(hcst:∀z,ρ (.c z)=z)
  (hr:HR P m h w) (hs:OpStep P k ρ h v h') (ro:Option Nat) (next:Act->World->Prop) (Q:Exit->Act->World->Prop)
  (hn:∀cv m' w',VR m' v cv->HR P m' h' w'->Grow m h w m' h' w'->next (a.put o.dst cv) w'):o.wpIn (Fd ro) 0 P a w next Q:=by
 refine⟨λ_ _=>trivial,?_⟩;have hdef:∀c,o.op≠.defer c:=by
  intro c hop;simp[compileK,hop]at hc
 rw[Oper.semAt_eq _ _ _ hdef];by_cases hcall:∃f args,k=.call f args
 ·obtain⟨f,args,rfl⟩:=hcall;have hs':SCallV P (ρ f) (args.map ρ) h v h':=hs;cases hop:o.op with
  |call c=>
   have hc':=hc;simp only[compileK,hop]at hc';split at hc'
   case h_2=>cases hc'
   rename_i l hl;have hargs:=opds_VRs (m:=m) (ρ:=ρ) (σ:=a.eval) hl (λx hx=>hρ x (by simp only[hop,Op.operands,Call.operands];exact Array.mem_append.2 (.inr hx)));split at hc'
   ·rename_i g hg;simp only[Option.map_eq_some_iff]at hc';obtain⟨g',hg',he⟩:=hc';cases he;have hf:=hρ g (by simp[hop,Op.operands,Call.operands,hg]) _ hg';obtain⟨d,hd,haf⟩:=hs' m w _ _ hr hf hargs;refine upon_after (m:=m) (h:=h) (w:=w) (v:=v) (h':=h') ?_ hn;simp only[execOp,hop,resolve,hg,Sem.run_bind];have hd':(Deferred.ofValue (a.eval g) (c.args.map a.eval)).run P w=.ok d w:=hd w;rw[hd'];exact haf
   ·rename_i r name hg;simp only[Option.map_eq_some_iff]at hc';obtain⟨r',hr',he⟩:=hc';cases he;have hrv:=hρ r (by simp[hop,Op.operands,Call.operands,hg]) _ hr';have hf:VR m (ρ (.c (.func (.method name) [] []))) (.func (.method name) #[] #[]):=by
     rw[hcst,VR];exact⟨_,[],[],rfl,rfl,rfl,rfl⟩
    obtain⟨d,hd,haf⟩:=hs' m w _ (a.eval r:: (c.args.map a.eval).toList) hr hf (VRs_cons.2 ⟨_,_,rfl,hrv,hargs⟩);refine upon_after (m:=m) (h:=h) (w:=w) (v:=v) (h':=h') ?_ hn;simp only[execOp,hop,resolve,hg,Sem.run_bind];have hd':=hd w;have:(#[]++(⟨a.eval r:: (c.args.map a.eval).toList⟩:Array Value))=#[a.eval r]++c.args.map a.eval:=by
     apply Array.ext';simp
    simp only[Deferred.ofValue,this]at hd';cases hd';exact haf
   ·rename_i b hb;exfalso;unfold builtinK at hc'
    repeat' split at hc'
    all_goals first|(cases hc';done)|(simp only[Option.bind_eq_some_iff]at hc';obtain⟨z,_,hz⟩:=hc';split at hz<;>cases hz)
  |makeMap t r=>cases r<;>simp[compileK,hop]at hc
  |next x b=>
   cases b
   ·simp[compileK,hop]at hc
   ·simp[compileK,hop,Option.map_eq_some_iff]at hc
  |slice t x lo hi mx=>
   cases mx with
   |some _=>simp[compileK,hop]at hc
   |none=>
    exfalso;simp only[compileK,hop]at hc
    repeat' split at hc
    all_goals first
     |(cases hc;done)
     |(simp[Option.map_eq_some_iff]at hc;done)
  |_=>
   exfalso;simp only[compileK,hop]at hc
   repeat' split at hc
   all_goals first
    |(cases hc;done)
    |(simp[Option.map_eq_some_iff,Option.bind_eq_some_iff]at hc;done)
    |(unfold eqK at hc;repeat' split at hc;all_goals first|(cases hc;done)|(simp[Option.map_eq_some_iff]at hc;done)|(cases (eqIK_some hc).2;done)|(rcases eqPK_or hc with q|⟨q,_⟩<;>cases q))
 ·have hs':StepN k ρ h v h':=by
   cases k<;>first|exact hs|exact absurd ⟨_,_,rfl⟩ hcall
  obtain⟨cv,w',m',he,h1,h2,h3⟩:=step_sound (w:=w) hc hρ hcst hr hs';rcases he with he|⟨he,rfl⟩
  ·rw[he];exact hn cv m' w' h1 h2 h3
  ·rw[he];exact hn undef m' w' h1 h2 h3
def GV(P:Program)(m:Emb):Prop:=∀g,g<P.globals.size->∃e,m g=some e/\e.cb=g/\e.d=0
def HR.gv(hr:HR P m h w):GV P m:=λg hg=>by obtain⟨e,h1,h2,h3,_⟩:=hr.glob g hg;exact⟨e,h1,h2,h3⟩
def eval_VR(hg:GV P m){ts:TS}{a:Act}{x:Operand}{x':Opd}(hx:opd? x=some x')(hok:gOk P x=true)(ht:∀t,x=.tmp t->VR m (ts.getD t undefA) (a.tmps.getD t undef)):VR m (val ts x') (a.eval x):=by
 cases x with
 |tmp t=>cases hx;exact ht t rfl
 |const c=>
  simp only[opd?,Option.map_eq_some_iff]at hx;obtain⟨y,hy,rfl⟩:=hx;exact absV_VR m 4 _ _ hy
 |global g=>
  cases hx;simp only[gOk,decide_eq_true_eq]at hok;obtain⟨e,he,hcb,hd⟩:=hg g hok;exact⟨e,he,by rw[hcb,hd];rfl⟩
 |func f=>cases hx;exact⟨.func f,[],[],rfl,rfl,rfl,rfl⟩
def slotA{ts:TS}{vs:Array Value}(h:VRs m ts vs.toList)(t:Nat):VR m (ts.getD t undefA) (vs.getD t undef):=by
 have hl:=h.length;by_cases ht:t<ts.length
 ·have hx:ts[t]? =some ts[t]:=List.getElem?_eq_getElem ht;obtain⟨y,hy,hr⟩:=h.get hx;have e1:ts.getD t undefA=ts[t]:=by simp[List.getD,hx]
  have e2:vs.getD t undef=y:=by
   simp only[Array.getElem?_toList]at hy;simp[Array.getD_eq_getD_getElem?,hy]
  rw[e1,e2];exact hr
 ·have e1:ts.getD t undefA=undefA:=by simp[List.getD,List.getElem?_eq_none (by omega:ts.length<=t)]
  have e2:vs.getD t undef=undef:=by
   have:vs.size<=t:=by simp at hl;omega
   simp[Array.getD_eq_getD_getElem?,Array.getElem?_eq_none this]
  rw[e1,e2];exact undef_VR m
def put_VRs{ts:TS}{a:Act}(h:VRs m ts a.tmps.toList){x:AV}{cv:Value}(hx:VR m x cv)(d:Option Nat):VRs m (put ts d x) (a.put d cv).tmps.toList:=by
 cases d with
 |none=>exact h
 |some d=>simp only[put,Act.put,Array.toList_setIfInBounds];exact h.set d hx
def put_defers(a:Act)(d:Option Nat)(cv:Value):(a.put d cv).defers=a.defers:=by cases d<;>rfl
def wanted_iff{ts:TS}{a:Act}{ops:Array Oper}{o:Oper}{g:Option (Nat×Bool)}(hg:guardA ops o.guard=some g)
  (ht:∀t b,g=some (t,b)->(t<ts.length↔t<a.tmps.size)/\VR m (ts.getD t undefA) (a.tmps.getD t undef)):Region.wanted o (yielded ops a.tmps)=true↔wanted g ts:=by
 unfold guardA at hg;unfold Region.wanted wanted;cases hgd:o.guard with
 |none=>rw[hgd]at hg;cases hg;simp
 |some p=>
  obtain⟨j,b⟩:=p;rw[hgd]at hg;simp only[Option.map_eq_some_iff]at hg;obtain⟨d,hd,rfl⟩:=hg;simp only[yielded,hd,Option.bind_some,beq_iff_eq];obtain⟨hlt,hvr⟩:=ht d b rfl;by_cases hdl:d<ts.length
  ·have hds:=hlt.1 hdl;have e1:ts.getD d undefA=ts[d]:=by simp[List.getD,List.getElem?_eq_getElem hdl]
   have e2:a.tmps.getD d undef=a.tmps[d]:=by simp[Array.getD_eq_getD_getElem?,Array.getElem?_eq_getElem hds]
   rw[e1,e2]at hvr;rw[Array.getElem?_eq_getElem hds,List.getElem?_eq_getElem hdl];generalize a.tmps[d]=cv at hvr;generalize ts[d]=av at hvr;cases av with
   |bool t=>rw[VR]at hvr;subst hvr;simp
   |int k n=>rw[VR]at hvr;subst hvr;simp
   |flt k n=>rw[VR]at hvr;obtain⟨_,rfl,_⟩:=hvr;simp
   |cplx k x y=>rw[VR]at hvr;obtain⟨_,_,rfl,_⟩:=hvr;simp
   |str s=>rw[VR]at hvr;subst hvr;simp
   |ptr b o=>rw[VR]at hvr;obtain⟨_,_,rfl⟩:=hvr;simp
   |nilPtr=>rw[VR]at hvr;subst hvr;simp
   |slice b o n e=>rw[VR]at hvr;obtain⟨_,_,_,_,rfl,_⟩:=hvr;simp
   |nilSlice=>rw[VR]at hvr;subst hvr;simp
   |map r=>rw[VR]at hvr;obtain⟨_,_,rfl⟩:=hvr;simp
   |nilMap=>rw[VR]at hvr;subst hvr;simp
   |func f x y=>rw[VR]at hvr;obtain⟨_,_,_,rfl,_⟩:=hvr;simp
   |nilFunc=>rw[VR]at hvr;subst hvr;simp
   |agg l=>rw[VR]at hvr;obtain⟨_,rfl,_⟩:=hvr;simp
   |tup l=>rw[VR]at hvr;obtain⟨_,rfl,_⟩:=hvr;simp
   |ifc u l=>rw[VR]at hvr;obtain⟨_,rfl,_⟩:=hvr;simp
   |nilIfc=>rw[VR]at hvr;subst hvr;simp
   |someIfc=>rw[VR]at hvr;obtain⟨_,_,rfl⟩:=hvr;simp
  ·have hds:¬d<a.tmps.size:=λx=>hdl (hlt.2 x)
   rw[Array.getElem?_eq_none (by omega),List.getElem?_eq_none (by omega)];simp
inductive IStep (P:Program) (o:IOp) (ts:TS) (h:AHeap):TS->AHeap->Prop
 |run {v:AV}{h':AHeap}(hw:wanted o.gd ts) (hb:inR o.dst o.k ts.length) (hs:OpStep P o.k (val ts) h v h'):IStep P o ts h (put ts o.dst v) h'
 |skip (hw:¬wanted o.gd ts):IStep P o ts h (put ts o.dst undefA) h
def IOps(P:Program):List IOp->TS->AHeap->TS->AHeap->Prop
 |[],ts,h,ts',h'=>ts' =ts/\h' =h
 |o::r,ts,h,ts',h'=>∃ts1 h1,IStep P o ts h ts1 h1/\(o.q=true->∃g,h1=h++g)/\IOps P r ts1 h1 ts' h'
structure St(P:Program)(m:Emb)(ts:TS)(h:AHeap)(a:Act)(w:World):Prop where
 hr:HR P m h w
 ts:VRs m ts a.tmps.toList
def bad_step{ρ}:¬OpStep P .bad ρ h v h':=λhs=>by
 have hs':fnK .bad ρ h=some (v,h'):=hs;simp[fnK]at hs'
def opIn_sound{ops:Array Oper}{i:Nat}{o:Oper}(ho:ops[i]? =some o){q:Bool}{io:IOp}(hc:compileOp P ops q o=some io){ts ts':TS}{a:Act}
  (hg:GV P m) (hr:HR P m h w) (hlen:a.tmps.size=ts.length)
  (ht:∀t,t∈o.looksAt ops->VR m (ts.getD t undefA) (a.tmps.getD t undef)) (hs:IStep P io ts h ts' h') (ro:Option Nat) (K:Act->World->Prop) (Q:Exit->Act->World->Prop)
  (hn:∀cv v m' w',ts' =put ts o.dst v->VR m' v cv->HR P m' h' w'->Grow m h w m' h' w'->K (a.put o.dst cv) w'):wpOpIn (Fd ro) 0 P ops Q i K a w:=by
 unfold compileOp at hc;split at hc
 case h_2=>cases hc
 rename_i g hgd;cases hc;have hw:=wanted_iff (m:=m) (ts:=ts) (a:=a) hgd (λt b hgt=>⟨by omega,ht t (by
  unfold Oper.looksAt;refine List.mem_append_right _ ?_;unfold guardA at hgd;cases hog:o.guard with
  |none=>rw[hog]at hgd;cases hgd;cases hgt
  |some p=>
   obtain⟨j,b'⟩:=p;rw[hog]at hgd;simp only[Option.map_eq_some_iff]at hgd;obtain⟨d,hd,rfl⟩:=hgd;cases hgt;simp[hd])⟩)
 unfold wpOpIn;rw[ho];cases hs with
 |run hwa hb hs=>
  clear hb;simp only;rw[if_pos (hw.2 hwa)];simp only at hs;split at hs
  case isFalse=>exact absurd hs bad_step
  rename_i hgok;cases hk:compileK P o with
  |none=>rw[hk]at hs;exact absurd hs bad_step
  |some k=>
   rw[hk]at hs;refine op_sound hk (λx hx x' hx'=>?_) (λz=>rfl) hr hs ro K Q (λcv m' w' h1 h2 h3=>hn cv _ m' w' rfl h1 h2 h3);refine eval_VR hg hx' ?_ (λt hxt=>ht t ?_)
   ·exact List.all_eq_true.1 hgok x (Array.mem_toList_iff.2 hx)
   ·subst hxt;exact List.mem_append_left _ (List.mem_filterMap.2 ⟨.tmp t,by simpa using hx,rfl⟩)
 |skip hwa=>
  simp only;rw[if_neg (λx=>hwa (hw.1 x))];exact⟨λ_ _=>trivial,hn undef _ m w rfl (undef_VR m) hr (Grow.refl m h w hr.dom)⟩
theorem zipMapM_get{α β:Type}{f:Nat->α->Option β}:∀{l:List α}{i:Nat}{r:List β},zipMapM f l i=some r->r.length=l.length/\∀(j:Nat) (x:α),l[j]? =some x->∃y,r[j]? =some y/\f (i+j) x=some y
 |[],i,r,h=>by cases h;exact⟨rfl,λj x hx=>by simp at hx⟩
 |x::xs,i,r,h=>by
  unfold zipMapM at h;split at h
  case h_2=>cases h
  rename_i y ys hy hys;cases h;obtain⟨h1,h2⟩:=zipMapM_get hys;refine⟨by simp[h1],λj z hz=>?_⟩;cases j with
  |zero=>simp at hz;subst hz;exact⟨y,by simp,hy⟩
  |succ j=>
   simp at hz;obtain⟨u,hu,hf⟩:=h2 j z hz;exact⟨u,by simpa using hu,by rw[show i+(j+1)=i+1+j from by omega];exact hf⟩
structure Row(P:Program)(l:List IOp)(T:Nat->TS)(H:Nat->AHeap):Prop where
 step:∀i o,l[i]? =some o->IStep P o (T i) (H i) (T (i+1)) (H (i+1))/\(o.q=true->∃g,H (i+1)=H i++g)
theorem IOps.row:∀{l}{ts ts'}{h h'},IOps P l ts h ts' h'->∃T H,T 0=ts/\H 0=h/\T l.length=ts'/\H l.length=h'/\Row P l T H
 |[],ts,ts',h,h',hs=>by
  obtain⟨rfl,rfl⟩:=hs;exact⟨λ_=>ts',λ_=>h',rfl,rfl,rfl,rfl,⟨λi o ho=>by simp at ho⟩⟩
 |o::r,ts,ts',h,h',hs=>by
  obtain⟨ts1,h1,hst,hq,hr⟩:=hs;obtain⟨T,H,hT,hH,hT',hH',hrow⟩:=hr.row;refine⟨λi=>match i with| 0=>ts|i+1=>T i,λi=>match i with| 0=>h|i+1=>H i,rfl,rfl,hT',hH',⟨λi x hx=>?_⟩⟩;cases i with
  |zero=>
   simp at hx;subst hx;show IStep P o ts h (T 0) (H 0)/\_;rw[hT,hH];exact⟨hst,λq=>by show ∃g,H 0=h++g;rw[hH];exact hq q⟩
  |succ i=>exact hrow.step i x (by simpa using hx)
def put_length(ts:TS)(d:Option Nat)(v:AV):(put ts d v).length=ts.length:=by cases d<;>simp[put]
theorem IStep.put{o ts ts'}(hs:IStep P o ts h ts' h'):∃v,ts' =put ts o.dst v:=by
 cases hs with
 |run=>exact⟨_,rfl⟩
 |skip=>exact⟨_,rfl⟩
def compileOp_dst{ops q o io}(hc:compileOp P ops q o=some io):io.dst=o.dst/\io.q=q:=by
 unfold compileOp at hc;split at hc
 ·cases hc;exact⟨rfl,rfl⟩
 ·cases hc
def region_seq{ops:Array Oper}{l:List IOp}(hc:compileRegion P ops false=some l){ts ts':TS}{h h':AHeap}(hs:IOps P l ts h ts' h'){m:Emb}{a:Act}{w:World}(st:St P m ts h a w)(ro:Option Nat)
  (Q:Exit->Act->World->Prop) (hQ:∀m' a' w',St P m' ts' h' a' w'->Grow m h w m' h' w'->a'.defers=a.defers->Q .normal a' w') (id:Nat):(Code.region id ops false).wpIn (Fd ro) 0 P Q a w:=by
 refine wpIn_region ?_;obtain⟨T,H,rfl,rfl,rfl,rfl,hrow⟩:=hs.row;obtain⟨hlen,hget⟩:=zipMapM_get (show zipMapM (λ_ o=>compileOp P ops false o) ops.toList 0=some l from hc);simp only[Array.length_toList]at hlen;have key:∀(k j:Nat),j+k=ops.size->∀(m1:Emb) (a1:Act) (w1:World),St P m1 (T j) (H j) a1 w1->Grow m (H 0) w m1 (H j) w1->a1.defers=a.defers->
   wpOpsIn (Fd ro) 0 P ops Q (List.range' j k) a1 w1:=by
  intro k
  induction k with
  |zero=>
   intro j hj m1 a1 w1 s1 g1 hd;have:j=l.length:=by omega
   subst this;exact hQ m1 a1 w1 s1 g1 hd
  |succ k ih=>
   intro j hj m1 a1 w1 s1 g1 hd;rw[List.range'_succ,wpOpsIn_cons];have hjlt:j<ops.size:=by omega
   have ho:ops[j]? =some ops[j]:=Array.getElem?_eq_getElem hjlt;obtain⟨io,hio,hcomp⟩:=hget j ops[j] (by simp);obtain⟨hst,_⟩:=hrow.step j io hio;refine opIn_sound ho hcomp s1.hr.gv s1.hr (by simpa using s1.ts.length) (λt _=>slotA s1.ts t) hst ro _ Q ?_;intro cv v m' w' hts h1 h2 h3;have hle:=h3.le s1.hr.dom;exact ih (j+1) (by omega) m' _ w' ⟨h2,by rw[hts];exact put_VRs (VRs.mono hle _ _ s1.ts) h1 _⟩ (g1.trans h3 st.hr.dom) (by rw[put_defers];exact hd)
 have:=key ops.size 0 (by omega) m a w st (Grow.refl m _ w st.hr.dom) rfl
 rwa [<-List.range_eq_range']at this
end
end Go.Abs
namespace Go.Abs
def unl(listed:Array Bool):Nat->Nat
 | 0=>0
 |n+1=>unl listed n+(if listed.getD n false then 0 else 1)
def getD_set_iff{listed:Array Bool}{i j:Nat}(hi:i<listed.size):(listed.setIfInBounds i true).getD j false=(if j=i then true else listed.getD j false):=by
 by_cases h:j=i
 ·subst h;simp[Array.getD_eq_getD_getElem?,Array.getElem?_setIfInBounds_self_of_lt hi]
 ·rw[if_neg h];simp[Array.getD_eq_getD_getElem?,Array.getElem?_setIfInBounds_ne (Ne.symm h)]
theorem unl_ge{listed:Array Bool}{i:Nat}(hi:i<listed.size):∀n,n<=i->unl (listed.setIfInBounds i true) n=unl listed n
 | 0,_=>rfl
 |n+1,h=>by
  simp only[unl];rw[unl_ge hi n (by omega),getD_set_iff hi,if_neg (by omega:¬n=i)]
theorem unl_lt{listed:Array Bool}{i:Nat}(hi:i<listed.size)(hn:listed.getD i false=false):∀n,i<n->unl (listed.setIfInBounds i true) n+1=unl listed n
 | 0,h=>absurd h (by omega)
 |n+1,h=>by
  simp only[unl];rw[getD_set_iff hi];by_cases e:n=i
  ·subst e;rw[unl_ge hi n (Nat.le_refl _),if_pos rfl,hn];simp
  ·rw[if_neg e];have:=unl_lt hi hn n (by omega);omega
theorem unl_zero{listed}:∀n,unl listed n=0->∀i,i<n->listed.getD i false=true
 | 0,_,i,hi=>absurd hi (by omega)
 |n+1,h,i,hi=>by
  simp only[unl]at h;by_cases e:i=n
  ·subst e;cases hl:listed.getD i false with
   |true=>rfl
   |false=>rw[hl]at h;simp at h
  ·exact unl_zero n (by omega) i (by omega)
def Emb.upTo(m:Emb)(n:Nat):Emb:=λb=>if b<n then m b else none
def Emb.patch(m1 m:Emb)(n:Nat):Emb:=λb=>if b<n then m1 b else m b
mutual
theorem VR.cut{ma m n}(hd:∀b e,ma b=some e->b<n):∀(x:AV) (va v:Value),VR ma x va->VR m x v->VR (m.upTo n) x v
 |.bool _,_,_,_,hv=>hv
 |.int _ _,_,_,_,hv=>hv
 |.flt _ _,_,_,_,hv=>hv
 |.cplx _ _ _,_,_,_,hv=>hv
 |.str _,_,_,_,hv=>hv
 |.ptr b o,va,v,ha,hv=>by
  rw[VR]at ha hv ⊢;obtain⟨e,he,_⟩:=ha;obtain⟨e',he',hv⟩:=hv;exact⟨e',by unfold Emb.upTo;rw[if_pos (hd _ _ he)];exact he',hv⟩
 |.nilPtr,_,_,_,hv=>hv
 |.slice b o n' es,va,v,ha,hv=>by
  rw[VR]at ha hv ⊢;obtain⟨e,_,_,he,_⟩:=ha;obtain⟨e',ca,cap,he',hv⟩:=hv;exact⟨e',ca,cap,by unfold Emb.upTo;rw[if_pos (hd _ _ he)];exact he',hv⟩
 |.nilSlice,_,_,_,hv=>hv
 |.map r,va,v,ha,hv=>by
  rw[VR]at ha hv ⊢;obtain⟨e,he,_⟩:=ha;obtain⟨e',he',hv⟩:=hv;exact⟨e',by unfold Emb.upTo;rw[if_pos (hd _ _ he)];exact he',hv⟩
 |.nilMap,_,_,_,hv=>hv
 |.func f a c,va,v,ha,hv=>by
  rw[VR]at ha hv ⊢;obtain⟨f1,a1,c1,_,hf1,ha1,hc1⟩:=ha;obtain⟨f2,a2,c2,hv,hf2,ha2,hc2⟩:=hv;refine⟨f2,a2,c2,hv,?_,VRs.cut hd a _ _ ha1 ha2,VRs.cut hd c _ _ hc1 hc2⟩;cases f<;>simp only[FnR]at hf1 hf2 ⊢<;>try exact hf2
  obtain⟨e,he,_⟩:=hf1;obtain⟨e',he',hg⟩:=hf2;exact⟨e',by unfold Emb.upTo;rw[if_pos (hd _ _ he)];exact he',hg⟩
 |.nilFunc,_,_,_,hv=>hv
 |.ifc u a,va,v,ha,hv=>by
  rw[VR]at ha hv ⊢;obtain⟨v1,_,h1⟩:=ha;obtain⟨v2,hv,h2⟩:=hv;exact⟨v2,hv,VR.cut hd a _ _ h1 h2⟩
 |.nilIfc,_,_,_,hv=>hv
 |.someIfc,_,_,_,hv=>hv
 |.agg l,va,v,ha,hv=>by
  rw[VR]at ha hv ⊢;obtain⟨l1,_,h1⟩:=ha;obtain⟨l2,hv,h2⟩:=hv;exact⟨l2,hv,VRs.cut hd l _ _ h1 h2⟩
 |.tup l,va,v,ha,hv=>by
  rw[VR]at ha hv ⊢;obtain⟨l1,_,h1⟩:=ha;obtain⟨l2,hv,h2⟩:=hv;exact⟨l2,hv,VRs.cut hd l _ _ h1 h2⟩
theorem VRs.cut{ma m n}(hd:∀b e,ma b=some e->b<n):∀(l:List AV) (va vs:List Value),VRs ma l va->VRs m l vs->VRs (m.upTo n) l vs
 |[],_,_,_,hv=>hv
 |x::xs,va,vs,ha,hv=>by
  obtain⟨y1,ys1,_,a1,a2⟩:=VRs_cons.1 ha;obtain⟨y2,ys2,h,b1,b2⟩:=VRs_cons.1 hv;exact VRs_cons.2 ⟨y2,ys2,h,VR.cut hd x _ _ a1 b1,VRs.cut hd xs _ _ a2 b2⟩
end
def clos(n:Nat)(x:AV):Prop:=∃(ma:Emb) (va:Value),(∀b e,ma b=some e->b<n)/\VR ma x va
def closL(n:Nat)(l:List AV):Prop:=∃(ma:Emb) (va:List Value),(∀b e,ma b=some e->b<n)/\VRs ma l va
def closB(n:Nat):ABlk->Prop
 |.cells c _ _=>∀(i:Nat) (x:AV),c[i]? =some x->clos n x
 |.mapb es=>∀(i:Nat) (p:AV×AV),es[i]? =some p->clos n p.1/\clos n p.2
 |.loop _ _ ts _ _ _=>closL n ts
 |_=>True
def clos.mono{n k}(hnk:n<=k){x}(h:clos n x):clos k x:=by
 obtain⟨ma,va,h1,h2⟩:=h;exact⟨ma,va,λb e hb=>Nat.lt_of_lt_of_le (h1 b e hb) hnk,h2⟩
theorem closB.mono{n k}(hnk:n<=k){x}(h:closB n x):closB k x:=by
 cases x with
 |cells c mu tl=>exactλi x hx=>(h i x hx).mono hnk
 |mapb es=>exactλi p hp=>⟨(h i p hp).1.mono hnk,(h i p hp).2.mono hnk⟩
 |loop a b c d e f=>
  obtain⟨ma,va,h1,h2⟩:=h;exact⟨ma,va,λb e hb=>Nat.lt_of_lt_of_le (h1 b e hb) hnk,h2⟩
 |_=>trivial
def BR.clos{P m w e k n}(h:BR P m w e k)(hd:∀b e,m b=some e->b<n):closB n k:=by
 cases k with
 |cells c mu tl=>
  obtain⟨cc,el,fz,_,_,h3,_⟩:=h;intro i x hx;obtain⟨_,v,_,hv⟩:=h3 i x hx;exact⟨m,v,hd,hv⟩
 |mapb es=>
  obtain⟨_,ces,clock,_,_,h3⟩:=h;intro i p hp;obtain⟨q,_,h1,h2⟩:=h3 i p hp;exact⟨⟨m,_,hd,h1⟩,⟨m,_,hd,h2⟩⟩
 |loop st ex ts ps asg body=>
  obtain⟨_,fn,tmps,casg,cbody,df,_,h2,_⟩:=h;exact⟨m,_,hd,h2⟩
 |_=>trivial
theorem BR.cut{P m w e k n}(h:BR P m w e k)(hc:closB n k):BR P (m.upTo n) w e k:=by
 cases k with
 |cells c mu tl=>
  obtain⟨cc,el,fz,h1,h2,h3,h4⟩:=h;exact⟨cc,el,fz,h1,h2,λi x hx=>by
   obtain⟨ho,v,hv,hr⟩:=h3 i x hx;obtain⟨ma,va,hd,ha⟩:=hc i x hx;exact⟨ho,v,hv,VR.cut hd _ _ _ ha hr⟩,h4⟩
 |dead=>trivial
 |mapb es=>
  obtain⟨ho,ces,clock,h1,h2,h3⟩:=h;exact⟨ho,ces,clock,h1,h2,λi p hp=>by
   obtain⟨q,hq,ha,hb⟩:=h3 i p hp;obtain⟨⟨ma,va,hd,ha'⟩,⟨mb,vb,hd',hb'⟩⟩:=hc i p hp;exact⟨q,hq,VR.cut hd _ _ _ ha' ha,VR.cut hd' _ _ _ hb' hb⟩⟩
 |iter s pos=>exact h
 |loop st ex ts ps asg body=>
  obtain⟨ho,fn,tmps,casg,cbody,df,h1,h2,h3,h4⟩:=h;obtain⟨ma,va,hd,ha⟩:=hc;exact⟨ho,fn,tmps,casg,cbody,df,h1,VRs.cut hd _ _ _ ha h2,h3,h4⟩
structure Mid(P:Program)(l:List IOp)(T:Nat->TS)(H:Nat->AHeap)(m0:Emb)(w0:World)(S:Nat->Bool)(β θ:Nat)(m:Emb)(ta:Array Value)(w:World):Prop where
 βθ:β<=θ
 θn:θ<=l.length
 low:∀j,j<β->S j=true
 high:∀j,S j=true->j<θ
 quiet:∀j,β<=j->j<θ->∃g,H (j+1)=H j++g
 len:∀j,j<θ->(H j).length<=(H (j+1)).length
 hr:HR P m (H θ) w
 gap:∀j,j<θ->S j=false->∀b,(H j).length<=b->b<(H (j+1)).length->m b=none
 clos:∀i,β<=i->i<=θ->∀b e k,b<(H i).length->m b=some e->(H θ)[b]? =some k->closB (H i).length k
 apart:∀j,β<=j->j<θ->∀b b' e e',(H j).length<=b->b<(H (j+1)).length->¬((H j).length<=b'/\b'<(H (j+1)).length)->m b=some e->m b' =some e'->e.cb≠e'.cb
 grow:Grow m0 (H 0) w0 m (H θ) w
 size:ta.size=(T 0).length
 slotN:∀d,(∀j o,l[j]? =some o->S j=true->o.dst≠some d)->VR m0 ((T 0).getD d undefA) (ta.getD d undef)
 slotS:∀d j o,l[j]? =some o->S j=true->o.dst=some d->VR (m.upTo (H (j+1)).length) ((T (j+1)).getD d undefA) (ta.getD d undef)
theorem len_mono{H:Nat->AHeap}{θ:Nat}(h:∀j,j<θ->(H j).length<=(H (j+1)).length){i:Nat}:∀k,i+k<=θ->(H i).length<=(H (i+k)).length
 | 0,_=>Nat.le_refl _
 |k+1,hk=>Nat.le_trans (len_mono h k (by omega)) (h (i+k) (by omega))
def len_mono'{H:Nat->AHeap}{θ:Nat}(h:∀j,j<θ->(H j).length<=(H (j+1)).length){i j:Nat}(hij:i<=j)(hj:j<=θ):(H i).length<=(H j).length:=by
 have:=len_mono h (i:=i) (j-i) (by omega)
 rwa [show i+(j-i)=j from by omega]at this
theorem quiet_pre{H:Nat->AHeap}{β θ:Nat}(h:∀j,β<=j->j<θ->∃g,H (j+1)=H j++g){i:Nat}(hi:β<=i):∀k,i+k<=θ->∃g,H (i+k)=H i++g
 | 0,_=>⟨[],by simp⟩
 |k+1,hk=>by
  obtain⟨g,hg⟩:=quiet_pre h hi k (by omega);obtain⟨g',hg'⟩:=h (i+k) (by omega) (by omega);exact⟨g++g',by rw[show i+(k+1)=i+k+1 from by omega,hg',hg,List.append_assoc]⟩
def quiet_pre'{H:Nat->AHeap}{β θ:Nat}(h:∀j,β<=j->j<θ->∃g,H (j+1)=H j++g){i j:Nat}(hi:β<=i)(hij:i<=j)(hj:j<=θ):∃g,H j=H i++g:=by
 have:=quiet_pre h hi (j-i) (by omega)
 rwa [show i+(j-i)=j from by omega]at this
theorem group_of{H:Nat->AHeap}{i:Nat}:∀(k:Nat) {b:Nat},(H i).length<=b->b<(H (i+k)).length->∃j,i<=j/\j<i+k/\(H j).length<=b/\b<(H (j+1)).length
 | 0,b,h1,h2=>by simp at h2;omega
 |k+1,b,h1,h2=>by
  by_cases h:b<(H (i+k)).length
  ·obtain⟨j,a1,a2,a3⟩:=group_of k h1 h;exact⟨j,a1,by omega,a3⟩
  ·exact⟨i+k,by omega,by omega,by omega,by rw[show i+k+1=i+(k+1)from by omega];exact h2⟩
section
variable {P:Program}{m m1:Emb}{h:AHeap}{w:World}
def Emb.upTo_le(m:Emb)(n:Nat):(m.upTo n).le m:=by
 intro b e hb;unfold Emb.upTo at hb;split at hb
 ·exact hb
 ·cases hb
def Emb.upTo_mono(m:Emb){n k}(hnk:n<=k):(m.upTo n).le (m.upTo k):=by
 intro b e hb;unfold Emb.upTo at hb ⊢;split at hb
 ·rw[if_pos (by omega)];exact hb
 ·cases hb
theorem HR.upTo{g}(hr:HR P m (h++g) w)(hgl:P.globals.size<=h.length)(hc:∀b e k,b<h.length->m b=some e->h[b]? =some k->closB h.length k):HR P (m.upTo h.length) h w where
 dom:=λb e hb=>by unfold Emb.upTo at hb;split at hb<;>first|assumption|cases hb
 blk:=λb e k hb hk=>by
  unfold Emb.upTo at hb;split at hb
  case isFalse=>cases hb
  rename_i hlt;exact(hr.blk b e k hb (by rw[List.getElem?_append_left hlt];exact hk)).cut (hc b e k hlt hb hk)
 sep:=λb1 b2 e1 e2 k1 k2 hne h1 h2 hk1 hk2 hcb=>by
  have d1:b1<h.length:=(List.getElem?_eq_some_iff.1 hk1).1;have d2:b2<h.length:=(List.getElem?_eq_some_iff.1 hk2).1;exact hr.sep b1 b2 e1 e2 k1 k2 hne (Emb.upTo_le m _ _ _ h1) (Emb.upTo_le m _ _ _ h2) (by rw[List.getElem?_append_left d1];exact hk1) (by rw[List.getElem?_append_left d2];exact hk2) hcb
 glob:=λg hg=>by
  obtain⟨e,he,hx⟩:=hr.glob g hg;exact⟨e,by unfold Emb.upTo;rw[if_pos (by omega)];exact he,hx⟩
 lt:=λb e hb=>hr.lt b e (Emb.upTo_le m _ _ _ hb)
def HR.globs(hr:HR P m h w):P.globals.size<=h.length:=by
 by_cases hz:P.globals.size=0
 ·omega
 ·obtain⟨e,he,_⟩:=hr.glob (P.globals.size-1) (by omega);have:=hr.dom _ _ he;omega
variable {l:List IOp}{T:Nat->TS}{H:Nat->AHeap}{m0:Emb}{w0:World}{S:Nat->Bool}{β θ:Nat}{ta:Array Value}
def Mid.raise(M:Mid P l T H m0 w0 S β θ m ta w){θ':Nat}(h1:θ<=θ')(h2:θ'<=l.length)(hq:∀j,θ<=j->j<θ'->∃g,H (j+1)=H j++g):Mid P l T H m0 w0 S β θ' m ta w:=by
 have hq':∀j,β<=j->j<θ'->∃g,H (j+1)=H j++g:=λj hj hj'=>by
  by_cases hx:j<θ
  ·exact M.quiet j hj hx
  ·exact hq j (by omega) hj'
 have hlen:∀j,j<θ'->(H j).length<=(H (j+1)).length:=λj hj=>by
  by_cases hx:j<θ
  ·exact M.len j hx
  ·obtain⟨g,hg⟩:=hq j (by omega) hj;rw[hg];simp
 obtain⟨g,hg⟩:=quiet_pre' hq' M.βθ h1 (Nat.le_refl _);have hget:∀b,b<(H θ).length->(H θ')[b]? =(H θ)[b]? :=λb hb=>by rw[hg,List.getElem?_append_left hb]
 have hdom:∀b e,m b=some e->b<(H θ).length:=M.hr.dom;refine⟨Nat.le_trans M.βθ h1,h2,M.low,λj hj=>Nat.lt_of_lt_of_le (M.high j hj) h1,hq',hlen,⟨?_,?_,?_,M.hr.glob,M.hr.lt⟩,?_,?_,?_,⟨M.grow.ext,len_mono' hlen (Nat.zero_le _) (Nat.le_refl _),?_,?_,M.grow.size,M.grow.os,M.grow.out,M.grow.tape,M.grow.frame⟩,M.size,M.slotN,M.slotS⟩
 ·intro b e hb;have:=hdom b e hb;rw[hg];simp;omega
 ·intro b e k hb hk;exact M.hr.blk b e k hb (by rwa [hget b (hdom b e hb)]at hk)
 ·intro b1 b2 e1 e2 k1 k2 hne a1 a2 hk1 hk2 hcb;exact M.hr.sep b1 b2 e1 e2 k1 k2 hne a1 a2 (by rwa [hget b1 (hdom _ _ a1)]at hk1) (by rwa [hget b2 (hdom _ _ a2)]at hk2) hcb
 ·intro j hj hs b hb hb';by_cases hx:j<θ
  ·exact M.gap j hx hs b hb hb'
  ·cases hmb:m b with
   |none=>rfl
   |some e=>
    have a1:=hdom b e hmb;have a2:=len_mono' hlen (i:=θ) (j:=j) (by omega) (by omega);omega
 ·intro i hi hi' b e k hb hmb hk;rw[hget b (hdom b e hmb)]at hk;by_cases hx:i<=θ
  ·exact M.clos i hi hx b e k hb hmb hk
  ·have a2:=len_mono' hlen (i:=θ) (j:=i) (by omega) (by omega);exact(M.clos θ M.βθ (Nat.le_refl _) b e k (hdom b e hmb) hmb hk).mono a2
 ·intro j hj hj' b b' e e' hb hb1 hb' hmb hmb';by_cases hx:j<θ
  ·exact M.apart j hj hx b b' e e' hb hb1 hb' hmb hmb'
  ·have a1:=hdom b e hmb;have a2:=len_mono' hlen (i:=θ) (j:=j) (by omega) (by omega);omega
 ·intro b e hb hmb;obtain⟨ho,hc⟩:=M.grow.new b e hb hmb;refine⟨ho,hc.imp id ?_⟩;rintro⟨b0,e0,c1,c2,c3,c4,c5⟩;refine⟨b0,e0,c1,c2,c3,c4,?_⟩;have d0:b0<(H θ).length:=by
   cases hx:m0 b0 with
   |none=>rw[hx]at c1;cases c1
   |some e0'=>
    have:b0<(H 0).length:=by
     cases ht:(H 0)[b0]? with
     |none=>unfold tailOf at c4;rw[ht]at c4;cases c4
     |some k=>exact(List.getElem?_eq_some_iff.1 ht).1
    exact Nat.lt_of_lt_of_le this (len_mono' hlen (Nat.zero_le _) h1)
  unfold tailOf at c5 ⊢;rw[hget b0 d0];exact c5
 ·intro b hb ht;refine M.grow.tl b hb ?_;unfold tailOf at ht ⊢
  rwa [hget b (Nat.lt_of_lt_of_le hb (len_mono' hlen (Nat.zero_le _) h1))]at ht
end
end Go.Abs
namespace Go.Abs
def putA(ta:Array Value)(d:Option Nat)(cv:Value):Array Value:=
 match d with
 |some d=>ta.setIfInBounds d cv
 |none=>ta
def putA_size(ta:Array Value)(d:Option Nat)(cv:Value):(putA ta d cv).size=ta.size:=by cases d<;>simp[putA]
def putA_ne{ta d cv t}(h:d≠some t):(putA ta d cv).getD t undef=ta.getD t undef:=by
 cases d with
 |none=>rfl
 |some d=>
  have hne:d≠t:=λx=>h (by rw[x])
  simp[putA,Array.getD_eq_getD_getElem?,Array.getElem?_setIfInBounds_ne hne]
def put_ne{ts d v t}(h:d≠some t):(put ts d v).getD t undefA=ts.getD t undefA:=by
 cases d with
 |none=>rfl
 |some d=>
  have hne:d≠t:=λx=>h (by rw[x])
  simp[put,List.getD,List.getElem?_set_ne hne]
def put_same{m ts ta d v cv}(hs:ta.size=ts.length)(hv:VR m v cv):VR m ((put ts (some d) v).getD d undefA) ((putA ta (some d) cv).getD d undef):=by
 by_cases h:d<ts.length
 ·have h':d<ta.size:=by omega
  simp only[put,putA,List.getD,Array.getD_eq_getD_getElem?];rw[List.getElem?_set_self h,Array.getElem?_setIfInBounds_self_of_lt h'];exact hv
 ·have h':¬d<ta.size:=by omega
  simp only[put,putA,List.getD,Array.getD_eq_getD_getElem?];rw[List.getElem?_eq_none (by simp;omega),Array.getElem?_eq_none (by simp;omega)];exact undef_VR m
def mark(S:Nat->Bool)(i:Nat):Nat->Bool:=λj=>if j=i then true else S j
section
variable {P:Program}{l:List IOp}{T:Nat->TS}{H:Nat->AHeap}{m0 m m1:Emb}{w0 w w1:World}{S:Nat->Bool}{β θ i:Nat}{ta:Array Value}
def Mid.cut(M:Mid P l T H m0 w0 S β θ m ta w)(hG:P.globals.size<=(H 0).length)(hi:β<=i)(hi':i<=θ):HR P (m.upTo (H i).length) (H i) w:=by
 obtain⟨g,hg⟩:=quiet_pre' M.quiet hi hi' (Nat.le_refl _);have hr:HR P m (H i++g) w:=by rw[<-hg];exact M.hr
 refine hr.upTo (Nat.le_trans hG (len_mono' M.len (Nat.zero_le _) hi')) ?_;intro b e k hb hmb hk;exact M.clos i hi hi' b e k hb hmb (by rw[hg,List.getElem?_append_left hb];exact hk)
def Mid.next0(M:Mid P l T H m0 w0 S β θ m ta w)(hG:P.globals.size<=(H 0).length)(hi:β<=i)(hi':i<θ)(hS:S i=false){io}(hio:l[i]? =some io)
  (hr1:HR P m1 (H (i+1)) w1) (gext:∀b,b<(H i).length->m1 b=(m.upTo (H i).length) b) (hnew0:∀b e,(H i).length<=b->m1 b=some e->e.own=true/\w0.heap.size<=e.cb/\∀b' e',m b' =some e'->e'.cb≠e.cb)
  (hfr:∀x,x<w.heap.size->(∀b e,(m.upTo (H i).length) b=some e->e.own=true->e.cb≠x)->(∀b e,(H i).length<=b->m1 b=some e->e.cb≠x)->w1.heap[x]? =w.heap[x]?)
  (hsz:w.heap.size<=w1.heap.size) (hos:w1.os=w.os) (hout:w1.output=w.output) (htape:w1.tape=w.tape) {v}{cv}(hv:VR m1 v cv) (hTi:T (i+1)=put (T i) io.dst v) (hTl:(T i).length=(T 0).length)
  (huniq:∀j o d,j≠i->l[j]? =some o->o.dst=some d->io.dst≠some d):Mid P l T H m0 w0 (mark S i) β θ (m1.patch m (H (i+1)).length) (putA ta io.dst cv) w1:=by
 have hmono:∀a b,a<=b->b<=θ->(H a).length<=(H b).length:=λa b hab hb=>len_mono' M.len hab hb
 have hi1:=M.len i hi';have hi2:=hmono (i+1) θ (by omega) (Nat.le_refl _);have h0i:=hmono 0 i (by omega) (by omega);obtain⟨gi,hgi⟩:=M.quiet i hi hi';obtain⟨gt,hgt⟩:=quiet_pre' M.quiet (show β<=i+1 by omega) (show i+1<=θ by omega) (Nat.le_refl _);have f3:∀b,b<(H (i+1)).length->(m1.patch m (H (i+1)).length) b=m1 b:=λb hb=>by unfold Emb.patch;rw[if_pos hb]
 have f1:∀b,b<(H i).length->(m1.patch m (H (i+1)).length) b=m b:=λb hb=>by
  rw[f3 b (by omega),gext b hb];unfold Emb.upTo;rw[if_pos hb]
 have f2:∀b,(H (i+1)).length<=b->(m1.patch m (H (i+1)).length) b=m b:=λb hb=>by unfold Emb.patch;rw[if_neg (by omega)]
 have fgap:∀b,(H i).length<=b->b<(H (i+1)).length->m b=none:=M.gap i hi' hS;have mle:m.le (m1.patch m (H (i+1)).length):=λb e hb=>by
  by_cases h1:b<(H i).length
  ·rw[f1 b h1];exact hb
  ·by_cases h2:b<(H (i+1)).length
   ·rw[fgap b (by omega) h2]at hb;cases hb
   ·rw[f2 b (by omega)];exact hb
 have m1le:m1.le (m1.patch m (H (i+1)).length):=λb e hb=>by rw[f3 b (hr1.dom b e hb)];exact hb
 have hnew:∀b e,(H i).length<=b->b<(H (i+1)).length->(m1.patch m (H (i+1)).length) b=some e->e.own=true/\w0.heap.size<=e.cb/\∀b' e',m b' =some e'->e'.cb≠e.cb:=λb e hb hb' hm=>by
  rw[f3 b hb']at hm;exact hnew0 b e hb hm
 have hold:∀b e,m b=some e->e.cb<w.heap.size:=M.hr.lt;have hframe:∀b e,(H (i+1)).length<=b->m b=some e->w1.heap[e.cb]? =w.heap[e.cb]? :=λb e hb hm=>by
  refine hfr e.cb (hold b e hm) ?_ (λb0 e0 h0 h1 hcb=>(hnew0 b0 e0 h0 h1).2.2 b e hm hcb.symm);intro b0 e0 h0 ho hcb;have d0:b0<(H i).length:=by
   unfold Emb.upTo at h0;split at h0
   ·assumption
   ·cases h0
  obtain⟨j,j1,j2,j3,j4⟩:=group_of (H:=H) (i:=i+1) (θ-(i+1)) hb (by rw[show i+1+(θ-(i+1))=θ from by omega];exact M.hr.dom b e hm);have hj:=hmono i j (by omega) (by omega);exact M.apart j (by omega) (by omega) b b0 e e0 j3 j4 (λx=>by omega) hm (Emb.upTo_le m _ _ _ h0) hcb.symm
 have hget:∀b,b<(H (i+1)).length->(H θ)[b]? =(H (i+1))[b]? :=λb hb=>by rw[hgt,List.getElem?_append_left hb]
 have hcase:∀b e,(m1.patch m (H (i+1)).length) b=some e->((H i).length<=b/\b<(H (i+1)).length/\m1 b=some e)\/(¬((H i).length<=b/\b<(H (i+1)).length)/\m b=some e):=λb e hb=>by
  by_cases h1:b<(H i).length
  ·rw[f1 b h1]at hb;exact .inr ⟨by omega,hb⟩
  ·by_cases h2:b<(H (i+1)).length
   ·rw[f3 b h2]at hb;exact .inl ⟨by omega,h2,hb⟩
   ·rw[f2 b (by omega)]at hb;exact .inr ⟨by omega,hb⟩
 have hHR:HR P (m1.patch m (H (i+1)).length) (H θ) w1:=by
  refine⟨?_,?_,?_,?_,?_⟩
  ·intro b e hb;rcases hcase b e hb with⟨_,h2,_⟩|⟨_,h2⟩
   ·omega
   ·exact M.hr.dom b e h2
  ·intro b e k hb hk;by_cases h2:b<(H (i+1)).length
   ·rw[f3 b h2]at hb;exact(hr1.blk b e k hb (by rwa [hget b h2]at hk)).mono m1le
   ·rw[f2 b (by omega)]at hb;exact((M.hr.blk b e k hb hk).mono mle).heap (hframe b e (by omega) hb)
  ·intro b1 b2 e1 e2 k1 k2 hne hb1 hb2 hk1 hk2 hcb;rcases hcase b1 e1 hb1 with⟨a1,a2,a3⟩|⟨a1,a2⟩
   ·rcases hcase b2 e2 hb2 with⟨c1,c2,c3⟩|⟨c1,c2⟩
    ·exact hr1.sep b1 b2 e1 e2 k1 k2 hne a3 c3 (by rwa [hget b1 a2]at hk1) (by rwa [hget b2 c2]at hk2) hcb
    ·exact absurd hcb.symm ((hnew b1 e1 a1 a2 hb1).2.2 b2 e2 c2)
   ·rcases hcase b2 e2 hb2 with⟨c1,c2,c3⟩|⟨c1,c2⟩
    ·exact absurd hcb ((hnew b2 e2 c1 c2 hb2).2.2 b1 e1 a2)
    ·exact M.hr.sep b1 b2 e1 e2 k1 k2 hne a2 c2 hk1 hk2 hcb
  ·intro g hg;obtain⟨e,he,hx⟩:=M.hr.glob g hg;exact⟨e,mle _ _ he,hx⟩
  ·intro b e hb;rcases hcase b e hb with⟨_,_,h3⟩|⟨_,h2⟩
   ·exact hr1.lt b e h3
   ·exact Nat.lt_of_lt_of_le (hold b e h2) hsz
 refine⟨M.βθ,M.θn,?_,?_,M.quiet,M.len,hHR,?_,?_,?_,?_,by rw[putA_size];exact M.size,?_,?_⟩
 ·intro j hj;unfold mark;split
  ·rfl
  ·exact M.low j hj
 ·intro j hj;unfold mark at hj;split at hj
  ·omega
  ·exact M.high j hj
 ·intro j hj hs b hb hb';unfold mark at hs;split at hs
  ·cases hs
  rename_i hji;by_cases h1:b<(H i).length
  ·rw[f1 b h1];exact M.gap j hj hs b hb hb'
  ·by_cases h2:b<(H (i+1)).length
   ·by_cases hlt:j<i
    ·have:=hmono (j+1) i (by omega) (by omega);omega
    ·have:=hmono (i+1) j (by omega) (by omega);omega
   ·rw[f2 b (by omega)];exact M.gap j hj hs b hb hb'
 ·intro i2 hi2' hi2'' b e k hb hmb hk;rcases hcase b e hmb with⟨a1,a2,a3⟩|⟨_,a2⟩
  ·have hk':(H (i+1))[b]? =some k:=by rwa [hget b a2]at hk
   refine((hr1.blk b e k a3 hk').clos hr1.dom).mono ?_;by_cases hlt:i2<i+1
   ·have:=hmono i2 i (by omega) (by omega);omega
   ·exact hmono (i+1) i2 (by omega) hi2''
  ·exact M.clos i2 hi2' hi2'' b e k hb a2 hk
 ·intro j hj hj' b b' e e' hb hb1 hb' hmb hmb';rcases hcase b e hmb with⟨a1,a2,a3⟩|⟨a1,a2⟩
  ·rcases hcase b' e' hmb' with⟨c1,c2,c3⟩|⟨c1,c2⟩
   ·exfalso;by_cases hji:j=i
    ·subst hji;exact hb' ⟨c1,c2⟩
    ·by_cases hlt:j<i
     ·have:=hmono (j+1) i (by omega) (by omega);omega
     ·have:=hmono (i+1) j (by omega) (by omega);omega
   ·exactλhcb=>(hnew b e a1 a2 hmb).2.2 b' e' c2 hcb.symm
  ·rcases hcase b' e' hmb' with⟨c1,c2,c3⟩|⟨c1,c2⟩
   ·exact(hnew b' e' c1 c2 hmb').2.2 b e a2
   ·exact M.apart j hj hj' b b' e e' hb hb1 hb' a2 c2
 ·refine⟨λb hb=>(f1 b (by omega)).trans (M.grow.ext b hb),M.grow.len,?_,M.grow.tl,Nat.le_trans M.grow.size hsz,hos.trans M.grow.os,hout.trans M.grow.out,htape.trans M.grow.tape,?_⟩
  ·intro b e hb hmb;rcases hcase b e hmb with⟨a1,a2,_⟩|⟨_,a2⟩
   ·obtain⟨ho,hc⟩:=hnew b e a1 a2 hmb;exact⟨ho,.inl hc.1⟩
   ·exact M.grow.new b e hb a2
  ·intro x hx hno;refine(hfr x (Nat.lt_of_lt_of_le hx M.grow.size) ?_ (λb e hb hm hcb=>by have:=(hnew0 b e hb hm).2.1;omega)).trans (M.grow.frame x hx hno);intro b e hb ho hcb;have hmb:=Emb.upTo_le m _ _ _ hb;by_cases h1:b<(H 0).length
   ·exact hno b e (by rw[<-M.grow.ext b h1];exact hmb) ho hcb
   ·obtain⟨_,hc⟩:=M.grow.new b e (by omega) hmb;rcases hc with hc|⟨b0,e0,c1,c2,c3,_⟩
    ·omega
    ·exact hno b0 e0 c1 c3 (c2.trans hcb)
 ·intro d hd;have hne:io.dst≠some d:=hd i io hio (by simp[mark]);rw[putA_ne hne];refine M.slotN d λj o hj hs=>hd j o hj ?_
  unfold mark;split
  ·rfl
  ·exact hs
 ·intro d j o hj hs ho;by_cases hji:j=i
  ·subst hji;rw[hio]at hj;cases hj;rw[hTi,ho];have h1:m1.le ((m1.patch m (H (j+1)).length).upTo (H (j+1)).length):=λb e hb=>by
    have:=hr1.dom b e hb;unfold Emb.upTo;rw[if_pos this,f3 b this];exact hb
   exact put_same (by rw[hTl];exact M.size) (VR.mono h1 _ _ hv)
  ·have hs':S j=true:=by unfold mark at hs;rwa [if_neg hji]at hs
   rw[putA_ne (huniq j o d hji hj ho)];refine VR.mono ?_ _ _ (M.slotS d j o hj hs' ho);intro b e hb;unfold Emb.upTo at hb ⊢;split at hb
   ·rename_i hlt;rw[if_pos hlt];exact mle _ _ hb
   ·cases hb
def Mid.next(M:Mid P l T H m0 w0 S β θ m ta w)(hG:P.globals.size<=(H 0).length)(hi:β<=i)(hi':i<θ)(hS:S i=false){io}(hio:l[i]? =some io)
  (hr1:HR P m1 (H (i+1)) w1) (g1:Grow (m.upTo (H i).length) (H i) w m1 (H (i+1)) w1) {v}{cv}(hv:VR m1 v cv) (hTi:T (i+1)=put (T i) io.dst v) (hTl:(T i).length=(T 0).length)
  (huniq:∀j o d,j≠i->l[j]? =some o->o.dst=some d->io.dst≠some d):Mid P l T H m0 w0 (mark S i) β θ (m1.patch m (H (i+1)).length) (putA ta io.dst cv) w1:=by
 obtain⟨gi,hgi⟩:=M.quiet i hi hi';refine M.next0 hG hi hi' hS hio hr1 g1.ext (λb e hb hm=>?_) (λx hx h1 _=>g1.frame x hx h1) g1.size g1.os g1.out g1.tape hv hTi hTl huniq;obtain⟨ho,hc⟩:=g1.new b e hb hm;have hc':w.heap.size<=e.cb:=by
  rcases hc with hc|⟨b0,e0,c1,_,_,c4,c5⟩
  ·exact hc
  ·have d0:b0<(H i).length:=by
    unfold Emb.upTo at c1;split at c1
    ·assumption
    ·cases c1
   unfold tailOf at c4 c5;rw[hgi,List.getElem?_append_left d0]at c5;rw[c5]at c4;cases c4
 exact⟨ho,Nat.le_trans M.grow.size hc',λb' e' hb'=>by have:=M.hr.lt b' e' hb';omega⟩
def Mid.jump(M:Mid P l T H m0 w0 S β i m ta w)(hd0:∀b e,m0 b=some e->b<(H 0).length)(hall:∀j,j<i->S j=true)(hil:i<l.length){io}(hio:l[i]? =some io)
  (hr1:HR P m1 (H (i+1)) w1) (g1:Grow (m.upTo (H i).length) (H i) w m1 (H (i+1)) w1) {v}{cv}(hv:VR m1 v cv) (hTi:T (i+1)=put (T i) io.dst v) (hTl:(T i).length=(T 0).length)
  (huniq:∀j o d,j≠i->l[j]? =some o->o.dst=some d->io.dst≠some d):Mid P l T H m0 w0 (mark S i) (i+1) (i+1) m1 (putA ta io.dst cv) w1:=by
 have hm:m.upTo (H i).length=m:=by
  funext b;unfold Emb.upTo;split
  ·rfl
  ·cases hb:m b with
   |none=>rfl
   |some e=>exact absurd (M.hr.dom b e hb) (by assumption)
 rw[hm]at g1;have mle:m.le m1:=g1.le M.hr.dom;refine⟨Nat.le_refl _,hil,?_,?_,λj hj hj'=>absurd hj (by omega),?_,hr1,?_,?_,λj hj hj'=>absurd hj (by omega),M.grow.trans g1 hd0,by rw[putA_size];exact M.size,?_,?_⟩
 ·intro j hj;unfold mark;split
  ·rfl
  ·exact hall j (by omega)
 ·intro j hj;unfold mark at hj;split at hj
  ·omega
  ·have:=M.high j hj;omega
 ·intro j hj;by_cases hji:j=i
  ·subst hji;exact g1.len
  ·exact M.len j (by omega)
 ·intro j hj hs;unfold mark at hs;split at hs
  ·cases hs
  ·rw[hall j (by omega)]at hs;cases hs
 ·intro i2 hi2 hi2' b e k hb hmb hk;have:i2=i+1:=by omega
  subst this;exact(hr1.blk b e k hmb hk).clos hr1.dom
 ·intro d hd;have hne:io.dst≠some d:=hd i io hio (by simp[mark]);rw[putA_ne hne];refine M.slotN d λj o hj hs=>hd j o hj ?_
  unfold mark;split
  ·rfl
  ·exact hs
 ·intro d j o hj hs ho;by_cases hji:j=i
  ·subst hji;rw[hio]at hj;cases hj;rw[hTi,ho];have h1:m1.le (m1.upTo (H (j+1)).length):=λb e hb=>by
    have:=hr1.dom b e hb;unfold Emb.upTo;rw[if_pos this];exact hb
   exact put_same (by rw[hTl];exact M.size) (VR.mono h1 _ _ hv)
  ·have hs':S j=true:=by unfold mark at hs;rwa [if_neg hji]at hs
   rw[putA_ne (huniq j o d hji hj ho)];refine VR.mono ?_ _ _ (M.slotS d j o hj hs' ho);intro b e hb;unfold Emb.upTo at hb ⊢;split at hb
   ·rename_i hlt;rw[if_pos hlt];exact mle _ _ hb
   ·cases hb
end
end Go.Abs
namespace Go.Abs
section
variable {P:Program}{m m':Emb}{h g h':AHeap}{w w' w0:World}
theorem setL_whole:∀(l c pre:List AV),c.length=l.length->setL (pre++c) pre.length l=pre++l
 |[],c,pre,h=>by
  have:c=[]:=List.length_eq_zero_iff.1 h;subst this;rfl
 |x::l,[],pre,h=>by simp at h
 |x::l,y::c,pre,h=>by
  have e1:(pre++y::c).set pre.length x=(pre++[x])++c:=by
   rw[List.set_append_right _ _ (Nat.le_refl _),Nat.sub_self,List.append_assoc];rfl
  have e2:pre.length+1=(pre++[x]).length:=by simp
  show setL ((pre++y::c).set pre.length x) (pre.length+1) l=_;rw[e1,e2,setL_whole l c (pre++[x]) (by simpa using h),List.append_assoc];rfl
def Grow.forget(gr:Grow m h w m' (h++g) w'):Grow m h w (m'.upTo h.length) h w' where
 ext:=λb hb=>by unfold Emb.upTo;rw[if_pos hb];exact gr.ext b hb
 len:=Nat.le_refl _
 new:=λb e hb he=>by unfold Emb.upTo at he;rw[if_neg (by omega)]at he;cases he
 tl:=λb hb ht=>ht
 size:=gr.size
 os:=gr.os
 out:=gr.out
 tape:=gr.tape
 frame:=gr.frame
def HR.forget(hr:HR P m h w)(hr':HR P m' (h++g) w')(gr:Grow m h w m' (h++g) w'):HR P (m'.upTo h.length) h w':=
 hr'.upTo hr.globs λb e k hb hmb hk=>(hr.blk b e k (by rw[<-gr.ext b hb];exact hmb) hk).clos hr.dom
def HR.adopt(hr:HR P m h w){cb cc}{el:TypeId}{fz}(hb:w.heap[cb]? =some (.cells cc el fz))(hfz:∀i,i<=cc.size->¬(fz.1<=i/\i<fz.2))(hout:∀b e,m b=some e->e.cb≠cb)
  {c}{d}(hc:d+c.length=cc.size) (hv:∀(i:Nat) (x:AV),c[i]? =some x->x.one=true/\∃v,cc[d+i]? =some v/\VR m x v):HR P (m.add h.length ⟨cb,d,cc.size,true⟩) (h++[.cells c true false]) w:=by
 have hnone:m h.length=none:=by
  cases hx:m h.length with
  |none=>rfl
  |some y=>exact absurd (hr.dom _ _ hx) (by omega)
 have hle:m.le (m.add h.length ⟨cb,d,cc.size,true⟩):=Emb.add_le _ hnone;have hcase:∀b e,(m.add h.length ⟨cb,d,cc.size,true⟩) b=some e->(b=h.length/\e=⟨cb,d,cc.size,true⟩)\/(b<h.length/\m b=some e):=λb e hbe=>by
  unfold Emb.add at hbe;by_cases hx:b=h.length
  ·rw[if_pos hx]at hbe;cases hbe;exact .inl ⟨hx,rfl⟩
  ·rw[if_neg hx]at hbe;exact .inr ⟨hr.dom _ _ hbe,hbe⟩
 refine⟨λb e hbe=>?_,λb e k hbe hk=>?_,λb1 b2 e1 e2 k1 k2 hne h1 h2 hk1 hk2 hcb=>?_,λg hg=>?_,λb e hbe=>?_⟩
 ·rw[List.length_append];rcases hcase b e hbe with⟨rfl,_⟩|⟨hlt,_⟩
  ·simp
  ·simp;omega
 ·rcases hcase b e hbe with⟨rfl,rfl⟩|⟨hlt,hm⟩
  ·rw[List.getElem?_append_right (Nat.le_refl _),Nat.sub_self]at hk;cases hk;refine⟨cc,el,fz,hb,⟨by show d+_<=_;omega,by show d+_<=cc.size;omega,rfl⟩,λi x hx=>?_,λ_=>⟨rfl,λi hi=>hfz i (Nat.le_of_lt hi)⟩,λ_=>⟨rfl,λ_=>⟨by show cc.size=d+c.length;omega,hfz _ (Nat.le_refl _)⟩⟩⟩;obtain⟨ho,v,h1,h2⟩:=hv i x hx;exact⟨ho,v,h1,VR.mono hle _ _ h2⟩
  ·rw[List.getElem?_append_left hlt]at hk;exact(hr.blk b e k hm hk).mono hle
 ·rcases hcase b1 e1 h1 with⟨rfl,rfl⟩|⟨hl1,hm1⟩
  ·rcases hcase b2 e2 h2 with⟨rfl,rfl⟩|⟨hl2,hm2⟩
   ·exact absurd rfl hne
   ·exact absurd hcb.symm (hout b2 e2 hm2)
  ·rcases hcase b2 e2 h2 with⟨rfl,rfl⟩|⟨hl2,hm2⟩
   ·exact absurd hcb (hout b1 e1 hm1)
   ·rw[List.getElem?_append_left hl1]at hk1;rw[List.getElem?_append_left hl2]at hk2;exact hr.sep b1 b2 e1 e2 k1 k2 hne hm1 hm2 hk1 hk2 hcb
 ·obtain⟨e,he,hx⟩:=hr.glob g hg;exact⟨e,hle _ _ he,hx⟩
 ·rcases hcase b e hbe with⟨_,rfl⟩|⟨_,hm⟩
  ·exact(Array.getElem?_eq_some_iff.1 hb).1
  ·exact hr.lt b e hm
def conA_one{x}(h:conA x=true):x.one=true:=by cases x<;>first|rfl|cases h
def conA_VR{x v}(h:conA x=true)(hv:VR m x v)(m':Emb):VR m' x v:=by
 cases x<;>first|exact hv|cases h
def Pend(m:Emb)(w0 w:World)(zc:List AV)(cv:Value):Prop:=
 ∃(cb d:Nat) (cc:Array Value) (el:TypeId) (fz:Nat×Nat),cv=.pointer (some ⟨cb,d,none⟩)/\w.heap[cb]? =some (.cells cc el fz)/\d+zc.length=cc.size/\(∀i,i<=cc.size->¬(fz.1<=i/\i<fz.2))/\
  (∀(i:Nat) (x:AV),zc[i]? =some x->x.one=true/\∃v,cc[d+i]? =some v/\∀m:Emb,VR m x v)/\w0.heap.size<=cb/\∀b e,m b=some e->e.cb≠cb
def Pend.move{zc cv}(p:Pend m w0 w zc cv)(hh:∀cb d,cv=.pointer (some ⟨cb,d,none⟩)->cb<w.heap.size->(∀b e,m b=some e->e.cb≠cb)->w'.heap[cb]? =w.heap[cb]?)
  (hm:∀cb d,cv=.pointer (some ⟨cb,d,none⟩)->cb<w.heap.size->(∀b e,m b=some e->e.cb≠cb)->∀b e,m' b=some e->e.cb≠cb):Pend m' w0 w' zc cv:=by
 obtain⟨cb,d,cc,el,fz,h1,h2,h3,h4,h5,h6,h7⟩:=p;have hlt:cb<w.heap.size:=(Array.getElem?_eq_some_iff.1 h2).1;exact⟨cb,d,cc,el,fz,h1,by rw[hh cb d h1 hlt h7];exact h2,h3,h4,h5,h6,hm cb d h1 hlt h7⟩
def Pend.grow{zc cv}(p:Pend m w0 w zc cv)(gr:Grow (m.upTo h.length) h w m' h' w'):Pend m' w0 w' zc cv/\Pend (m'.patch m h'.length) w0 w' zc cv:=by
 have hh:∀cb d,cv=.pointer (some ⟨cb,d,none⟩)->cb<w.heap.size->(∀b e,m b=some e->e.cb≠cb)->w'.heap[cb]? =w.heap[cb]? :=λcb d _ hlt h7=>gr.frame cb hlt λb e he _=>h7 b e (Emb.upTo_le _ _ _ _ he)
 have hnew:∀cb,cb<w.heap.size->(∀b e,m b=some e->e.cb≠cb)->∀b e,m' b=some e->e.cb≠cb:=λcb hlt h7 b e he=>by
  by_cases hb:b<h.length
  ·rw[gr.ext b hb]at he;exact h7 b e (Emb.upTo_le _ _ _ _ he)
  ·obtain⟨_,hc⟩:=gr.new b e (by omega) he;rcases hc with hc|⟨b0,e0,c1,c2,_⟩
   ·omega
   ·rw[<-c2];exact h7 b0 e0 (Emb.upTo_le _ _ _ _ c1)
 refine⟨p.move hh λcb d _ hlt h7=>hnew cb hlt h7,p.move hh λcb d _ hlt h7 b e he=>?_⟩;unfold Emb.patch at he;split at he
 ·exact hnew cb hlt h7 b e he
 ·exact h7 b e he
end
structure PairAt(ops:Array Oper)(l:List IOp)(k s t:Nat)(z:AV)(n:Nat)(x:Opd):Prop where
 ks:k<s
 hk:l[k]? =some {dst:=some t,k:=.box (.c z),gd:=none,q:=true}
 hs:l[s]? =some {dst:=none,k:=.store n (.t t) x,gd:=none,q:=true}
 zn:z.cells.length=n
 zc:z.cells.all conA=true
 xt:∀u,x=.t u->u≠t/\looksB ops s u=true
 lt:looksB ops s t=true
 only:∀j,j<ops.size->j≠s->looksB ops j t=false
def storeOf_some{o n t x}(h:storeOf o=some (n,t,x)):o={dst:=none,k:=.store n (.t t) x,gd:=none,q:=true}:=by
 obtain⟨d,k,gd,q⟩:=o;unfold storeOf at h;split at h
 ·rename_i h1 h2 h3 h4;simp only at h1 h2 h3 h4;subst h1;subst h2;subst h3;subst h4;cases h;rfl
 ·cases h
def boxOf_some{o t z}(h:boxOf o=some (t,z)):o={dst:=some t,k:=.box (.c z),gd:=none,q:=true}:=by
 obtain⟨d,k,gd,q⟩:=o;unfold boxOf at h;split at h
 ·rename_i h1 h2 h3 h4;simp only at h1 h2 h3 h4;subst h1;subst h2;subst h3;subst h4;cases h;rfl
 ·cases h
def pairOk_spec{ops l k s}(hks:k<s)(h:pairOk ops l k s=true):∃t z n x,PairAt ops l k s t z n x:=by
 unfold pairOk at h;split at h
 case h_2=>cases h
 rename_i t z n t' x h1 h2;obtain⟨a,ha,hb⟩:=Option.bind_eq_some_iff.1 h1;obtain⟨b,hb1,hb2⟩:=Option.bind_eq_some_iff.1 h2;have e1:=boxOf_some hb;have e2:=storeOf_some hb2;subst e1;subst e2;simp only[Bool.and_eq_true,beq_iff_eq,List.all_eq_true,List.mem_range,Bool.or_eq_true,Bool.not_eq_true']at h;obtain⟨⟨⟨⟨⟨rfl,q2⟩,q3⟩,q4⟩,q5⟩,q6⟩:=h;refine⟨t,z,n,x,hks,ha,hb1,q2,List.all_eq_true.2 q3,λu hu=>?_,q5,λj hj hne=>(q6 j hj).resolve_left hne⟩;subst hu;simp only[Bool.and_eq_true,bne_iff_ne,ne_eq]at q4;exact q4
def PairAt.ok{ops l k s t z n x}(p:PairAt ops l k s t z n x):pairOk ops l k s=true:=by
 unfold pairOk;rw[p.hk,p.hs];simp only[Option.bind_some,boxOf,storeOf,Bool.and_eq_true,beq_iff_eq,List.all_eq_true,List.mem_range,Bool.or_eq_true,Bool.not_eq_true'];refine⟨⟨⟨⟨⟨trivial,p.zn⟩,List.all_eq_true.1 p.zc⟩,?_⟩,p.lt⟩,λj hj=>?_⟩
 ·cases x with
  |t u=>simp only[Bool.and_eq_true,bne_iff_ne,ne_eq];exact p.xt u rfl
  |_=>rfl
 ·by_cases hne:j=s
  ·exact .inl hne
  ·exact .inr (p.only j hj hne)
def nopI:IOp:={dst:=none,k:=.mov (.c (.bool false)),gd:=none,q:=true}
theorem fuse_get{ops l}:∀{r}{i j},(fuseL ops l i r)[j]? =(r[j]?).map (fuse1 ops l (i+j))
 |[],i,j=>by simp[fuseL]
 |o::r,i,0=>by simp[fuseL]
 |o::r,i,j+1=>by
  show(fuseL ops l (i+1) r)[j]? =_;rw[fuse_get,show i+1+j=i+(j+1) by omega];simp
theorem fuse_len{ops l}:∀{r}{i},(fuseL ops l i r).length=r.length
 |[],_=>rfl
 |o::r,i=>by simp[fuseL,fuse_len]
def fuse_cases{ops l}(hl:l.length=ops.size){j o}(ho:l[j]? =some o):
  (∃k t z n x,PairAt ops l k j t z n x/\fuse1 ops l j o={dst:=some t,k:=.boxn n x,gd:=none,q:=true})\/
  (∃s t z n x,PairAt ops l j s t z n x/\fuse1 ops l j o=nopI)\/
  (fuse1 ops l j o=o/\(∀k t z n x,¬PairAt ops l k j t z n x)/\(∀s t z n x,¬PairAt ops l j s t z n x)):=by
 unfold fuse1;split
 ·rename_i n t x hst;have e1:=storeOf_some hst;have hnb:∀s t z n x,¬PairAt ops l j s t z n x:=λs t' z n' x' p=>by
   have:=p.hk;rw[ho,e1]at this;cases this
  split
  ·rename_i k hk;unfold kOf at hk;have h1:=List.find?_some hk;have h2:=List.mem_range.1 (List.mem_of_find?_eq_some hk);obtain⟨t',z,n',x',p⟩:=pairOk_spec h2 h1;have:=p.hs;rw[ho,e1]at this;cases this;exact .inl ⟨k,_,z,_,_,p,rfl⟩
  ·rename_i hk;refine .inr (.inr ⟨rfl,λk t' z n' x' p=>?_,hnb⟩);unfold kOf at hk;exact List.find?_eq_none.1 hk k (List.mem_range.2 p.ks) p.ok
 ·rename_i hst;have hns:∀k t z n x,¬PairAt ops l k j t z n x:=λk t' z n' x' p=>by
   have:=p.hs;rw[ho]at this;cases this;simp[storeOf]at hst
  split
  ·rename_i y hbx;split
   ·rename_i s hs;unfold sOf at hs;have h1:=List.find?_some hs;simp only[Bool.and_eq_true,decide_eq_true_eq]at h1;obtain⟨t',z,n',x',p⟩:=pairOk_spec h1.1 h1.2;exact .inr (.inl ⟨s,t',z,n',x',p,rfl⟩)
   ·rename_i hs;refine .inr (.inr ⟨rfl,hns,λs t' z n' x' p=>?_⟩);unfold sOf at hs;refine List.find?_eq_none.1 hs s (List.mem_range.2 ((List.getElem?_eq_some_iff.1 p.hs).1)) ?_;simp only[Bool.and_eq_true,decide_eq_true_eq];exact⟨p.ks,p.ok⟩
  ·rename_i hbx;refine .inr (.inr ⟨rfl,hns,λs t' z n' x' p=>?_⟩);have:=p.hk;rw[ho]at this;cases this;simp[boxOf]at hbx
def apartV(v v':Value):Prop:=∀cb d cb' d',v=.pointer (some ⟨cb,d,none⟩)->v' =.pointer (some ⟨cb',d',none⟩)->cb≠cb'
theorem apartV.symm{v v'}(h:apartV v v'):apartV v' v:=λcb d cb' d' h1 h2 e=>h cb' d' cb d h2 h1 e.symm
structure PInv(ops:Array Oper)(l:List IOp)(w0:World)(S:Nat->Bool)(ta tmps:Array Value)(m:Emb)(w:World):Prop where
 size:tmps.size=ta.size
 ag:∀d,(∀k s z n x,PairAt ops l k s d z n x->S k=true->S s=false->False)->tmps.getD d undef=ta.getD d undef
 pd:∀k s t z n x,PairAt ops l k s t z n x->S k=true->S s=false->Pend m w0 w z.cells (tmps.getD t undef)
 dj:∀k s t z n x k' s' t' z' n' x',PairAt ops l k s t z n x->PairAt ops l k' s' t' z' n' x'->S k=true->S s=false->S k' =true->S s' =false->t≠t'->apartV (tmps.getD t undef) (tmps.getD t' undef)
section
variable {ops:Array Oper}{l:List IOp}{w0 w w':World}{S:Nat->Bool}{ta tmps:Array Value}{m m':Emb}
def putA_getD{ta d cv}(h:d<ta.size):(putA ta (some d) cv).getD d undef=cv:=by
 simp only[putA,Array.getD_eq_getD_getElem?];rw[Array.getElem?_setIfInBounds_self_of_lt h];rfl
def putA_agree{d cv t}(hs:tmps.size=ta.size)(h:tmps.getD t undef=ta.getD t undef):(putA tmps d cv).getD t undef=(putA ta d cv).getD t undef:=by
 by_cases hd:d=some t
 ·subst hd;by_cases ht:t<ta.size
  ·rw[putA_getD ht,putA_getD (by omega)]
  ·simp only[putA,Array.getD_eq_getD_getElem?];rw[Array.getElem?_eq_none (by simp;omega),Array.getElem?_eq_none (by simp;omega)]
 ·rw[putA_ne hd,putA_ne hd];exact h
def PInv.other(I:PInv ops l w0 S ta tmps m w){i d cv}(h1:∀k t z n x,¬PairAt ops l k i t z n x)(h2:∀s t z n x,¬PairAt ops l i s t z n x)(hd:∀k s t z n x,PairAt ops l k s t z n x->d≠some t)
  (hp:∀zc cv,Pend m w0 w zc cv->Pend m' w0 w' zc cv):PInv ops l w0 (mark S i) (putA ta d cv) (putA tmps d cv) m' w' where
 size:=by rw[putA_size,putA_size];exact I.size
 ag:=λt ht=>putA_agree I.size (I.ag t λk s z n x p hk hs=>ht k s z n x p (by unfold mark;split<;>first|rfl|exact hk) (by
  unfold mark;split
  ·rename_i e;subst e;exact absurd p (h1 _ _ _ _ _)
  ·exact hs))
 pd:=λk s t z n x p hk hs=>by
  have hki:k≠i:=λe=>h2 _ _ _ _ _ (e▸p)
  have hsi:s≠i:=λe=>h1 _ _ _ _ _ (e▸p)
  unfold mark at hk hs;rw[if_neg hki]at hk;rw[if_neg hsi]at hs;rw[putA_ne (hd _ _ _ _ _ _ p)];exact hp _ _ (I.pd k s t z n x p hk hs)
 dj:=λk s t z n x k' s' t' z' n' x' p p' hk hs hk' hs' hne=>by
  have hki:k≠i:=λe=>h2 _ _ _ _ _ (e▸p)
  have hsi:s≠i:=λe=>h1 _ _ _ _ _ (e▸p)
  have hki':k'≠i:=λe=>h2 _ _ _ _ _ (e▸p')
  have hsi':s'≠i:=λe=>h1 _ _ _ _ _ (e▸p')
  unfold mark at hk hs hk' hs';rw[if_neg hki]at hk;rw[if_neg hsi]at hs;rw[if_neg hki']at hk';rw[if_neg hsi']at hs';rw[putA_ne (hd _ _ _ _ _ _ p),putA_ne (hd _ _ _ _ _ _ p')];exact I.dj _ _ _ _ _ _ _ _ _ _ _ _ p p' hk hs hk' hs' hne
def Pairs(ops:Array Oper)(l:List IOp):Prop:=∀k s t z n x k' s' t' z' n' x',PairAt ops l k s t z n x->PairAt ops l k' s' t' z' n' x'->(t=t'->k=k'/\s=s')/\(k=k'->t=t')/\(s=s'->t=t')/\k≠s'
def PInv.make(U:Pairs ops l)(I:PInv ops l w0 S ta tmps m w){k s t n z x cv}(p0:PairAt ops l k s t z n x)(ht:t<tmps.size)(hss:S s=false)
  (hnew:Pend m' w0 w' z.cells cv) (hfar:∀cb d,cv=.pointer (some ⟨cb,d,none⟩)->w.heap.size<=cb) (hp:∀zc cv,Pend m w0 w zc cv->Pend m' w0 w' zc cv):PInv ops l w0 (mark S k) ta (putA tmps (some t) cv) m' w' where
 size:=by rw[putA_size];exact I.size
 ag:=λd hd=>by
  by_cases hdt:d=t
  ·subst hdt;exact(hd k s z n x p0 (by simp[mark]) (by
    have:s≠k:=Nat.ne_of_gt p0.ks;simp only[mark,if_neg this];exact hss)).elim
  ·rw[putA_ne (λe=>hdt (Option.some.inj e).symm)];refine I.ag d λk' s' z' n' x' p hk hs=>hd k' s' z' n' x' p (by unfold mark;split<;>first|rfl|exact hk) ?_
   have:s'≠k:=λe=>((U _ _ _ _ _ _ _ _ _ _ _ _ p0 p).2.2.2 e.symm)
   simp only[mark,if_neg this];exact hs
 pd:=λk' s' t' z' n' x' p hk hs=>by
  by_cases hkk:k' =k
  ·have e:=(U _ _ _ _ _ _ _ _ _ _ _ _ p0 p).2.1 hkk.symm;subst e;subst hkk;have hz:=p0.hk.symm.trans p.hk;have hz:z=z':=by cases hz;rfl
   subst hz;rw[putA_getD ht];exact hnew
  ·have hsk:s'≠k:=λe=>((U _ _ _ _ _ _ _ _ _ _ _ _ p0 p).2.2.2 e.symm)
   unfold mark at hk hs;rw[if_neg hkk]at hk;rw[if_neg hsk]at hs;have hne:t≠t':=λe=>hkk ((U _ _ _ _ _ _ _ _ _ _ _ _ p0 p).1 e).1.symm
   rw[putA_ne (λe=>hne (Option.some.inj e))];exact hp _ _ (I.pd _ _ _ _ _ _ p hk hs)
 dj:=λk1 s1 t1 z1 n1 x1 k2 s2 t2 z2 n2 x2 p1 p2 hk1 hs1 hk2 hs2 hne=>by
  have hold:∀k' s' t' z' n' x',PairAt ops l k' s' t' z' n' x'->k'≠k->mark S k k' =true->mark S k s' =false->t≠t'/\S k' =true/\S s' =false/\(putA tmps (some t) cv).getD t' undef=tmps.getD t' undef:=λk' s' t' z' n' x' p hkk hk hs=>by
   have hsk:s'≠k:=λe=>((U _ _ _ _ _ _ _ _ _ _ _ _ p0 p).2.2.2 e.symm)
   unfold mark at hk hs;rw[if_neg hkk]at hk;rw[if_neg hsk]at hs;have hne:t≠t':=λe=>hkk ((U _ _ _ _ _ _ _ _ _ _ _ _ p0 p).1 e).1.symm
   exact⟨hne,hk,hs,putA_ne (λe=>hne (Option.some.inj e))⟩
  have hfar':∀k' s' t' z' n' x',PairAt ops l k' s' t' z' n' x'->S k' =true->S s' =false->apartV cv (tmps.getD t' undef):=λk' s' t' z' n' x' p hk hs cb1 d1 cb2 d2 e1 e2=>by
   obtain⟨cb,d,cc,el,fz,q1,q2,_⟩:=I.pd _ _ _ _ _ _ p hk hs;rw[q1]at e2;cases e2;have:=hfar cb1 d1 e1;have:=(Array.getElem?_eq_some_iff.1 q2).1;omega
  by_cases h1:k1=k
  ·have e1:=(U _ _ _ _ _ _ _ _ _ _ _ _ p0 p1).2.1 h1.symm;by_cases h2:k2=k
   ·exact absurd (e1.symm.trans ((U _ _ _ _ _ _ _ _ _ _ _ _ p0 p2).2.1 h2.symm)) hne
   ·obtain⟨a1,a2,a3,a4⟩:=hold _ _ _ _ _ _ p2 h2 hk2 hs2;rw[a4,<-e1,putA_getD ht];exact hfar' _ _ _ _ _ _ p2 a2 a3
  ·obtain⟨b1,b2,b3,b4⟩:=hold _ _ _ _ _ _ p1 h1 hk1 hs1;by_cases h2:k2=k
   ·have e2:=(U _ _ _ _ _ _ _ _ _ _ _ _ p0 p2).2.1 h2.symm;rw[b4,<-e2,putA_getD ht];exact(hfar' _ _ _ _ _ _ p1 b2 b3).symm
   ·obtain⟨a1,a2,a3,a4⟩:=hold _ _ _ _ _ _ p2 h2 hk2 hs2;rw[a4,b4];exact I.dj _ _ _ _ _ _ _ _ _ _ _ _ p1 p2 b2 b3 a2 a3 hne
def PInv.fill(U:Pairs ops l)(I:PInv ops l w0 S ta tmps m w){k s t n z x}(p0:PairAt ops l k s t z n x)(ht:t<tmps.size)
  (hp:∀zc cv,apartV cv (tmps.getD t undef)->Pend m w0 w zc cv->Pend m' w0 w' zc cv) (hk:S k=true) (hs:S s=false):PInv ops l w0 (mark S s) (putA ta (some t) (tmps.getD t undef)) tmps m' w':=by
 have hold:∀k' s' t' z' n' x',PairAt ops l k' s' t' z' n' x'->mark S s k' =true->mark S s s' =false->t≠t'/\S k' =true/\S s' =false:=λk' s' t' z' n' x' p hk' hs'=>by
  have h1:k'≠s:=(U _ _ _ _ _ _ _ _ _ _ _ _ p p0).2.2.2;have h2:s'≠s:=λe=>by simp[mark,e]at hs'
  unfold mark at hk' hs';rw[if_neg h1]at hk';rw[if_neg h2]at hs';exact⟨λe=>h2 ((U _ _ _ _ _ _ _ _ _ _ _ _ p p0).1 e.symm).2,hk',hs'⟩
 refine⟨by rw[putA_size];exact I.size,λd hd=>?_,λk' s' t' z' n' x' p hk' hs'=>?_,λk1 s1 t1 z1 n1 x1 k2 s2 t2 z2 n2 x2 p1 p2 hk1 hs1 hk2 hs2 hne=>?_⟩
 ·by_cases hdt:d=t
  ·subst hdt;rw[putA_getD (by rw[<-I.size];exact ht)]
  ·rw[putA_ne (λe=>hdt (Option.some.inj e).symm)];refine I.ag d λk' s' z' n' x' p hk' hs'=>hd k' s' z' n' x' p (by unfold mark;split<;>first|rfl|exact hk') ?_
   have h2:s'≠s:=λe=>hdt ((U _ _ _ _ _ _ _ _ _ _ _ _ p p0).2.2.1 e)
   simp only[mark,if_neg h2];exact hs'
 ·obtain⟨a1,a2,a3⟩:=hold _ _ _ _ _ _ p hk' hs';exact hp _ _ (I.dj _ _ _ _ _ _ _ _ _ _ _ _ p p0 a2 a3 hk hs (Ne.symm a1)) (I.pd _ _ _ _ _ _ p a2 a3)
 ·obtain⟨a1,a2,a3⟩:=hold _ _ _ _ _ _ p1 hk1 hs1;obtain⟨b1,b2,b3⟩:=hold _ _ _ _ _ _ p2 hk2 hs2;exact I.dj _ _ _ _ _ _ _ _ _ _ _ _ p1 p2 a2 a3 b2 b3 hne
end
end Go.Abs
namespace Go.Abs
def slotsOk_spec{M ops}(h:slotsOk M ops=true){i j x y}(hij:i<j)(hx:ops[i]? =some x)(hy:ops[j]? =some y):
  (∀d,x.dst=some d->y.dst≠some d/\(d∈y.looksAt ops->ahead M i j=true))/\(∀d,y.dst=some d->d∈x.looksAt ops->ahead M i j=true):=by
 have hj:j<ops.size:=(Array.getElem?_eq_some_iff.1 hy).1;unfold slotsOk at h;rw[List.all_eq_true]at h;have h1:=h j (List.mem_range.2 hj);rw[List.all_eq_true]at h1;have h2:=h1 i (List.mem_range.2 hij);rw[hx,hy]at h2;simp only[Bool.and_eq_true]at h2;obtain⟨h3,h4⟩:=h2;constructor
 ·intro d hd;rw[hd]at h3;simp only[Bool.and_eq_true,bne_iff_ne,ne_eq,Bool.or_eq_true,Bool.not_eq_true',List.contains_eq_mem,decide_eq_false_iff_not]at h3;exact⟨h3.1,λhl=>h3.2.resolve_left (λhx=>hx hl)⟩
 ·intro d hd hl;rw[hd]at h4;simp only[Bool.or_eq_true,Bool.not_eq_true',List.contains_eq_mem,decide_eq_false_iff_not]at h4;exact h4.resolve_left (λhx=>hx hl)
def edgesOk_spec{M ops}(h:edgesOk M ops=true){j o}(ho:ops[j]? =some o):
  (∀e∈o.after,Region.binds .any e=true->e.on<j)/\(∀i,i<ops.size->ahead M i j=true->∃e∈o.after,Region.binds .any e=true/\(e.on=i\/ahead M i e.on=true)):=by
 have hj:j<ops.size:=(Array.getElem?_eq_some_iff.1 ho).1;unfold edgesOk at h;rw[List.all_eq_true]at h;have h1:=h j (List.mem_range.2 hj);rw[ho]at h1;simp only[Bool.and_eq_true]at h1;obtain⟨h2,h3⟩:=h1;constructor
 ·intro e he hb;rw[List.all_eq_true]at h2;have:=h2 e (by simpa using he);simp only[hb,Bool.not_true,Bool.false_or,decide_eq_true_eq]at this;exact this
 ·intro i hi ha;rw[List.all_eq_true]at h3;have:=h3 i (List.mem_range.2 hi);simp only[ha,Bool.not_true,Bool.false_or,List.any_eq_true,Bool.and_eq_true,Bool.or_eq_true,beq_iff_eq]at this;obtain⟨e,he,hb,hor⟩:=this;exact⟨e,by simpa using he,hb,hor⟩
def barrier_spec{M n j}(h:barrier M n j=true){i}(hi:i<n)(hne:i≠j):(i<j->ahead M i j=true)/\(j<i->ahead M j i=true):=by
 unfold barrier at h;rw[List.all_eq_true]at h;have h1:=h i (List.mem_range.2 hi);simp only[Bool.or_eq_true,beq_iff_eq]at h1;have h2:=h1.resolve_left hne;constructor
 ·intro hlt;rwa [if_pos hlt]at h2
 ·intro hlt;rwa [if_neg (by omega)]at h2
theorem T_same{T:Nat->TS}{t:Nat}{a:Nat}:∀k,(∀j,a<=j->j<a+k->∃d v,T (j+1)=put (T j) d v/\d≠some t)->(T (a+k)).getD t undefA=(T a).getD t undefA
 | 0,_=>rfl
 |k+1,h=>by
  obtain⟨d,v,h1,h2⟩:=h (a+k) (by omega) (by omega);rw[show a+(k+1)=a+k+1 from by omega,h1,put_ne h2];exact T_same k λj h3 h4=>h j h3 (by omega)
def mark_eq{listed:Array Bool}{i:Nat}(hi:i<listed.size):(λj=>(listed.setIfInBounds i true).getD j false)=mark (λj=>listed.getD j false) i:=by
 funext j;unfold mark;exact getD_set_iff hi
def ready_mem{ops listed}(hs:listed.size=ops.size){i}:i∈Region.ready .any ops listed↔∃o,ops[i]? =some o/\listed.getD i false=false/\∀e∈o.after,Region.binds .any e=true->listed.getD e.on false=true:=by
 unfold Region.ready;simp only[List.mem_filter,List.mem_range,Bool.and_eq_true,Bool.not_eq_true'];constructor
 ·rintro⟨hi,hl,ha⟩;have ho:ops[i]? =some ops[i]:=Array.getElem?_eq_getElem hi;refine⟨ops[i],ho,?_,?_⟩
  ·simp only[Array.getD_eq_getD_getElem?,Array.getElem?_eq_getElem (show i<listed.size by omega),Option.getD_some]at hl ⊢;exact hl
  ·rw[ho]at ha;simp only[Option.map_some,Option.getD_some,Array.all_eq_true_iff_forall_mem,Bool.or_eq_true,Bool.not_eq_true']at ha;intro e he hb;exact(ha e he).resolve_left (by simp[hb])
 ·rintro⟨o,ho,hl,ha⟩;have hi:i<ops.size:=(Array.getElem?_eq_some_iff.1 ho).1;refine⟨hi,?_,?_⟩
  ·simp only[Array.getD_eq_getD_getElem?,Array.getElem?_eq_getElem (show i<listed.size by omega),Option.getD_some]at hl ⊢;exact hl
  ·rw[ho];simp only[Option.map_some,Option.getD_some,Array.all_eq_true_iff_forall_mem,Bool.or_eq_true,Bool.not_eq_true'];intro e he;cases hb:Region.binds .any e with
   |true=>exact .inr (ha e he hb)
   |false=>exact .inl rfl
def ready_nil{M ops}(he:edgesOk M ops=true){listed}(hs:listed.size=ops.size)(hr:Region.ready .any ops listed=[]):∀i,i<ops.size->listed.getD i false=true:=by
 intro i
 induction i using Nat.strongRecOn with
 |_ i ih=>
  intro hi;cases hl:listed.getD i false with
  |true=>rfl
  |false=>
   have:i∈Region.ready .any ops listed:=by
    have ho:ops[i]? =some ops[i]:=Array.getElem?_eq_getElem hi;refine(ready_mem hs).2 ⟨ops[i],ho,hl,λe hee hb=>?_⟩;have:=(edgesOk_spec he ho).1 e hee hb;exact ih e.on this (by omega)
   rw[hr]at this;cases this
def ready_all{ops listed}(hs:listed.size=ops.size)(h:∀i,i<ops.size->listed.getD i false=true):Region.ready .any ops listed=[]:=by
 cases hr:Region.ready .any ops listed with
 |nil=>rfl
 |cons x xs=>
  have:x∈Region.ready .any ops listed:=by rw[hr];simp
  obtain⟨o,ho,hl,_⟩:=(ready_mem hs).1 this;rw[h x (Array.getElem?_eq_some_iff.1 ho).1]at hl;cases hl
def region_draw{P:Program}(hmix:P.follows .mixedOrders=true){ops:Array Oper}{l:List IOp}(hc:compileRegion P ops true=some l){ts ts':TS}{h h':AHeap}(hs:IOps P l ts h ts' h'){m:Emb}{a:Act}{w:World}
  (st:St P m ts h a w) (ro:Option Nat) (Q:Exit->Act->World->Prop) (hQ:∀m' a' w',St P m' ts' h' a' w'->Grow m h w m' h' w'->a'.defers=a.defers->Q .normal a' w') (id:Nat):
  (Code.region id ops true).wpIn (Fd ro) 0 P Q a w:=by
 refine wpIn_region_any hmix ?_;obtain⟨T,H,rfl,rfl,rfl,rfl,hrow⟩:=hs.row;simp only[compileRegion,if_true]at hc;split at hc
 case isFalse=>cases hc
 rename_i hok;simp only[Bool.and_eq_true]at hok;obtain⟨hed,hsl⟩:=hok;obtain⟨l0,hc,hl⟩:=Option.map_eq_some_iff.1 hc;obtain⟨hlen0,hget⟩:=zipMapM_get hc;simp only[Array.length_toList]at hlen0;have hlen:l.length=ops.size:=by rw[<-hl,fuse_len,hlen0]
 have hget0:∀j o,ops[j]? =some o->∃io,l0[j]? =some io/\compileOp P ops (!barrier (Region.before ops) ops.size j) o=some io:=λj o ho=>by
  obtain⟨y,h1,h2⟩:=hget j o (by simpa using ho);exact⟨y,h1,by rwa [Nat.zero_add]at h2⟩
 have hback0:∀j io,l0[j]? =some io->∃o,ops[j]? =some o/\compileOp P ops (!barrier (Region.before ops) ops.size j) o=some io:=λj io hj=>by
  have hlt:j<ops.size:=by have:=(List.getElem?_eq_some_iff.1 hj).1;omega
  have ho:ops[j]? =some ops[j]:=Array.getElem?_eq_getElem hlt;obtain⟨io',h1,h2⟩:=hget0 j _ ho;rw[hj]at h1;cases h1;exact⟨_,ho,h2⟩
 have hcls:∀(j:Nat) (io:IOp),l[j]? =some io->(∃k t z n x,PairAt ops l0 k j t z n x/\io={dst:=some t,k:=.boxn n x,gd:=none,q:=true})\/(∃s t z n x,PairAt ops l0 j s t z n x/\io=nopI)\/
   ((∃o,ops[j]? =some o/\compileOp P ops (!barrier (Region.before ops) ops.size j) o=some io)/\(∀k t z n x,¬PairAt ops l0 k j t z n x)/\(∀s t z n x,¬PairAt ops l0 j s t z n x)):=λj io hj=>by
  rw[<-hl,fuse_get,Nat.zero_add]at hj;obtain⟨io0,h0,rfl⟩:=Option.map_eq_some_iff.1 hj;rcases fuse_cases hlen0 h0 with⟨k,t,z,n,x,p,e⟩|⟨s,t,z,n,x,p,e⟩|⟨e,n1,n2⟩
  ·exact .inl ⟨k,t,z,n,x,p,e⟩
  ·exact .inr (.inl ⟨s,t,z,n,x,p,e⟩)
  ·rw[e];exact .inr (.inr ⟨hback0 j io0 h0,n1,n2⟩)
 have hdU:∀(i j:Nat) (oi oj:Oper) (d:Nat),ops[i]? =some oi->ops[j]? =some oj->oi.dst=some d->oj.dst=some d->i=j:=λi j oi oj d hi hj h1 h2=>by
  by_cases hlt:i<j
  ·exact absurd h2 ((slotsOk_spec hsl hlt hi hj).1 d h1).1
  ·by_cases hgt:j<i
   ·exact absurd h1 ((slotsOk_spec hsl hgt hj hi).1 d h2).1
   ·omega
 have hpk:∀{k s t:Nat}{z:AV}{n:Nat}{x:Opd},PairAt ops l0 k s t z n x->∃o,ops[k]? =some o/\o.dst=some t/\compileOp P ops (!barrier (Region.before ops) ops.size k) o=some {dst:=some t,k:=.box (.c z),gd:=none,q:=true}:=λp=>by
  obtain⟨o,h1,h2⟩:=hback0 _ _ p.hk;exact⟨o,h1,(compileOp_dst h2).1.symm,h2⟩
 have hps:∀{k s t:Nat}{z:AV}{n:Nat}{x:Opd},PairAt ops l0 k s t z n x->∃o,ops[s]? =some o/\o.dst=none/\compileOp P ops (!barrier (Region.before ops) ops.size s) o=some {dst:=none,k:=.store n (.t t) x,gd:=none,q:=true}:=λp=>by
  obtain⟨o,h1,h2⟩:=hback0 _ _ p.hs;exact⟨o,h1,(compileOp_dst h2).1.symm,h2⟩
 have hlooks:∀{j t:Nat}{o:Oper},ops[j]? =some o->looksB ops j t=true->t∈o.looksAt ops:=λho h=>by
  unfold looksB at h;rw[ho]at h
  simpa using h
 have hlooks':∀{j t:Nat}{o:Oper},ops[j]? =some o->t∈o.looksAt ops->looksB ops j t=true:=λho h=>by
  unfold looksB;rw[ho]
  simpa using h
 have hsz:∀{j:Nat}{o:Oper},ops[j]? =some o->j<ops.size:=λho=>(Array.getElem?_eq_some_iff.1 ho).1
 have U:Pairs ops l0:=λk s t z n x k' s' t' z' n' x' p p'=>by
  refine⟨λe=>?_,λe=>?_,λe=>?_,λe=>?_⟩
  ·subst e;obtain⟨o,h1,h2,_⟩:=hpk p;obtain⟨o',h1',h2',_⟩:=hpk p';refine⟨hdU _ _ _ _ _ h1 h1' h2 h2',?_⟩;by_cases hs:s=s'
   ·exact hs
   ·obtain⟨os,hs1,_⟩:=hps p';have:=p.only s' (hsz hs1) (Ne.symm hs);rw[p'.lt]at this;cases this
  ·subst e;have:=p.hk.symm.trans p'.hk;cases this;rfl
  ·subst e;have:=p.hs.symm.trans p'.hs;cases this;rfl
  ·subst e;have:=p.hk.symm.trans p'.hs;cases this
 have hpt:∀{i:Nat}{o:Oper}{t:Nat},ops[i]? =some o->t∈o.looksAt ops->∀k s z n x,PairAt ops l0 k s t z n x->i=s:=λ{i o t} ho ht k s z n x p=>by
  by_cases hi:i=s
  ·exact hi
  ·have:=p.only _ (hsz ho) hi;rw[hlooks' ho ht]at this;cases this
 have hdst:∀(j:Nat) (io:IOp) (d:Nat),l[j]? =some io->io.dst=some d->(∃o,ops[j]? =some o/\o.dst=some d/\(∀k t z n x,¬PairAt ops l0 k j t z n x)/\(∀s t z n x,¬PairAt ops l0 j s t z n x))\/(∃k z n x,PairAt ops l0 k j d z n x):=λj io d hj hd=>by
  rcases hcls j io hj with⟨k,t,z,n,x,p,e⟩|⟨s,t,z,n,x,p,e⟩|⟨⟨o,h1,h2⟩,n1,n2⟩
  ·rw[e]at hd;cases hd;exact .inr ⟨k,z,n,x,p⟩
  ·rw[e]at hd;cases hd
  ·exact .inl ⟨o,h1,by rw[<- (compileOp_dst h2).1];exact hd,n1,n2⟩
 have hTstep:∀j io,l[j]? =some io->∃v,T (j+1)=put (T j) io.dst v:=λj io hj=>(hrow.step j io hj).1.put
 have hTl:∀j,j<=l.length->(T j).length=(T 0).length:=by
  intro j
  induction j with
  |zero=>intro _;rfl
  |succ j ih=>
   intro hj;obtain⟨v,hv⟩:=hTstep j _ (List.getElem?_eq_getElem (show j<l.length by omega));rw[hv,put_length];exact ih (by omega)
 have hG:P.globals.size<=(H 0).length:=st.hr.globs;have huniq:∀(i:Nat) (io:IOp),l[i]? =some io->∀(j:Nat) (o:IOp) (d:Nat),j≠i->l[j]? =some o->o.dst=some d->io.dst≠some d:=by
  intro i io hi j o d hne hj hd hd';rcases hdst j o d hj hd with⟨oj,a1,a2,a3,a4⟩|⟨k,z,n,x,p⟩
  ·rcases hdst i io d hi hd' with⟨oi,b1,b2,b3,b4⟩|⟨k',z',n',x',p'⟩
   ·exact hne (hdU _ _ _ _ _ a1 b1 a2 b2)
   ·obtain⟨ok,h1,h2,_⟩:=hpk p';have e:=hdU _ _ _ _ _ a1 h1 a2 h2;subst e;exact a4 _ _ _ _ _ p'
  ·rcases hdst i io d hi hd' with⟨oi,b1,b2,b3,b4⟩|⟨k',z',n',x',p'⟩
   ·obtain⟨ok,h1,h2,_⟩:=hpk p;have e:=hdU _ _ _ _ _ b1 h1 b2 h2;subst e;exact b4 _ _ _ _ _ p
   ·exact hne ((U _ _ _ _ _ _ _ _ _ _ _ _ p p').1 rfl).2
 have hTsame:∀a b t,a<=b->b<=l.length->(∀(j:Nat) (o:IOp),a<=j->j<b->l[j]? =some o->o.dst≠some t)->(T b).getD t undefA=(T a).getD t undefA:=by
  intro a b t hab hb hno;have:=T_same (T:=T) (t:=t) (a:=a) (b-a) (λj h1 h2=>by
   have hj:l[j]? =some (l[j]'(by omega)):=List.getElem?_eq_getElem (by omega);obtain⟨v,hv⟩:=hTstep j _ hj;exact⟨_,v,hv,hno j _ h1 (by omega) hj⟩)
  rwa [show a+(b-a)=b from by omega]at this
 have hqt:∀(j:Nat) (io:IOp),l[j]? =some io->barrier (Region.before ops) ops.size j=false->io.q=true:=λj io hj hb=>by
  rcases hcls j io hj with⟨k,t,z,n,x,p,e⟩|⟨s,t,z,n,x,p,e⟩|⟨⟨o,h1,h2⟩,n1,n2⟩
  ·rw[e]
  ·rw[e];rfl
  ·rw[(compileOp_dst h2).2,hb];rfl
 have hdone:∀(listed:Array Bool) (β θ:Nat) (m1:Emb) (ta:Array Value) (a1:Act) (w1:World),(∀i,i<ops.size->listed.getD i false=true)->
   Mid P l T H m w (λj=>listed.getD j false) β θ m1 ta w1->PInv ops l0 w (λj=>listed.getD j false) ta a1.tmps m1 w1->a1.defers=a.defers->Q .normal a1 w1:=by
  intro listed β θ m1 ta a1 w1 hall M I hd;have hθ:θ=l.length:=by
   have h1:=M.θn;by_cases hz:l.length=0
   ·omega
   ·have:=M.high (l.length-1) (hall _ (by omega));omega
  subst hθ;refine hQ m1 a1 w1 ⟨M.hr,VRs.of_get ?_ ?_⟩ M.grow hd
  ·have:=M.size;have:=I.size;have:=hTl l.length (Nat.le_refl _);simp;omega
  ·intro t x hx;have hlt:=(List.getElem?_eq_some_iff.1 hx).1;have hlt':t<a1.tmps.size:=by have:=M.size;have:=I.size;have:=hTl l.length (Nat.le_refl _);omega
   have ex:(T l.length).getD t undefA=x:=by simp[List.getD,hx]
   have ey:a1.tmps.getD t undef=a1.tmps[t]:=by simp[Array.getD_eq_getD_getElem?,Array.getElem?_eq_getElem hlt']
   have eg:a1.tmps.getD t undef=ta.getD t undef:=I.ag t λk s z n x p _ hs=>by
    obtain⟨os,hs1,_⟩:=hps p;rw[hall s (hsz hs1)]at hs;cases hs
   refine⟨a1.tmps[t],by simp,?_⟩;rw[<-ex,<-ey,eg];by_cases hw:∃(j:Nat) (o:IOp),l[j]? =some o/\o.dst=some t
   ·obtain⟨j,o,hj,ho⟩:=hw;have hjl:=(List.getElem?_eq_some_iff.1 hj).1;have h1:=M.slotS t j o hj (hall j (by omega)) ho;rw[hTsame (j+1) l.length t (by omega) (Nat.le_refl _) (λk o' h2 h3 h4 h5=>huniq j o hj k o' t (by omega) h4 h5 ho)];exact VR.mono (Emb.upTo_le _ _) _ _ h1
   ·rw[hTsame 0 l.length t (by omega) (Nat.le_refl _) (λk o' _ _ h4 h5=>hw ⟨k,o',h4,h5⟩)];exact VR.mono (M.grow.le st.hr.dom) _ _ (M.slotN t (λj o hj _ ho=>hw ⟨j,o,hj,ho⟩))
 have key:∀(fuel:Nat) (listed:Array Bool) (β θ:Nat) (m1:Emb) (ta:Array Value) (a1:Act) (w1:World),listed.size=ops.size->unl listed ops.size<=fuel->
   (∀j x,listed.getD j false=true->x<ops.size->ahead (Region.before ops) x j=true->listed.getD x false=true)->
   Mid P l T H m w (λj=>listed.getD j false) β θ m1 ta w1->PInv ops l0 w (λj=>listed.getD j false) ta a1.tmps m1 w1->a1.defers=a.defers->wpAnyIn (Fd ro) 0 P .any ops Q fuel listed a1 w1:=by
  intro fuel
  induction fuel with
  |zero=>
   intro listed β θ m1 ta a1 w1 hsz' hu hcl M I hd;have hall:=unl_zero ops.size (show unl listed ops.size=0 by omega);exact⟨ready_all hsz' hall,hdone listed β θ m1 ta a1 w1 hall M I hd⟩
  |succ fuel ih=>
   intro listed β θ m1 ta a1 w1 hsz' hu hcl M I hd;refine⟨λhr=>hdone listed β θ m1 ta a1 w1 (ready_nil hed hsz' hr) M I hd,λi hi=>?_⟩;obtain⟨o,ho,hli,hed'⟩:=(ready_mem hsz').1 hi;have hin:i<ops.size:=(Array.getElem?_eq_some_iff.1 ho).1;have hio:l[i]? =some (l[i]'(by omega)):=List.getElem?_eq_getElem (by omega);generalize l[i]'(by omega)=io at hio;obtain⟨hst,hq⟩:=hrow.step i io hio;have hahead:∀x,x<ops.size->ahead (Region.before ops) x i=true->listed.getD x false=true:=λx hx ha=>by
    obtain⟨e,he,hb,hor⟩:=(edgesOk_spec hed ho).2 x hx ha;have hle:=hed' e he hb;rcases hor with rfl|hor
    ·exact hle
    ·exact hcl e.on x hle hx hor
   have hβi:β<=i:=by
    by_cases hx:i<β
    ·have:=M.low i hx;simp only[hli]at this;cases this
    ·omega
   have hcl':∀j x,(listed.setIfInBounds i true).getD j false=true->x<ops.size->ahead (Region.before ops) x j=true->(listed.setIfInBounds i true).getD x false=true:=by
    intro j x hj hx ha;rw[getD_set_iff (by omega)]at hj ⊢;split
    ·rfl
    ·split at hj
     ·rename_i hji;subst hji;exact hahead x hx ha
     ·exact hcl j x hj hx ha
   have hu':unl (listed.setIfInBounds i true) ops.size<=fuel:=by
    have:=unl_lt (listed:=listed) (by omega) hli ops.size hin;omega
   have hslot:∀(β' θ':Nat),Mid P l T H m w (λj=>listed.getD j false) β' θ' m1 ta w1->i<=θ'->∀t,t∈o.looksAt ops->(∀k s z n x,¬PairAt ops l0 k s t z n x)->VR (m1.upTo (H i).length) ((T i).getD t undefA) (ta.getD t undef):=by
    intro β' θ' M' hi' t ht hnp;have h0i:=len_mono' M'.len (Nat.zero_le i) hi';by_cases hex:∃(x:Nat) (ox:IOp),l[x]? =some ox/\listed.getD x false=true/\ox.dst=some t
    ·obtain⟨x,ox,hx,hxl,hxd⟩:=hex;rcases hdst x ox t hx hxd with⟨oo,hoo,hxd',_⟩|⟨k,z,n,y,p⟩
     ·have hxn:x<ops.size:=(Array.getElem?_eq_some_iff.1 hoo).1;have hxi:x<i:=by
       by_cases h1:x=i
       ·subst h1;rw[hli]at hxl;cases hxl
       ·by_cases h2:x<i
        ·exact h2
        ·have h3:=(slotsOk_spec hsl (show i<x by omega) ho hoo).2 t hxd' ht;have h4:=hcl x i hxl hin h3;rw[hli]at h4;cases h4
      have h1:=M'.slotS t x ox hx hxl hxd;rw[hTsame (x+1) i t (by omega) (by omega) (λk o' h2 h3 h4 h5=>huniq x ox hx k o' t (by omega) h4 h5 hxd)];exact VR.mono (Emb.upTo_mono _ (len_mono' M'.len (by omega) hi')) _ _ h1
     ·exact absurd p (hnp _ _ _ _ _)
    ·rw[hTsame 0 i t (by omega) (by omega) (λk o' h2 h3 h4 h5=>by
      rcases hdst k o' t h4 h5 with⟨oo,hoo,hd',_⟩|⟨k',z,n,y,p⟩
      ·have h6:=((slotsOk_spec hsl h3 hoo ho).1 t hd').2 ht;exact hex ⟨k,o',h4,hahead k (Array.getElem?_eq_some_iff.1 hoo).1 h6,h5⟩
      ·exact hnp _ _ _ _ _ p)]
     refine VR.mono ?_ _ _ (M'.slotN t (λj o hj hl hd'=>hex ⟨j,o,hj,hl,hd'⟩));intro b e hb;have:=st.hr.dom b e hb;unfold Emb.upTo;rw[if_pos (by omega)];exact M'.grow.le st.hr.dom b e hb
   have hagN:∀t,(∀k s z n x,¬PairAt ops l0 k s t z n x)->a1.tmps.getD t undef=ta.getD t undef:=λt hnp=>I.ag t λk s z n x p _ _=>hnp _ _ _ _ _ p
   have hTn:∀j,j<=l.length->a1.tmps.size=(T j).length:=λj hj=>by rw[I.size,M.size,hTl j hj]
   have hraise:io.q=true->∃θ',i<θ'/\Mid P l T H m w (λj=>listed.getD j false) β θ' m1 ta w1:=λhioqt=>by
    by_cases hiθ:i<θ
    ·exact⟨θ,hiθ,M⟩
    ·refine⟨i+1,by omega,M.raise (by omega) (by omega) λj hj hj'=>?_⟩;have hjl:j<ops.size:=by omega
     have hioj:l[j]? =some (l[j]'(by omega)):=List.getElem?_eq_getElem (by omega);by_cases hji:j=i
     ·subst hji;rw[hio]at hioj;exact hq hioqt
     ·have hjs:listed.getD j false=false:=by
       cases hx:listed.getD j false with
       |false=>rfl
       |true=>have:=M.high j hx;omega
      cases hb:barrier (Region.before ops) ops.size j with
      |true=>
       have h1:=(barrier_spec hb hin (λx=>hji x.symm)).2 (by omega);have h2:=hahead j hjl h1;rw[hjs]at h2;cases h2
      |false=>exact(hrow.step j _ hioj).2 (hqt j _ hioj hb)
   have hih:∀(β2 θ2:Nat) (m2:Emb) (ta2:Array Value) (a2:Act) (w2:World),Mid P l T H m w (mark (λj=>listed.getD j false) i) β2 θ2 m2 ta2 w2->PInv ops l0 w (mark (λj=>listed.getD j false) i) ta2 a2.tmps m2 w2->a2.defers=a1.defers->
     wpAnyIn (Fd ro) 0 P .any ops Q fuel (listed.setIfInBounds i true) a2 w2:=λβ2 θ2 m2 ta2 a2 w2 M2 I2 hd2=>
    ih (listed.setIfInBounds i true) β2 θ2 m2 ta2 a2 w2 (by simpa using hsz') hu' hcl' (by rw[mark_eq (by omega)];exact M2) (by rw[mark_eq (by omega)];exact I2) (hd2.trans hd)
   rcases hcls i io hio with⟨k,t,z,n,x,p,e⟩|⟨s,t,z,n,x,p,e⟩|⟨⟨o',ho',hcomp⟩,n1,n2⟩
   ·
    subst e;obtain⟨os,hos,hosd,hcomp⟩:=hps p;rw[ho]at hos;cases hos;obtain⟨ok,hok1,hok2,_⟩:=hpk p;have hkl:listed.getD k false=true:=hahead k (hsz hok1) (((slotsOk_spec hsl p.ks hok1 ho).1 t hok2).2 (hlooks ho p.lt));have hpend:=I.pd _ _ _ _ _ _ p hkl hli;obtain⟨cb,d,cc,el,fz,hcv,hheap,hsize,hfz,hcon,hw0,hout⟩:=hpend;obtain⟨θ',hiθ,M'⟩:=hraise rfl;have hcut:=M'.cut hG hβi (Nat.le_of_lt hiθ);obtain⟨X,hX1,hX2,htlt,hHs,hTs⟩:∃X:List AV,X=(val (T i) x).cells/\(X.all AV.one=true/\X.length=n)/\t<(T i).length/\H (i+1)=H i++[.cells X true false]/\T (i+1)=put (T i) (some t) (.ptr (H i).length 0):=by
     generalize H (i+1)=H1 at hst;generalize T (i+1)=T1 at hst;cases hst with
     |run hw hb hs=>
      have hs:fnK (.boxn n x) (val (T i)) (H i)=some (_,_):=hs;simp only[fnK]at hs;split at hs
      case isFalse=>cases hs
      rename_i hcond;cases hs;exact⟨_,rfl,hcond,hb,rfl,rfl⟩
     |skip hw=>exact absurd trivial hw
    have hr1:=hcut.adopt hheap hfz (λb e he=>hout b e (Emb.upTo_le _ _ _ _ he)) hsize (λj y hy=>by
     obtain⟨h1,v,h2,h3⟩:=hcon j y hy;exact⟨h1,v,h2,h3 _⟩)
    generalize hmc:(m1.upTo (H i).length).add (H i).length ⟨cb,d,cc.size,true⟩=mc at hr1;have hmcn:mc (H i).length=some ⟨cb,d,cc.size,true⟩:=by rw[<-hmc];simp[Emb.add]
    have hmco:∀b,b≠(H i).length->mc b=(m1.upTo (H i).length) b:=λb hb=>by rw[<-hmc];unfold Emb.add;rw[if_neg hb]
    have hmcl:(m1.upTo (H i).length).le mc:=λb e he=>by
     by_cases hb:b=(H i).length
     ·subst hb;have:=hcut.dom _ _ he;omega
     ·rw[hmco b hb];exact he
    have hvx:val (put (T i) (some t) (.ptr (H i).length 0)) x=val (T i) x:=by
     cases x with
     |t u=>
      have hut:=(p.xt u rfl).1;simp only[val];exact put_ne (λe=>hut (Option.some.inj e).symm)
     |_=>rfl
    have hvt:val (put (T i) (some t) (.ptr (H i).length 0)) (.t t)=.ptr (H i).length 0:=by
     simp only[val,put,List.getD];rw[List.getElem?_set_self htlt];rfl
    have hzl:z.cells.length=X.length:=by rw[p.zn,hX2.2]
    have hist:IStep P {dst:=none,k:=.store n (.t t) x,gd:=none,q:=true} (put (T i) (some t) (.ptr (H i).length 0)) (H i++[.cells z.cells true false]) (put (T i) (some t) (.ptr (H i).length 0)) (H (i+1)):=by
     refine IStep.run (v:=undefA) trivial trivial ?_;show fnK (.store n (.t t) x) _ _=some (undefA,H (i+1));simp only[fnK,hvt,hvx];rw[List.getElem?_append_right (Nat.le_refl _),Nat.sub_self];show(if(val (T i) x).cells.length=n/\(val (T i) x).cells.all AV.one=true/\0+n<=z.cells.length then some (undefA,(H i++[ABlk.cells z.cells true false]).set (H i).length (.cells (setL z.cells 0 (val (T i) x).cells) true false))else none)=_;rw[<-hX1,if_pos ⟨hX2.2,hX2.1,by rw[p.zn];omega⟩];have hset:=setL_whole X z.cells [] hzl;rw[List.nil_append,List.nil_append,List.length_nil]at hset;rw[hset,List.set_append_right _ _ (Nat.le_refl _),Nat.sub_self,hHs];rfl
    refine opIn_sound ho hcomp hr1.gv hr1 (by rw[put_length];exact hTn i (by omega)) (λu hu=>?_) hist ro _ Q ?_
    ·by_cases hut:u=t
     ·subst hut;have:(put (T i) (some u) (AV.ptr (H i).length 0)).getD u undefA=.ptr (H i).length 0:=hvt;rw[this,hcv];exact⟨_,hmcn,by rw[Nat.zero_add]⟩
     ·have hnp:∀k s z n x,¬PairAt ops l0 k s u z n x:=λk' s' z' n' x' p'=>by
       have e:=hpt ho hu _ _ _ _ _ p';exact hut ((U _ _ _ _ _ _ _ _ _ _ _ _ p' p).2.2.1 e.symm)
      rw[put_ne (λe=>hut (Option.some.inj e).symm),hagN u hnp];exact VR.mono hmcl _ _ (hslot β θ' M' (Nat.le_of_lt hiθ) u hu hnp)
    ·intro cv v m' w' _ _ hr' hg';have hlen1:(H i++[ABlk.cells z.cells true false]).length=(H i).length+1:=by simp
     have hlen2:(H (i+1)).length=(H i).length+1:=by rw[hHs];simp
     have hm'o:∀b,b<(H i).length+1->m' b=mc b:=λb hb=>hg'.ext b (by rw[hlen1];exact hb)
     have hm'n:m' (H i).length=some ⟨cb,d,cc.size,true⟩:=by rw[hm'o _ (by omega)];exact hmcn
     have hnewb:∀b e,(H i).length<=b->m' b=some e->b=(H i).length/\e=⟨cb,d,cc.size,true⟩:=λb e hb he=>by
      have h1:=hr'.dom b e he;rw[hlen2]at h1;have:b=(H i).length:=by omega
      subst this;rw[hm'n]at he;cases he;exact⟨rfl,rfl⟩
     have M2:=M'.next0 hG hβi hiθ hli hio hr' (λb hb=>by rw[hm'o b (by omega),hmco b (by omega)])
      (λb e hb he=>by
       obtain⟨_,rfl⟩:=hnewb b e hb he;exact⟨rfl,hw0,λb' e' h=>hout b' e' h⟩)
      (λy hy h1 h2=>hg'.frame y hy λb e he ho' hcb=>by
       by_cases hb:b=(H i).length
       ·subst hb;rw[hmcn]at he;cases he;exact h2 _ _ (Nat.le_refl _) hm'n hcb
       ·rw[hmco b hb]at he;exact h1 b e he ho' hcb)
      hg'.size hg'.os hg'.out hg'.tape (v:=.ptr (H i).length 0) (cv:=a1.tmps.getD t undef) (by rw[hcv];exact⟨_,hm'n,by rw[Nat.zero_add]⟩) hTs (hTl i (by omega)) (huniq i _ hio)
     have hput:a1.put o.dst cv=a1:=by rw[hosd];rfl
     rw[hput];refine hih _ _ _ _ a1 w' M2 (I.fill U p (by rw[hTn i (by omega)];exact htlt) (λzc c hne q=>?_) hkl hli) rfl;refine q.move (λcb' d' hc hlt h7=>?_) (λcb' d' hc hlt h7 b e he=>?_)
     ·refine hg'.frame cb' hlt λb e he _ hcb=>?_
      by_cases hb:b=(H i).length
      ·subst hb;rw[hmcn]at he;cases he;exact hne _ _ _ _ hc hcv hcb.symm
      ·rw[hmco b hb]at he;exact h7 b e (Emb.upTo_le _ _ _ _ he) hcb
     ·unfold Emb.patch at he;split at he
      ·rename_i hb;by_cases hbl:b<(H i).length
       ·rw[hm'o b (by omega),hmco b (by omega)]at he;exact h7 b e (Emb.upTo_le _ _ _ _ he)
       ·obtain⟨_,rfl⟩:=hnewb b e (by omega) he
        exactλhcb=>hne _ _ _ _ hc hcv hcb.symm
      ·exact h7 b e he
   ·
    subst e;obtain⟨ok,hok1,hok2,hcomp⟩:=hpk p;rw[ho]at hok1;cases hok1;obtain⟨os,hos,_⟩:=hps p;have hss:listed.getD s false=false:=by
     cases hx:listed.getD s false with
     |false=>rfl
     |true=>
      have:=hcl s i hx hin (((slotsOk_spec hsl p.ks ho hos).1 t hok2).2 (hlooks hos p.lt));rw[hli]at this;cases this
    obtain⟨θ',hiθ,M'⟩:=hraise rfl;have hcut:=M'.cut hG hβi (Nat.le_of_lt hiθ);have htlt:t<(T i).length:=by
     have hsl':s<l.length:=by rw[hlen];exact hsz hos
     have hs1:l[s]? =some l[s]:=List.getElem?_eq_getElem hsl';have hs2:=(hrow.step s _ hs1).1;rcases hcls s _ hs1 with⟨k',t',z',n',x',p',e⟩|⟨s',t',z',n',x',p',e⟩|⟨_,n1,_⟩
     ·have e2:=(U _ _ _ _ _ _ _ _ _ _ _ _ p p').2.2.1 rfl;subst e2;rw[e]at hs2;generalize H (s+1)=H1 at hs2;generalize T (s+1)=T1 at hs2;have:t<(T s).length:=by
       cases hs2 with
       |run hw hb hs=>exact hb
       |skip hw=>exact absurd trivial hw
      rw[hTl s (by omega)]at this;rw[hTl i (by omega)];exact this
     ·exact absurd rfl ((U _ _ _ _ _ _ _ _ _ _ _ _ p' p).2.2.2)
     ·exact absurd p (n1 _ _ _ _ _)
    have hHk:H (i+1)=H i/\T (i+1)=T i:=by
     generalize H (i+1)=H1 at hst;generalize T (i+1)=T1 at hst;cases hst with
     |run hw hb hs=>
      have hs:fnK (.mov (.c (.bool false))) (val (T i)) (H i)=some (_,_):=hs;simp only[fnK]at hs;cases hs;exact⟨rfl,rfl⟩
     |skip hw=>exact absurd trivial hw
    have hist:IStep P {dst:=some t,k:=.box (.c z),gd:=none,q:=true} (T i) (H i) (put (T i) (some t) (.ptr (H i).length 0)) (H i++[.cells z.cells true false]):=by
     refine IStep.run (v:=.ptr (H i).length 0) trivial trivial ?_;exact if_pos (show(val (T i) (.c z)).cells.all AV.one=true from List.all_eq_true.2 λy hy=>conA_one (List.all_eq_true.1 p.zc y hy))
    refine opIn_sound ho hcomp hcut.gv hcut (hTn i (by omega)) (λu hu=>?_) hist ro _ Q ?_
    ·have hnp:∀k s z n x,¬PairAt ops l0 k s u z n x:=λk' s' z' n' x' p'=>by
      have e:=hpt ho hu _ _ _ _ _ p';exact(U _ _ _ _ _ _ _ _ _ _ _ _ p p').2.2.2 e
     rw[hagN u hnp];exact hslot β θ' M' (Nat.le_of_lt hiθ) u hu hnp
    ·intro cv v m' w' hT' hv' hr' hg';have hv:v=.ptr (H i).length 0:=by
      rw[hok2]at hT';have:=congrArg (λl:TS=>l[t]?) hT';simp only[put]at this;rw[List.getElem?_set_self htlt,List.getElem?_set_self htlt]at this;exact(Option.some.inj this).symm
     subst hv;obtain⟨e,he,hcv⟩:=hv';obtain⟨cc,el,fz,hb1,hb2,hb3,hb4,hb5⟩:=hr'.blk _ e _ he (by rw[List.getElem?_append_right (Nat.le_refl _),Nat.sub_self];rfl);obtain⟨hown,hex⟩:=hb5 (.inl rfl);have hex:=hex rfl;obtain⟨_,hnew⟩:=hg'.new _ e (Nat.le_refl _) he;have hfar:w1.heap.size<=e.cb:=by
      rcases hnew with hnew|⟨b0,e0,c1,_,_,c4,c5⟩
      ·exact hnew
      ·have:=hcut.dom b0 e0 c1;unfold tailOf at c4 c5;rw[List.getElem?_append_left this]at c5;rw[c5]at c4;cases c4
     rw[Nat.zero_add]at hcv;have hf1:=hcut.forget hr' hg';have hf2:=hg'.forget;have M2:=M'.next hG hβi hiθ hli hio (m1:=m'.upTo (H i).length) (w1:=w') (by rw[hHk.1];exact hf1) (by rw[hHk.1];exact hf2) (v:=.bool false) (cv:=.bool false) rfl (by rw[hHk.2];rfl) (hTl i (by omega)) (huniq i _ hio);have hin2:∀b e',((m'.upTo (H i).length).patch m1 (H (i+1)).length) b=some e'->m1 b=some e':=λb e' h=>by
      unfold Emb.patch at h;split at h
      ·have hbl:b<(H i).length:=by
        unfold Emb.upTo at h;split at h
        ·assumption
        ·cases h
       rw[hf2.ext b hbl]at h;exact Emb.upTo_le _ _ _ _ h
      ·exact h
     have hp2:∀zc c,Pend m1 w w1 zc c->Pend ((m'.upTo (H i).length).patch m1 (H (i+1)).length) w w' zc c:=λzc c q=>q.move
      (λcb' d' _ hlt h7=>hg'.frame cb' hlt λb e' h _=>h7 b e' (Emb.upTo_le _ _ _ _ h)) (λcb' d' _ hlt h7 b e' h=>h7 b e' (hin2 b e' h))
     have hput:(a1.put o.dst cv).tmps=putA a1.tmps (some t) cv:=by rw[hok2];rfl
     refine hih _ _ _ _ (a1.put o.dst cv) w' M2 ?_ (put_defers ..);rw[hput];show PInv ops l0 w _ (putA ta nopI.dst _) _ _ _;refine I.make U p (by rw[hTn i (by omega)];exact htlt) hss ?_ (λcb' d' h=>?_) hp2
     ·refine⟨e.cb,e.d,cc,el,fz,hcv,hb1,by omega,λi hi=>(Nat.lt_or_ge i cc.size).elim ((hb4 hown).2 i) (λh=>by rw[show i=e.sz by omega];exact hex.2),λj y hy=>?_,Nat.le_trans M.grow.size hfar,λb e' h=>?_⟩
      ·obtain⟨h1,v,h2,h3⟩:=hb3 j y hy;exact⟨h1,v,h2,conA_VR (List.all_eq_true.1 p.zc y (List.mem_of_getElem? hy)) h3⟩
      ·have:=M.hr.lt b e' (hin2 b e' h);omega
     ·rw[hcv]at h;cases h;exact hfar
   ·
    rw[ho]at ho';cases ho';obtain⟨hdio,hioq⟩:=compileOp_dst hcomp;have hnp:∀t,t∈o.looksAt ops->∀k s z n x,¬PairAt ops l0 k s t z n x:=λt ht k s z n x p=>by
     have:=hpt ho ht k s z n x p;subst this;exact n1 _ _ _ _ _ p
    have hnd:∀k s t z n x,PairAt ops l0 k s t z n x->io.dst≠some t:=λk s t z n x p hx=>by
     obtain⟨ok,h1,h2,_⟩:=hpk p;have e:=hdU _ _ _ _ _ h1 ho h2 (by rw[<-hdio];exact hx);subst e;exact n2 _ _ _ _ _ p
    have hop:∀(β' θ':Nat),Mid P l T H m w (λj=>listed.getD j false) β' θ' m1 ta w1->β'<=i->i<=θ'->
      (∀cv v m' w',T (i+1)=put (T i) io.dst v->VR m' v cv->HR P m' (H (i+1)) w'->Grow (m1.upTo (H i).length) (H i) w1 m' (H (i+1)) w'->∃β2 θ2 m2,Mid P l T H m w (mark (λj=>listed.getD j false) i) β2 θ2 m2 (putA ta io.dst cv) w'/\∀zc c,Pend m1 w w1 zc c->Pend m2 w w' zc c)->
      wpOpIn (Fd ro) 0 P ops Q i (wpAnyIn (Fd ro) 0 P .any ops Q fuel (listed.setIfInBounds i true)) a1 w1:=by
     intro β' θ' M' hb' hi' hnext;have hcut:=M'.cut hG hb' hi';refine opIn_sound ho hcomp hcut.gv hcut (hTn i (by omega)) (λt ht=>?_) hst ro _ Q ?_
     ·rw[hagN t (hnp t ht)];exact hslot β' θ' M' hi' t ht (hnp t ht)
     ·intro cv v m' w' hT' hv' hr' hg';obtain⟨β2,θ2,m2,M2,hp2⟩:=hnext cv v m' w' (by rw[hdio];exact hT') hv' hr' hg';have:(a1.put o.dst cv).tmps=putA a1.tmps io.dst cv:=by rw[hdio];cases o.dst<;>rfl
      exact hih β2 θ2 m2 _ _ w' M2 (by rw[this];exact I.other n1 n2 hnd hp2) (put_defers ..)
    by_cases hioqt:io.q=true
    ·obtain⟨θ',hiθ,M'⟩:=hraise hioqt;exact hop β θ' M' hβi (by omega) λcv v m' w' hT' hv' hr' hg'=>⟨β,θ',_,M'.next hG hβi hiθ hli hio hr' hg' hv' hT' (hTl i (by omega)) (huniq i io hio),λzc c q=>(q.grow hg').2⟩
    ·have hbar:barrier (Region.before ops) ops.size i=true:=by
      rw[hioq]at hioqt
      simpa using hioqt
     have hall:∀j,j<i->listed.getD j false=true:=λj hj=>hahead j (by omega) ((barrier_spec hbar (show j<ops.size by omega) (by omega)).1 hj)
     by_cases hiθ:i<θ
     ·exact hop β θ M hβi (by omega) λcv v m' w' hT' hv' hr' hg'=>⟨β,θ,_,M.next hG hβi hiθ hli hio hr' hg' hv' hT' (hTl i (by omega)) (huniq i io hio),λzc c q=>(q.grow hg').2⟩
     ·have hθi:θ=i:=by
       by_cases hz:i=0
       ·omega
       ·have:=M.high (i-1) (hall _ (by omega));omega
      subst hθi;exact hop β θ M hβi (Nat.le_refl _) λcv v m' w' hT' hv' hr' hg'=>⟨θ+1,θ+1,m',M.jump st.hr.dom hall (by omega) hio hr' hg' hv' hT' (hTl θ (by omega)) (huniq θ io hio),λzc c q=>(q.grow hg').1⟩
 have hfalse:∀j,(Array.replicate ops.size false).getD j false=false:=λj=>by
  rw[Array.getD_eq_getD_getElem?,Array.getElem?_replicate];split<;>rfl
 refine key ops.size (Array.replicate ops.size false) 0 0 m a.tmps a _ (by simp) ?_ (λj x hj _ _=>by simp[hfalse j]at hj) ?_ ?_ rfl
 ·have:∀n,unl (Array.replicate ops.size false) n<=n:=by
   intro n
   induction n with
   |zero=>exact Nat.le_refl _
   |succ n ihn=>simp only[unl];split<;>omega
  exact this _
 ·refine⟨Nat.le_refl _,Nat.zero_le _,λj hj=>absurd hj (by omega),λj hj=>by simp[hfalse j]at hj,λj _ hj=>absurd hj (by omega),λj hj=>absurd hj (by omega),st.hr.drew,λj hj=>absurd hj (by omega),?_,λj _ hj=>absurd hj (by omega),
   (Grow.refl m _ w st.hr.dom).drew,?_,?_,?_⟩
  ·intro i hi hi' b e k hb hmb hk;have:i=0:=by omega
   subst this;exact(st.hr.blk b e k hmb hk).clos st.hr.dom
  ·have:=st.ts.length;simpa using this
  ·intro d _;exact slotA st.ts d
  ·intro d j o _ hj _;simp only[hfalse j]at hj;cases hj
 ·exact⟨rfl,λ_ _=>rfl,λk s t z n x p hk=>by simp[hfalse k]at hk,λk s t z n x k' s' t' z' n' x' p p' hk=>by simp[hfalse k]at hk⟩
end Go.Abs
namespace Go.Abs
def pure_N{k}(hk:pureK k=true){ρ h h' v}(hs:StepN k ρ h v h'):h' =h/\∀g,StepN k ρ g v g:=by
 cases k<;>first
  |(cases hk;done)
  |skip
 case conv c x=>
  cases c<;>first
   |(cases hk;done)
   |skip
  have hs:fnK _ _ _=some (_,_):=hs;simp only[fnK,convA]at hs;split at hs
  ·rename_i k n hx;cases hs;refine⟨rfl,λg=>?_⟩;show fnK _ _ _=some (_,_);simp only[fnK,convA,hx]
  ·cases hs
 case len lk x=>
  have e:lk≠.mp->∀g,lenA lk g (ρ x)=lenA lk h (ρ x):=λhl g=>by
   cases lk<;>first|exact absurd rfl hl|skip
   all_goals
    cases ρ x<;>first|rfl|(simp only[lenA,reduceCtorEq,if_false];repeat' split)<;>rfl
  have hl:lk≠.mp:=λe=>by rw[e]at hk;cases hk
  have hs:fnK _ _ _=some (_,_):=hs;simp only[fnK]at hs;split at hs
  ·rename_i n hn;cases hs;refine⟨rfl,λg=>?_⟩;show fnK _ _ _=some (_,_);simp only[fnK,e hl g,hn]
  ·cases hs
 all_goals
  have hs:fnK _ _ _=some (_,_):=hs;simp only[fnK]at hs
  repeat' split at hs
  all_goals first
   |(cases hs;done)
   |(cases hs
     refine⟨rfl,λg=>?_⟩;show fnK _ _ _=some (_,_);simp only[fnK, *]
     done)
   |(cases hs
     refine⟨rfl,λg=>?_⟩;show fnK _ _ _=some (_,_);simp[fnK, *]
     done)
def pure_I{P o}(hk:pureK o.k=true){ts ts' h h'}(hs:IStep P o ts h ts' h'):h' =h/\∀g,IStep P o ts g ts' g:=by
 cases hs with
 | @run v h' hw hb hs=>
  have hs':StepN o.k (val ts) h v h':=by
   cases hko:o.k<;>rw[hko]at hs hk<;>first|exact hs|(cases hk;done)
  obtain⟨rfl,h2⟩:=pure_N hk hs';refine⟨rfl,λg=>.run hw hb ?_⟩;have:=h2 g;cases hko:o.k<;>rw[hko]at this hk<;>first|exact this|(cases hk;done)
 |skip hw=>exact⟨rfl,λg=>.skip hw⟩
def read_I{P o}(hk:readK o.k=true){ts ts' h h'}(hs:IStep P o ts h ts' h'):h' =h:=by
 by_cases hp:pureK o.k=true
 ·exact(pure_I hp hs).1
 ·cases hko:o.k with
  |load n a=>
   cases hs with
   |run hw hb hs=>
    rw[hko]at hs;have hs:fnK (.load n a) _ _=some (_,_):=hs;simp only[fnK]at hs
    repeat' split at hs
    all_goals first
     |(cases hs;done)
     |(cases hs;rfl)
   |skip hw=>rfl
  |_=>rw[hko]at hk hp;exact absurd hk hp
def alloc_I{P o}(hk:allocO o=true){ts ts' h h'}(hs:IStep P o ts h ts' h')(hq:o.q=true->∃g,h' =h++g):∃g,h' =h++g:=by
 by_cases hqq:o.q=true
 ·exact hq hqq
 have hk:allocK o.k=true:=by
  have:o.q=false:=by simpa using hqq
  simpa [allocO,this]using hk
 cases hs with
 |run hw hb hs=>
  cases hko:o.k<;>rw[hko]at hk hs<;>first|(cases hk;done)|skip
  case bslice es n z ps=>
   have hs:StepN (.bslice es n z ps) _ _ _ _:=hs;obtain⟨c,mu,tl,_,_,_,_,e⟩:=hs;exact⟨_,e⟩
  all_goals
   have hs:fnK _ _ _=some (_,_):=hs;simp only[fnK]at hs
   repeat' split at hs
   all_goals first
    |(cases hs;done)
    |(cases hs;exact⟨_,rfl⟩)
 |skip hw=>exact⟨[],by simp⟩
def load_ext{P o n a}(hk:o.k=.load n a){ts ts' h}(hs:IStep P o ts h ts' h)(g:AHeap):IStep P o ts (h++g) ts' (h++g):=by
 generalize hh:h=h2 at hs;cases hs with
 | @run v _ hw hb hs=>
  subst hh;refine .run hw (by rw[hk];trivial) ?_;rw[hk]at hs ⊢;have hs:fnK (.load n a) (val ts) h=some (v,h):=hs;show fnK (.load n a) (val ts) (h++g)=some (v,h++g);simp only[fnK]at hs ⊢;cases hv:val ts a with
  |ptr b off=>
   rw[hv]at hs;simp only at hs ⊢;cases hb2:h[b]? with
   |none=>rw[hb2]at hs;cases hs
   |some k=>
    rw[List.getElem?_append_left (List.getElem?_eq_some_iff.1 hb2).1,hb2];rw[hb2]at hs;cases k with
    |cells c mu tl=>
     simp only at hs ⊢;cases n with
     |none=>
      simp only at hs ⊢;cases hc:c[off]? with
      |none=>rw[hc]at hs;cases hs
      |some x=>rw[hc]at hs;cases hs;rfl
     |some n=>
      simp only at hs ⊢;by_cases hlt:off+n<=c.length
      ·rw[if_pos hlt]at hs ⊢;cases hs;rfl
      ·rw[if_neg hlt]at hs;cases hs
    |_=>cases hs
  |_=>rw[hv]at hs;cases hs
 |skip hw=>subst hh;exact .skip hw
def HR.raise0{P m h w}(hr:HR P m h w)(g:AHeap):HR P m (h++g) w where
 dom:=λb e hb=>by have:=hr.dom b e hb;simp;omega
 blk:=λb e k hb hk=>hr.blk b e k hb (by rwa [List.getElem?_append_left (hr.dom b e hb)]at hk)
 sep:=λb1 b2 e1 e2 k1 k2 hne h1 h2 hk1 hk2 hcb=>hr.sep b1 b2 e1 e2 k1 k2 hne h1 h2 (by rwa [List.getElem?_append_left (hr.dom b1 e1 h1)]at hk1) (by rwa [List.getElem?_append_left (hr.dom b2 e2 h2)]at hk2) hcb
 glob:=hr.glob
 lt:=hr.lt
def HR.lower0{P m h g w}(hr:HR P m (h++g) w)(hd:∀b e,m b=some e->b<h.length):HR P m h w where
 dom:=hd
 blk:=λb e k hb hk=>hr.blk b e k hb (by rw[List.getElem?_append_left (hd b e hb)];exact hk)
 sep:=λb1 b2 e1 e2 k1 k2 hne h1 h2 hk1 hk2 hcb=>hr.sep b1 b2 e1 e2 k1 k2 hne h1 h2 (by rw[List.getElem?_append_left (hd b1 e1 h1)];exact hk1) (by rw[List.getElem?_append_left (hd b2 e2 h2)];exact hk2) hcb
 glob:=hr.glob
 lt:=hr.lt
def mixOk_spec{M l}(h:mixOk M l=true){i j x y}(hij:i<j)(hx:l[i]? =some x)(hy:l[j]? =some y)(px:pureK x.k=false)(py:pureK y.k=false)(lx:ldQ x=false)(ly:ldQ y=false)
  (hr:(readK x.k=false/\readK y.k=false)\/(readK x.k=false/\allocO x=false)\/(readK y.k=false/\allocO y=false)):ahead M i j=true:=by
 have hj:j<l.length:=(List.getElem?_eq_some_iff.1 hy).1;unfold mixOk at h;rw[List.all_eq_true]at h;have h1:=h j (List.mem_range.2 hj);rw[List.all_eq_true]at h1;have h2:=h1 i (List.mem_range.2 hij);rw[hx,hy]at h2;simp only[px,py,lx,ly,Bool.false_or]at h2;rcases hr with⟨a,b⟩|⟨a,b⟩|⟨a,b⟩<;>simpa [a,b]using h2
theorem late_lt:∀{l}{i}{o},l[i]? =some o->lateK o=false->i<lateAt l
 |[],i,o,h,_=>by simp at h
 |x::r,i,o,h,hk=>by
  have hn:¬lateAll (x::r)=true:=λhall=>by
   have:=List.all_eq_true.1 (Bool.and_eq_true_iff.1 hall).1 o (List.mem_of_getElem? h);rw[hk]at this;cases this
  rw[lateAt,if_neg hn];cases i with
  |zero=>omega
  |succ i=>have:=late_lt (l:=r) (i:=i) (by simpa using h) hk;omega
def lateOk_spec{M l}(h:lateOk M l=true){i j x y}(hx:l[i]? =some x)(lx:ldQ x=true)(hy:l[j]? =some y)(ky:readK y.k=false)(hj:lateAt l<=j):ahead M i j=true:=by
 unfold lateOk at h;rw[List.all_eq_true]at h;have h1:=h i (List.mem_range.2 (List.getElem?_eq_some_iff.1 hx).1);rw[hx]at h1;simp only[lx,Bool.not_true,Bool.false_or,List.all_eq_true,List.mem_range]at h1;have h2:=h1 j (List.getElem?_eq_some_iff.1 hy).1;rw[hy]at h2;have hj':¬j<lateAt l:=by omega
 simpa [ky,hj']using h2
def region_mix{P cq}(hmix:P.follows .mixedOrders=true){ops l}(hed:edgesOk (Region.before ops) ops=true)(hsl:slotsOk (Region.before ops) ops=true)
  (hc:zipMapM (λ_ o=>compileOp P ops (mixQ cq o) o) ops.toList 0=some l) (hmo:mixOk (Region.before ops) l=true) {T}{H}(hrow:Row P l T H) (hstab:∀(i:Nat) (io:IOp),l[i]? =some io->ldQ io=true->∀θ,θ<=lateAt l->IStep P io (T i) (H θ) (T (i+1)) (H θ)) (hlate:∀(i j:Nat) (x y:IOp),l[i]? =some x->ldQ x=true->l[j]? =some y->readK y.k=false->lateAt l<=j->ahead (Region.before ops) i j=true) {m}{a}{w}
  (st:St P m (T 0) (H 0) a w) (ro:Option Nat) (Q:Exit->Act->World->Prop) (hQ:∀m' a' w',St P m' (T l.length) (H l.length) a' w'->Grow m (H 0) w m' (H l.length) w'->a'.defers=a.defers->Q .normal a' w') (id:Nat):
  (Code.region id ops true).wpIn (Fd ro) 0 P Q a w:=by
 refine wpIn_region_any hmix ?_;obtain⟨hlen0,hget⟩:=zipMapM_get hc;simp only[Array.length_toList]at hlen0;have hback:∀(j:Nat) (io:IOp),l[j]? =some io->∃o,ops[j]? =some o/\compileOp P ops (mixQ cq o) o=some io:=λj io hj=>by
  have hlt:j<ops.size:=by have:=(List.getElem?_eq_some_iff.1 hj).1;omega
  have ho:ops[j]? =some ops[j]:=Array.getElem?_eq_getElem hlt;obtain⟨io',h1,h2⟩:=hget j ops[j] (by simp);rw[hj]at h1;cases h1;exact⟨_,ho,h2⟩
 have hdst:∀(j:Nat) (io:IOp) (d:Nat),l[j]? =some io->io.dst=some d->∃o,ops[j]? =some o/\o.dst=some d:=λj io d hj hd=>by
  obtain⟨o,h1,h2⟩:=hback j io hj;exact⟨o,h1,by rw[<- (compileOp_dst h2).1];exact hd⟩
 have huniq:∀(i j:Nat) (oi oj:IOp) (d:Nat),l[i]? =some oi->l[j]? =some oj->oi.dst=some d->oj.dst=some d->i=j:=λi j oi oj d hi hj h1 h2=>by
  obtain⟨xi,a1,a2⟩:=hdst i oi d hi h1;obtain⟨xj,b1,b2⟩:=hdst j oj d hj h2;by_cases hlt:i<j
  ·exact absurd b2 ((slotsOk_spec hsl hlt a1 b1).1 d a2).1
  ·by_cases hgt:j<i
   ·exact absurd a2 ((slotsOk_spec hsl hgt b1 a1).1 d b2).1
   ·omega
 have hTstep:∀(j:Nat) (io:IOp),l[j]? =some io->∃v,T (j+1)=put (T j) io.dst v:=λj io hj=>(hrow.step j io hj).1.put
 have hTl:∀j,j<=l.length->(T j).length=(T 0).length:=by
  intro j
  induction j with
  |zero=>intro _;rfl
  |succ j ih=>
   intro hj;obtain⟨v,hv⟩:=hTstep j _ (List.getElem?_eq_getElem (show j<l.length by omega));rw[hv,put_length];exact ih (by omega)
 have hTsame:∀x y t,x<=y->y<=l.length->(∀(j:Nat) (o:IOp),x<=j->j<y->l[j]? =some o->o.dst≠some t)->(T y).getD t undefA=(T x).getD t undefA:=by
  intro x y t hxy hy hno;have:=T_same (T:=T) (t:=t) (a:=x) (y-x) (λj h1 h2=>by
   have hj:l[j]? =some (l[j]'(by omega)):=List.getElem?_eq_getElem (by omega);obtain⟨v,hv⟩:=hTstep j _ hj;exact⟨_,v,hv,hno j _ h1 (by omega) hj⟩)
  rwa [show x+(y-x)=y from by omega]at this
 have hHstep:∀(j:Nat) (io:IOp),l[j]? =some io->readK io.k=true->H (j+1)=H j:=λj io hj hk=>read_I hk (hrow.step j io hj).1
 have hHsame:∀x k,x+k<=l.length->(∀(j:Nat) (o:IOp),x<=j->j<x+k->l[j]? =some o->readK o.k=true)->H (x+k)=H x:=by
  intro x k
  induction k with
  |zero=>intro _ _;rfl
  |succ k ih=>
   intro hk hno;have hj:l[x+k]? =some (l[x+k]'(by omega)):=List.getElem?_eq_getElem (by omega);rw[show x+(k+1)=x+k+1 from by omega,hHstep _ _ hj (hno _ _ (by omega) (by omega) hj)];exact ih (by omega) λj o h1 h2 h3=>hno j o h1 (by omega) h3
 have hHext:∀x k,x+k<=l.length->(∀(j:Nat) (o:IOp),x<=j->j<x+k->l[j]? =some o->readK o.k=true\/allocO o=true)->∃g,H (x+k)=H x++g:=by
  intro x k
  induction k with
  |zero=>intro _ _;exact⟨[],by simp⟩
  |succ k ih=>
   intro hk hno;have hj:l[x+k]? =some (l[x+k]'(by omega)):=List.getElem?_eq_getElem (by omega);obtain⟨g,hg⟩:=ih (by omega) λj o h1 h2 h3=>hno j o h1 (by omega) h3
   rcases hno _ _ (by omega) (by omega) hj with h1|h1
   ·exact⟨g,by rw[show x+(k+1)=x+k+1 from by omega,hHstep _ _ hj h1,hg]⟩
   ·obtain⟨g2,hg2⟩:=alloc_I h1 (hrow.step _ _ hj).1 (hrow.step _ _ hj).2;exact⟨g++g2,by rw[show x+(k+1)=x+k+1 from by omega,hg2,hg,List.append_assoc]⟩
 have hHeq:∀x y,x<=l.length->y<=l.length->(∀(j:Nat) (o:IOp),l[j]? =some o->readK o.k=false->(j<x↔j<y))->H x=H y:=by
  intro x y hx hy hno;by_cases hxy:x<=y
  ·have:=hHsame x (y-x) (by omega) (λj o h1 h2 h3=>by
    cases hk:readK o.k with
    |true=>rfl
    |false=>have:=hno j o h3 hk;omega)
   rw[show x+(y-x)=y from by omega]at this;exact this.symm
  ·have:=hHsame y (x-y) (by omega) (λj o h1 h2 h3=>by
    cases hk:readK o.k with
    |true=>rfl
    |false=>have:=hno j o h3 hk;omega)
   rw[show y+(x-y)=x from by omega]at this;exact this
 have hdone:∀(listed:Array Bool) (θ:Nat) (m1:Emb) (a1:Act) (w1:World),(∀i,i<ops.size->listed.getD i false=true)->θ<=l.length->
   (∀(j:Nat) (o:IOp),l[j]? =some o->readK o.k=false->(j<θ↔listed.getD j false=true))->HR P m1 (H θ) w1->Grow m (H 0) w m1 (H θ) w1->a1.tmps.size=(T 0).length->
   (∀(d:Nat),(∀(j:Nat) (o:IOp),l[j]? =some o->listed.getD j false=true->o.dst≠some d)->VR m1 ((T 0).getD d undefA) (a1.tmps.getD d undef))->
   (∀(d j:Nat) (o:IOp),l[j]? =some o->listed.getD j false=true->o.dst=some d->VR m1 ((T (j+1)).getD d undefA) (a1.tmps.getD d undef))->a1.defers=a.defers->Q .normal a1 w1:=by
  intro listed θ m1 a1 w1 hall hθ hS hr hg hsz h1 h2 hd;have e:=hHeq θ l.length hθ (Nat.le_refl _) λj o hj hk=>by
   have hjl:=(List.getElem?_eq_some_iff.1 hj).1;have:=(hS j o hj hk).2 (hall j (by omega));omega
  rw[e]at hr hg;refine hQ m1 a1 w1 ⟨hr,VRs.of_get ?_ ?_⟩ hg hd
  ·have:=hTl l.length (Nat.le_refl _);simp;omega
  ·intro t x hx;have hlt:=(List.getElem?_eq_some_iff.1 hx).1;have hlt':t<a1.tmps.size:=by have:=hTl l.length (Nat.le_refl _);omega
   have ex:(T l.length).getD t undefA=x:=by simp[List.getD,hx]
   have ey:a1.tmps.getD t undef=a1.tmps[t]:=by simp[Array.getD_eq_getD_getElem?,Array.getElem?_eq_getElem hlt']
   refine⟨a1.tmps[t],by simp,?_⟩;rw[<-ex,<-ey];by_cases hw:∃(j:Nat) (o:IOp),l[j]? =some o/\o.dst=some t
   ·obtain⟨j,o,hj,ho⟩:=hw;have hjl:=(List.getElem?_eq_some_iff.1 hj).1;rw[hTsame (j+1) l.length t (by omega) (Nat.le_refl _) (λk o' a2 a3 a4 a5=>by have:=huniq j k o o' t hj a4 ho a5;omega)];exact h2 t j o hj (hall j (by omega)) ho
   ·rw[hTsame 0 l.length t (by omega) (Nat.le_refl _) (λk o' _ _ h4 h5=>hw ⟨k,o',h4,h5⟩)];exact h1 t λj o hj _ ho=>hw ⟨j,o,hj,ho⟩
 have key:∀(fuel:Nat) (listed:Array Bool) (θ:Nat) (m1:Emb) (a1:Act) (w1:World),listed.size=ops.size->unl listed ops.size<=fuel->
   (∀j x,listed.getD j false=true->x<ops.size->ahead (Region.before ops) x j=true->listed.getD x false=true)->θ<=l.length->(θ<=lateAt l\/∃(j:Nat) (o:IOp),l[j]? =some o/\readK o.k=false/\lateAt l<=j/\j<θ)->
   (∀(j:Nat) (o:IOp),l[j]? =some o->readK o.k=false->(j<θ↔listed.getD j false=true))->HR P m1 (H θ) w1->Grow m (H 0) w m1 (H θ) w1->a1.tmps.size=(T 0).length->
   (∀(d:Nat),(∀(j:Nat) (o:IOp),l[j]? =some o->listed.getD j false=true->o.dst≠some d)->VR m1 ((T 0).getD d undefA) (a1.tmps.getD d undef))->
   (∀(d j:Nat) (o:IOp),l[j]? =some o->listed.getD j false=true->o.dst=some d->VR m1 ((T (j+1)).getD d undefA) (a1.tmps.getD d undef))->a1.defers=a.defers->wpAnyIn (Fd ro) 0 P .any ops Q fuel listed a1 w1:=by
  intro fuel
  induction fuel with
  |zero=>
   intro listed θ m1 a1 w1 hsz' hu hcl hθ hL hS hr hg hsz h1 h2 hd;have hall:=unl_zero ops.size (show unl listed ops.size=0 by omega);exact⟨ready_all hsz' hall,hdone listed θ m1 a1 w1 hall hθ hS hr hg hsz h1 h2 hd⟩
  |succ fuel ih=>
   intro listed θ m1 a1 w1 hsz' hu hcl hθ hL hS hr hg hsz h1 h2 hd;refine⟨λhrn=>hdone listed θ m1 a1 w1 (ready_nil hed hsz' hrn) hθ hS hr hg hsz h1 h2 hd,λi hi=>?_⟩;obtain⟨o,ho,hli,hed'⟩:=(ready_mem hsz').1 hi;have hin:i<ops.size:=(Array.getElem?_eq_some_iff.1 ho).1;obtain⟨io,hio,hcomp⟩:=hget i o (by simpa using ho);obtain⟨hst,_⟩:=hrow.step i io hio;have hahead:∀x,x<ops.size->ahead (Region.before ops) x i=true->listed.getD x false=true:=λx hx ha=>by
    obtain⟨e,he,hb,hor⟩:=(edgesOk_spec hed ho).2 x hx ha;have hle:=hed' e he hb;rcases hor with rfl|hor
    ·exact hle
    ·exact hcl e.on x hle hx hor
   have hcl':∀j x,(listed.setIfInBounds i true).getD j false=true->x<ops.size->ahead (Region.before ops) x j=true->(listed.setIfInBounds i true).getD x false=true:=by
    intro j x hj hx ha;rw[getD_set_iff (by omega)]at hj ⊢;split
    ·rfl
    ·split at hj
     ·rename_i hji;subst hji;exact hahead x hx ha
     ·exact hcl j x hj hx ha
   have hu':unl (listed.setIfInBounds i true) ops.size<=fuel:=by
    have:=unl_lt (listed:=listed) (by omega) hli ops.size hin;omega
   have hslot:∀t,t∈o.looksAt ops->VR m1 ((T i).getD t undefA) (a1.tmps.getD t undef):=by
    intro t ht;by_cases hex:∃(x:Nat) (ox:IOp),l[x]? =some ox/\listed.getD x false=true/\ox.dst=some t
    ·obtain⟨x,ox,hx,hxl,hxd⟩:=hex;obtain⟨oo,hoo,hxd'⟩:=hdst x ox t hx hxd;have hxi:x<i:=by
      by_cases e1:x=i
      ·subst e1;rw[hli]at hxl;cases hxl
      ·by_cases e2:x<i
       ·exact e2
       ·have e3:=(slotsOk_spec hsl (show i<x by omega) ho hoo).2 t hxd' ht;have e4:=hcl x i hxl hin e3;rw[hli]at e4;cases e4
     rw[hTsame (x+1) i t (by omega) (by omega) (λk o' a2 a3 a4 a5=>by have:=huniq x k ox o' t hx a4 hxd a5;omega)];exact h2 t x ox hx hxl hxd
    ·rw[hTsame 0 i t (by omega) (by omega) (λk o' e2 e3 e4 e5=>by
      obtain⟨oo,hoo,hd'⟩:=hdst k o' t e4 e5;have h6:=((slotsOk_spec hsl e3 hoo ho).1 t hd').2 ht;exact hex ⟨k,o',e4,hahead k (Array.getElem?_eq_some_iff.1 hoo).1 h6,e5⟩)]
     exact h1 t λj oj hj hl hd'=>hex ⟨j,oj,hj,hl,hd'⟩
   have hrp:∀{k:OpK},readK k=false->pureK k=false:=λ{k} hk=>by
    cases k<;>first|exact hk|(cases hk;done)
   have hld:∀{o:IOp},readK o.k=false->ldQ o=false:=λ{o} hk=>by
    cases hko:o.k<;>rw[hko]at hk<;>first|(cases hk;done)|simp[ldQ,hko]
   have hne:∀j,j≠i->(listed.setIfInBounds i true).getD j false=listed.getD j false:=λj hj=>by rw[getD_set_iff (by omega),if_neg hj]
   have hrd0:readK io.k=true->∀(j:Nat) (o:IOp),l[j]? =some o->readK o.k=false->(j<θ↔(listed.setIfInBounds i true).getD j false=true):=λhrd j oj hj hk=>by
    have hji:j≠i:=λe=>by
     subst e;rw[hio]at hj;cases hj;rw[hrd]at hk;cases hk
    rw[hne j hji];exact hS j oj hj hk
   have hstep:∃θ',θ'<=l.length/\(θ'<=lateAt l\/∃(j:Nat) (o:IOp),l[j]? =some o/\readK o.k=false/\lateAt l<=j/\j<θ')/\(∀(j:Nat) (o:IOp),l[j]? =some o->readK o.k=false->(j<θ'↔(listed.setIfInBounds i true).getD j false=true))/\∃hb h2,HR P m1 hb w1/\IStep P io (T i) hb (T (i+1)) h2/\
     ∀m' w',HR P m' h2 w'->Grow m1 hb w1 m' h2 w'->HR P m' (H θ') w'/\Grow m1 (H θ) w1 m' (H θ') w':=by
    by_cases hp:pureK io.k=true
    ·have hrd:readK io.k=true:=by cases hko:io.k<;>rw[hko]at hp<;>first|exact hp|(cases hp;done)
     exact⟨θ,hθ,hL,hrd0 hrd,H θ,H θ,hr,(pure_I hp hst).2 _,λm' w' a b=>⟨a,b⟩⟩
    ·have hp':pureK io.k=false:=by simpa using hp
     by_cases hlq:ldQ io=true
     ·have hrd:readK io.k=true:=by
       cases hko:io.k<;>simp[ldQ,hko]at hlq<;>rfl
      have hθc:θ<=lateAt l:=by
       rcases hL with h|⟨j,oj,h1,h2,h3,h4⟩
       ·exact h
       ·have e:=hcl j i ((hS j oj h1 h2).1 h4) hin (hlate i j io oj hio hlq h1 h2 h3);rw[hli]at e;cases e
      exact⟨θ,hθ,hL,hrd0 hrd,H θ,H θ,hr,hstab i io hio hlq θ hθc,λm' w' a b=>⟨a,b⟩⟩
     have hlq:ldQ io=false:=by simpa using hlq
     by_cases hrd:readK io.k=true
     ·obtain⟨n,ad,hko⟩:∃n ad,io.k=.load n ad:=by
       cases hko:io.k with
       |load n ad=>exact⟨n,ad,rfl⟩
       |_=>rw[hko]at hrd hp;exact absurd hrd hp
      have hHh:∀(j:Nat) (o:IOp),l[j]? =some o->readK o.k=false->allocO o=false->(j<θ↔j<i):=λj oj hj hk hk2=>by
       have hjl:=(List.getElem?_eq_some_iff.1 hj).1;constructor
       ·intro hjθ;have hjl':=(hS j oj hj hk).1 hjθ;by_cases e1:j=i
        ·subst e1;rw[hli]at hjl';cases hjl'
        ·by_cases e2:j<i
         ·exact e2
         ·have e3:=mixOk_spec hmo (show i<j by omega) hio hj hp' (hrp hk) hlq (hld hk) (.inr (.inr ⟨hk,hk2⟩));have e4:=hcl j i hjl' hin e3;rw[hli]at e4;cases e4
       ·intro hji;exact(hS j oj hj hk).2 (hahead j (by omega) (mixOk_spec hmo hji hj hio (hrp hk) hp' (hld hk) hlq (.inr (.inl ⟨hk,hk2⟩))))
      have hst':IStep P io (T i) (H i) (T (i+1)) (H i):=by
       have e:=read_I hrd hst;rw[e]at hst;exact hst
      by_cases hiθ:i<=θ
      ·obtain⟨g,hg2⟩:=hHext i (θ-i) (by omega) λj oj h1 h2 h3=>by
        cases hk:readK oj.k with
        |true=>exact .inl rfl
        |false=>
         cases hk2:allocO oj with
         |true=>exact .inr rfl
         |false=>have:=hHh j oj h3 hk hk2;omega
       rw[show i+(θ-i)=θ from by omega]at hg2;refine⟨θ,hθ,hL,hrd0 hrd,H θ,H θ,hr,?_,λm' w' a b=>⟨a,b⟩⟩;rw[hg2];exact load_ext hko hst' g
      ·obtain⟨g,hg2⟩:=hHext θ (i-θ) (by omega) λj oj h1 h2 h3=>by
        cases hk:readK oj.k with
        |true=>exact .inl rfl
        |false=>
         cases hk2:allocO oj with
         |true=>exact .inr rfl
         |false=>have:=hHh j oj h3 hk hk2;omega
       rw[show θ+(i-θ)=i from by omega]at hg2;rw[hg2]at hst';refine⟨θ,hθ,hL,hrd0 hrd,H θ++g,H θ++g,hr.raise0 g,hst',λm' w' a b=>?_⟩;have hm:m' =m1:=by
        funext z;by_cases hz:z<(H θ++g).length
        ·exact b.ext z hz
        ·have e1:m1 z=none:=by
          cases hx:m1 z with
          |none=>rfl
          |some e=>exact absurd ((hr.raise0 g).dom z e hx) hz
         have e2:m' z=none:=by
          cases hx:m' z with
          |none=>rfl
          |some e=>exact absurd (a.dom z e hx) hz
         rw[e1,e2]
       subst hm;exact⟨a.lower0 hr.dom,⟨λ_ _=>rfl,Nat.le_refl _,λz e hz hmz=>absurd (hr.dom z e hmz) (by omega),λ_ _ x=>x,b.size,b.os,b.out,b.tape,b.frame⟩⟩
     ·have hrd':readK io.k=false:=by simpa using hrd
      have hHi:H θ=H i:=hHeq θ i hθ (by omega) λj oj hj hk=>by
       have hjl:=(List.getElem?_eq_some_iff.1 hj).1;constructor
       ·intro hjθ;have hjl':=(hS j oj hj hk).1 hjθ;by_cases e1:j=i
        ·subst e1;rw[hli]at hjl';cases hjl'
        ·by_cases e2:j<i
         ·exact e2
         ·have e3:=mixOk_spec hmo (show i<j by omega) hio hj hp' (hrp hk) hlq (hld hk) (.inl ⟨hrd',hk⟩);have e4:=hcl j i hjl' hin e3;rw[hli]at e4;cases e4
       ·intro hji;exact(hS j oj hj hk).2 (hahead j (by omega) (mixOk_spec hmo hji hj hio (hrp hk) hp' (hld hk) hlq (.inl ⟨hk,hrd'⟩)))
      refine⟨i+1,by omega,(by by_cases hc:i+1<=lateAt l;exact .inl hc;exact .inr ⟨i,io,hio,hrd',by omega,by omega⟩),λj oj hj hk=>?_,H θ,H (i+1),hr,by rw[hHi];exact hst,λm' w' a b=>⟨a,b⟩⟩;have hjl:=(List.getElem?_eq_some_iff.1 hj).1;by_cases e1:j=i
      ·subst e1;rw[getD_set_iff (by omega),if_pos rfl];exact⟨λ_=>rfl,λ_=>by omega⟩
      ·rw[hne j e1];constructor
       ·intro hji;exact hahead j (by omega) (mixOk_spec hmo (show j<i by omega) hj hio (hrp hk) hp' (hld hk) hlq (.inl ⟨hk,hrd'⟩))
       ·intro hjl';by_cases e2:j<i
        ·omega
        ·have e3:=mixOk_spec hmo (show i<j by omega) hio hj hp' (hrp hk) hlq (hld hk) (.inl ⟨hrd',hk⟩);have e4:=hcl j i hjl' hin e3;rw[hli]at e4;cases e4
   obtain⟨θ',hθ',hL',hS',hb,h2',hrb,hst',hfin⟩:=hstep;refine opIn_sound ho hcomp hrb.gv hrb (by rw[hsz,hTl i (by omega)]) hslot hst' ro _ Q ?_;intro cv v' m' w' hT' hv' hrx hgx;obtain⟨hr',hg'⟩:=hfin m' w' hrx hgx;have hd':io.dst=o.dst:=(compileOp_dst hcomp).1;have mle:=hg'.le hr.dom;have hlt:(listed.setIfInBounds i true).getD i false=true:=by rw[getD_set_iff (by omega),if_pos rfl]
   have htm:(a1.put o.dst cv).tmps=putA a1.tmps o.dst cv:=by cases o.dst<;>rfl
   refine ih _ θ' m' (a1.put o.dst cv) w' (by simp[hsz']) hu' hcl' hθ' hL' hS' hr' (hg.trans hg' st.hr.dom) (by rw[htm,putA_size];exact hsz) ?_ ?_ (by rw[put_defers];exact hd)
   ·intro d hdn;have hnd:o.dst≠some d:=by rw[<-hd'];exact hdn i io hio hlt
    rw[htm,putA_ne hnd];refine VR.mono mle _ _ (h1 d λj oj hj hl=>hdn j oj hj ?_);by_cases e1:j=i
    ·subst e1;exact hlt
    ·rw[hne j e1];exact hl
   ·intro d j oj hj hl hdj;by_cases e1:j=i
    ·subst e1;rw[hio]at hj;cases hj;rw[hT',htm,<-hd',hdj];exact put_same (by rw[hsz,hTl j (by omega)]) hv'
    ·have hnd:o.dst≠some d:=λhx=>by
      rw[<-hd']at hx;exact e1 (huniq j i oj io d hj hio hdj hx)
     rw[htm,putA_ne hnd];rw[hne j e1]at hl;exact VR.mono mle _ _ (h2 d j oj hj hl hdj)
 have hfalse:∀j,(Array.replicate ops.size false).getD j false=false:=λj=>by
  rw[Array.getD_eq_getD_getElem?,Array.getElem?_replicate];split<;>rfl
 refine key ops.size (Array.replicate ops.size false) 0 m a _ (by simp) ?_ (λj x hj _ _=>by simp[hfalse j]at hj) (Nat.zero_le _) (.inl (Nat.zero_le _)) (λj oj hj hk=>⟨λhx=>absurd hx (by omega),λhx=>by simp[hfalse j]at hx⟩) st.hr.drew (Grow.refl m _ w st.hr.dom).drew ?_ (λd _=>slotA st.ts d) (λd j o _ hj _=>by simp[hfalse j]at hj) rfl
 ·have:∀n,unl (Array.replicate ops.size false) n<=n:=by
   intro n
   induction n with
   |zero=>exact Nat.le_refl _
   |succ n ihn=>simp only[unl];split<;>omega
  exact this _
 ·have:=st.ts.length;simpa using this
end Go.Abs
namespace Go.Abs
section
variable {P:Program}{m m':Emb}{h h':AHeap}{w w':World}
def opIn_soundV{ops i o}(ho:ops[i]? =some o){q io}(hc:compileOp P ops q o=some io)(hgd0:io.gd=none){ts a v}
  (hg:GV P m) (hr:HR P m h w) (ht:∀t,t∈o.looksAt ops->VR m (ts.getD t undefA) (a.tmps.getD t undef)) (hs:OpStep P io.k (val ts) h v h') (ro:Option Nat) (K:Act->World->Prop) (Q:Exit->Act->World->Prop)
  (hn:∀cv m' w',VR m' v cv->HR P m' h' w'->Grow m h w m' h' w'->K (a.put o.dst cv) w'):wpOpIn (Fd ro) 0 P ops Q i K a w:=by
 unfold compileOp at hc;split at hc
 case h_2=>cases hc
 rename_i g hgd;cases hc;have hg0:g=none:=hgd0;subst hg0;have hw:=wanted_iff (m:=m) (ts:=ts) (a:=a) hgd (λt b hgt=>by cases hgt);unfold wpOpIn;rw[ho];simp only;rw[if_pos (hw.2 trivial)];simp only at hs;split at hs
 case isFalse=>exact absurd hs bad_step
 rename_i hgok;cases hk:compileK P o with
 |none=>rw[hk]at hs;exact absurd hs bad_step
 |some k=>
  rw[hk]at hs;refine op_sound hk (λx hx x' hx'=>?_) (λz=>rfl) hr hs ro K Q (λcv m' w' h1 h2 h3=>hn cv m' w' h1 h2 h3);refine eval_VR hg hx' ?_ (λt hxt=>ht t ?_)
  ·exact List.all_eq_true.1 hgok x (Array.mem_toList_iff.2 hx)
  ·subst hxt;exact List.mem_append_left _ (List.mem_filterMap.2 ⟨.tmp t,by simpa using hx,rfl⟩)
def conA_clos{n x}(h:conA x=true):clos n x:=by
 cases x<;>first
  |(cases h;done)
  |skip
 case bool b=>exact⟨λ_=>none,_,(λ_ _ z=>by cases z),rfl⟩
 case int k b=>exact⟨λ_=>none,_,(λ_ _ z=>by cases z),rfl⟩
 case flt k b=>exact⟨λ_=>none,.float k b,(λ_ _ z=>by cases z),⟨b,rfl,.inl rfl⟩⟩
 case cplx k a b=>exact⟨λ_=>none,.complex k a b,(λ_ _ z=>by cases z),⟨a,b,rfl,.inl rfl,.inl rfl⟩⟩
 all_goals exact⟨λ_=>none,_,(λ_ _ z=>by cases z),rfl⟩
def clos_cells{n x}(h:clos n x):∀y∈x.cells,clos n y:=by
 obtain⟨ma,va,h1,h2⟩:=h;intro y hy;obtain⟨i,hi,rfl⟩:=List.getElem_of_mem hy;obtain⟨v,_,hv⟩:=h2.cells.get (List.getElem?_eq_getElem hi);exact⟨ma,v,h1,hv⟩
theorem setL_mem:∀{l c}{o}{x},x∈setL c o l->x∈c\/x∈l
 |[],c,o,x,h=>.inl h
 |y::l,c,o,x,h=>by
  have h:x∈setL (c.set o y) (o+1) l:=h;rcases setL_mem h with h|h
  ·rcases List.mem_or_eq_of_mem_set h with h|h
   ·exact .inl h
   ·exact .inr (by rw[h];simp)
  ·exact .inr (List.mem_cons_of_mem _ h)
theorem fillA_clos{n}:∀{ps}{z c},(∀x∈z,clos n x)->(∀p∈ps,clos n p.2.2)->fillA z ps=some c->∀x∈c,clos n x
 |[],z,c,hz,_,h,x,hx=>by cases h;exact hz x hx
 |(off,k,v)::r,z,c,hz,hp,h,x,hx=>by
  rw[fillA]at h;split at h
  ·refine fillA_clos (λy hy=>?_) (λp hq=>hp p (List.mem_cons_of_mem _ hq)) h x hx;rcases setL_mem hy with hy|hy
   ·exact hz y hy
   ·exact clos_cells (hp (off,k,v) (by simp)) y hy
  ·cases h
theorem zrep_mem:∀{n}{z}{x},x∈zrep n z->x∈z
 | 0,z,x,h=>by simp[zrep]at h
 |n+1,z,x,h=>by
  have h:x∈z++zrep n z:=h;rcases List.mem_append.1 h with h|h
  ·exact h
  ·exact zrep_mem h
def pnd_grow(gr:Grow m h w m' h' w')(hd:∀b e,m b=some e->b<h.length){e k}(hk:k.live=true)(hb:BR P m w e k)(hout:∀b e',m b=some e'->e'.cb≠e.cb):BR P m' w' e k/\∀b e',m' b=some e'->e'.cb≠e.cb:=by
 have hlt:=hb.lt hk;refine⟨(hb.heap (gr.frame e.cb hlt λb e' he _=>hout b e' he)).mono (gr.le hd),λb e' he=>?_⟩;by_cases hbl:b<h.length
 ·rw[gr.ext b hbl]at he;exact hout b e' he
 ·obtain⟨_,hc⟩:=gr.new b e' (by omega) he;rcases hc with hc|⟨b0,e0,c1,c2,_⟩
  ·omega
  ·rw[<-c2];exact hout b0 e0 c1
def HR.adoptE(hr:HR P m h w){e k}(hk:k.live=true)(hb:BR P m w e k)(hout:∀b e',m b=some e'->e'.cb≠e.cb):HR P (m.add h.length e) (h++[k]) w:=by
 have hnone:m h.length=none:=by
  cases hx:m h.length with
  |none=>rfl
  |some y=>exact absurd (hr.dom _ _ hx) (by omega)
 have hle:m.le (m.add h.length e):=Emb.add_le _ hnone;have hcase:∀b e',(m.add h.length e) b=some e'->(b=h.length/\e' =e)\/(b<h.length/\m b=some e'):=λb e' hbe=>by
  unfold Emb.add at hbe;by_cases hx:b=h.length
  ·rw[if_pos hx]at hbe;cases hbe;exact .inl ⟨hx,rfl⟩
  ·rw[if_neg hx]at hbe;exact .inr ⟨hr.dom _ _ hbe,hbe⟩
 refine⟨λb e' hbe=>?_,λb e' k' hbe hk'=>?_,λb1 b2 e1 e2 k1 k2 hne h1 h2 hk1 hk2 hcb=>?_,λg hg=>?_,λb e' hbe=>?_⟩
 ·rw[List.length_append];rcases hcase b e' hbe with⟨rfl,_⟩|⟨hlt,_⟩
  ·simp
  ·simp;omega
 ·rcases hcase b e' hbe with⟨rfl,rfl⟩|⟨hlt,hm⟩
  ·rw[List.getElem?_append_right (Nat.le_refl _),Nat.sub_self]at hk';cases hk';exact hb.mono hle
  ·rw[List.getElem?_append_left hlt]at hk';exact(hr.blk b e' k' hm hk').mono hle
 ·rcases hcase b1 e1 h1 with⟨rfl,rfl⟩|⟨hl1,hm1⟩
  ·rcases hcase b2 e2 h2 with⟨rfl,rfl⟩|⟨hl2,hm2⟩
   ·exact absurd rfl hne
   ·exact absurd hcb.symm (hout b2 e2 hm2)
  ·rcases hcase b2 e2 h2 with⟨rfl,rfl⟩|⟨hl2,hm2⟩
   ·exact absurd hcb (hout b1 e1 hm1)
   ·rw[List.getElem?_append_left hl1]at hk1;rw[List.getElem?_append_left hl2]at hk2;exact hr.sep b1 b2 e1 e2 k1 k2 hne hm1 hm2 hk1 hk2 hcb
 ·obtain⟨e',he,hx⟩:=hr.glob g hg;exact⟨e',hle _ _ he,hx⟩
 ·rcases hcase b e' hbe with⟨_,rfl⟩|⟨_,hm⟩
  ·exact hb.lt hk
  ·exact hr.lt b e' hm
def Grow.adoptE{m0 h0 w0}(gr:Grow m0 h0 w0 m h w)(hd0:∀b e,m0 b=some e->b<h0.length)(hd:∀b e,m b=some e->b<h.length){e k}(ho:e.own=true)(hlt:w0.heap.size<=e.cb):Grow m0 h0 w0 (m.add h.length e) (h++[k]) w where
 ext:=λb hb=>by
  have:b≠h.length:=by have:=gr.len;omega
  show(if b=h.length then some e else m b)=_;rw[if_neg this];exact gr.ext b hb
 len:=by rw[List.length_append];have:=gr.len;omega
 new:=λb e' hb he=>by
  unfold Emb.add at he;by_cases hx:b=h.length
  ·rw[if_pos hx]at he;cases he;exact⟨ho,.inl hlt⟩
  ·rw[if_neg hx]at he;obtain⟨h1,hc⟩:=gr.new b e' hb he;refine⟨h1,?_⟩;rcases hc with hc|⟨b0,e0,c1,c2,c3,c4,c5⟩
   ·exact .inl hc
   ·have:=hd0 _ _ c1;exact .inr ⟨b0,e0,c1,c2,c3,c4,by rw[tailOf_append_lt (by have:=gr.len;omega)];exact c5⟩
 tl:=λb hb ht=>by
  rw[tailOf_append_lt (by have:=gr.len;omega)]at ht;exact gr.tl b hb ht
 size:=gr.size
 os:=gr.os
 out:=gr.out
 tape:=gr.tape
 frame:=gr.frame
end
def mixOkF_spec{M l f}(h:mixOkF M l f=true){i j x y}(hij:i<j)(hx:l[i]? =some x)(hy:l[j]? =some y)(px:pureK x.k=false)(py:pureK y.k=false)(lx:ldQ x=false)(ly:ldQ y=false)(hj:j≠f):ahead M i j=true:=by
 have hjl:j<l.length:=(List.getElem?_eq_some_iff.1 hy).1;unfold mixOkF at h;rw[List.all_eq_true]at h;have h1:=h j (List.mem_range.2 hjl);rw[List.all_eq_true]at h1;have h2:=h1 i (List.mem_range.2 hij);rw[hx,hy]at h2
 simpa [px,py,lx,ly,hj]using h2
structure Flo(ops:Array Oper)(l:List IOp)(f df es n:Nat)(z:List AV)(ps:List (Nat×Opd))(q:Bool):Prop where
 hf:l[f]? =some {dst:=some df,k:=.bslice es n z ps,gd:=none,q:=q}
 hz:∀x∈z,conA x=true
 hp:∀p∈ps,∃u,p.2=.t u/\looksB ops f u=true
 hr:∀j o,l[j]? =some o->readK o.k=true->(pureK o.k=true\/ldQ o=true)/\looksB ops j df=false
def floOk_spec{ops l f}(h:floOk ops l f=true):∃df es n z ps q,Flo ops l f df es n z ps q:=by
 unfold floOk at h;split at h
 case h_2=>cases h
 rename_i d es n z ps q hf;simp only[Bool.and_eq_true,List.all_eq_true,List.mem_range]at h;obtain⟨⟨h1,h2⟩,h3⟩:=h;refine⟨d,es,n,z,ps,q,hf,h1,λp hp=>?_,λj o hj hk=>?_⟩
 ·have:=h2 p hp;split at this
  ·rename_i u hu;exact⟨u,hu,this⟩
  ·cases this
 ·have:=h3 j (List.getElem?_eq_some_iff.1 hj).1;rw[hj]at this;simp only[hk,Bool.not_true,Bool.false_or,Bool.and_eq_true,Bool.or_eq_true,Bool.not_eq_true']at this;exact this
structure FloInv(P:Program)(l:List IOp)(f df:Nat)(k:ABlk)(T:Nat->TS)(H:Nat->AHeap)(m:Emb)(w:World)(listed:Array Bool)(θ:Nat)(m1:Emb)(tm:Array Value)(w1:World):Prop where
 hθ:θ<=l.length
 hL:θ<=lateAt l\/∃(j:Nat) (o:IOp),l[j]? =some o/\readK o.k=false/\j≠f/\lateAt l<=j/\j<θ
 hS:∀(j:Nat) (o:IOp),l[j]? =some o->readK o.k=false->j≠f->(j<θ↔listed.getD j false=true)
 hf:f<θ->listed.getD f false=true
 hr:HR P m1 (H θ) w1
 hg:Grow m (H 0) w m1 (H θ) w1
 hsz:tm.size=(T 0).length
 h1:∀(d:Nat),(∀(j:Nat) (o:IOp),l[j]? =some o->listed.getD j false=true->o.dst≠some d)->VR m1 ((T 0).getD d undefA) (tm.getD d undef)
 h2:∀(d j:Nat) (o:IOp),l[j]? =some o->listed.getD j false=true->o.dst=some d->(j=f->f<θ)->VR m1 ((T (j+1)).getD d undefA) (tm.getD d undef)
 pd:listed.getD f false=true->θ<=f->∃e:Ent,BR P m1 w1 e k/\e.own=true/\w.heap.size<=e.cb/\(∀b e',m1 b=some e'->e'.cb≠e.cb)/\∀m':Emb,m1.le m'->m' (H f).length=some e->VR m' ((T (f+1)).getD df undefA) (tm.getD df undef)
def region_flo{P cq f}(hmix:P.follows .mixedOrders=true){ops l}(hed:edgesOk (Region.before ops) ops=true)(hsl:slotsOk (Region.before ops) ops=true)
  (hc:zipMapM (λ_ o=>compileOp P ops (mixQ cq o) o) ops.toList 0=some l) (hfo:floOk ops l f=true) (hmo:mixOkF (Region.before ops) l f=true) {T}{H}(hrow:Row P l T H) (hstab:∀(i:Nat) (io:IOp),l[i]? =some io->ldQ io=true->∀θ,θ<=lateAt l->IStep P io (T i) (H θ) (T (i+1)) (H θ)) (hlate:∀(i j:Nat) (x y:IOp),l[i]? =some x->ldQ x=true->l[j]? =some y->readK y.k=false->lateAt l<=j->ahead (Region.before ops) i j=true) {m}{a}{w}
  (st:St P m (T 0) (H 0) a w) (ro:Option Nat) (Q:Exit->Act->World->Prop) (hQ:∀m' a' w',St P m' (T l.length) (H l.length) a' w'->Grow m (H 0) w m' (H l.length) w'->a'.defers=a.defers->Q .normal a' w') (id:Nat):
  (Code.region id ops true).wpIn (Fd ro) 0 P Q a w:=by
 obtain⟨df,es,n,zz,ps,qf,F⟩:=floOk_spec hfo;refine wpIn_region_any hmix ?_;obtain⟨hlen0,hget⟩:=zipMapM_get hc;simp only[Array.length_toList]at hlen0;have hback:∀(j:Nat) (io:IOp),l[j]? =some io->∃o,ops[j]? =some o/\compileOp P ops (mixQ cq o) o=some io:=λj io hj=>by
  have hlt:j<ops.size:=by have:=(List.getElem?_eq_some_iff.1 hj).1;omega
  have ho:ops[j]? =some ops[j]:=Array.getElem?_eq_getElem hlt;obtain⟨io',h1,h2⟩:=hget j ops[j] (by simp);rw[hj]at h1;cases h1;exact⟨_,ho,h2⟩
 have hdst:∀(j:Nat) (io:IOp) (d:Nat),l[j]? =some io->io.dst=some d->∃o,ops[j]? =some o/\o.dst=some d:=λj io d hj hd=>by
  obtain⟨o,h1,h2⟩:=hback j io hj;exact⟨o,h1,by rw[<- (compileOp_dst h2).1];exact hd⟩
 have huniq:∀(i j:Nat) (oi oj:IOp) (d:Nat),l[i]? =some oi->l[j]? =some oj->oi.dst=some d->oj.dst=some d->i=j:=λi j oi oj d hi hj h1 h2=>by
  obtain⟨xi,a1,a2⟩:=hdst i oi d hi h1;obtain⟨xj,b1,b2⟩:=hdst j oj d hj h2;by_cases hlt:i<j
  ·exact absurd b2 ((slotsOk_spec hsl hlt a1 b1).1 d a2).1
  ·by_cases hgt:j<i
   ·exact absurd a2 ((slotsOk_spec hsl hgt b1 a1).1 d b2).1
   ·omega
 have hTstep:∀(j:Nat) (io:IOp),l[j]? =some io->∃v,T (j+1)=put (T j) io.dst v:=λj io hj=>(hrow.step j io hj).1.put
 have hTl:∀j,j<=l.length->(T j).length=(T 0).length:=by
  intro j
  induction j with
  |zero=>intro _;rfl
  |succ j ih=>
   intro hj;obtain⟨v,hv⟩:=hTstep j _ (List.getElem?_eq_getElem (show j<l.length by omega));rw[hv,put_length];exact ih (by omega)
 have hTsame:∀x y t,x<=y->y<=l.length->(∀(j:Nat) (o:IOp),x<=j->j<y->l[j]? =some o->o.dst≠some t)->(T y).getD t undefA=(T x).getD t undefA:=by
  intro x y t hxy hy hno;have:=T_same (T:=T) (t:=t) (a:=x) (y-x) (λj h1 h2=>by
   have hj:l[j]? =some (l[j]'(by omega)):=List.getElem?_eq_getElem (by omega);obtain⟨v,hv⟩:=hTstep j _ hj;exact⟨_,v,hv,hno j _ h1 (by omega) hj⟩)
  rwa [show x+(y-x)=y from by omega]at this
 have hHstep:∀(j:Nat) (io:IOp),l[j]? =some io->readK io.k=true->H (j+1)=H j:=λj io hj hk=>read_I hk (hrow.step j io hj).1
 have hHsame:∀x k,x+k<=l.length->(∀(j:Nat) (o:IOp),x<=j->j<x+k->l[j]? =some o->readK o.k=true)->H (x+k)=H x:=by
  intro x k
  induction k with
  |zero=>intro _ _;rfl
  |succ k ih=>
   intro hk hno;have hj:l[x+k]? =some (l[x+k]'(by omega)):=List.getElem?_eq_getElem (by omega);rw[show x+(k+1)=x+k+1 from by omega,hHstep _ _ hj (hno _ _ (by omega) (by omega) hj)];exact ih (by omega) λj o h1 h2 h3=>hno j o h1 (by omega) h3
 have hHeq:∀x y,x<=l.length->y<=l.length->(∀(j:Nat) (o:IOp),l[j]? =some o->readK o.k=false->(j<x↔j<y))->H x=H y:=by
  intro x y hx hy hno;by_cases hxy:x<=y
  ·have:=hHsame x (y-x) (by omega) (λj o h1 h2 h3=>by
    cases hk:readK o.k with
    |true=>rfl
    |false=>have:=hno j o h3 hk;omega)
   rw[show x+(y-x)=y from by omega]at this;exact this.symm
  ·have:=hHsame y (x-y) (by omega) (λj o h1 h2 h3=>by
    cases hk:readK o.k with
    |true=>rfl
    |false=>have:=hno j o h3 hk;omega)
   rw[show y+(x-y)=x from by omega]at this;exact this
 have hfl:f<l.length:=(List.getElem?_eq_some_iff.1 F.hf).1;obtain⟨cf,mu,tl,hfill,hTf,hHf,hcf⟩:∃cf mu tl,fillA (zrep n zz) (ps.map λp=>(p.1,es,val (T f) p.2))=some cf/\T (f+1)=put (T f) (some df) (.slice (H f).length 0 n es)/\H (f+1)=H f++[.cells cf mu tl]/\∀g:AHeap,OpStep P (.bslice es n zz ps) (val (T f)) g (.slice g.length 0 n es) (g++[.cells cf mu tl]):=by
  have hstf:=(hrow.step f _ F.hf).1;generalize hx:T (f+1)=tx at hstf;generalize hy:H (f+1)=hyy at hstf;cases hstf with
  |run hw hb hs=>
   have hs:StepN (.bslice es n zz ps) _ _ _ _:=hs;obtain⟨c,mu,tl,q1,q2,q3,rfl,rfl⟩:=hs;exact⟨c,mu,tl,q1,rfl,rfl,λg=>⟨c,mu,tl,q1,q2,q3,rfl,rfl⟩⟩
  |skip hw=>exact absurd trivial hw
 have hkl:(ABlk.cells cf mu tl).live=true:=rfl;have hrp:∀{k:OpK},readK k=false->pureK k=false:=λ{k} hk=>by
  cases k<;>first|exact hk|(cases hk;done)
 have hld:∀{o:IOp},readK o.k=false->ldQ o=false:=λ{o} hk=>by
  cases hko:o.k<;>rw[hko]at hk<;>first|(cases hk;done)|simp[ldQ,hko]
 have hreal:∀(listed:Array Bool) (θ:Nat) (m1:Emb) (tm:Array Value) (w1:World),FloInv P l f df (.cells cf mu tl) T H m w listed θ m1 tm w1->listed.getD f false=true->θ<=f->(∀(j:Nat) (o:IOp),l[j]? =some o->readK o.k=false->j<f->listed.getD j false=true)->
   ∃m2,FloInv P l f df (.cells cf mu tl) T H m w listed (f+1) m2 tm w1:=by
  intro listed θ m1 tm w1 I hlf hθf hall;have e:H θ=H f:=hHeq θ f I.hθ (by omega) λj oj hj hk=>by
   by_cases hjf:j=f
   ·subst hjf;omega
   ·constructor
    ·intro h;omega
    ·intro h;exact(I.hS j oj hj hk hjf).2 (hall j oj hj hk h)
  obtain⟨en,b1,b2,b3,b4,b5⟩:=I.pd hlf hθf;have hr:=I.hr;have hg:=I.hg;rw[e]at hr hg;have hnone:m1 (H f).length=none:=by
   cases hx:m1 (H f).length with
   |none=>rfl
   |some y=>exact absurd (hr.dom _ _ hx) (by omega)
  have mle:m1.le (m1.add (H f).length en):=Emb.add_le _ hnone;refine⟨m1.add (H f).length en,⟨by omega,.inl (by have:=late_lt F.hf rfl;omega),λj oj hj hk hjf=>?_,λ_=>hlf,by rw[hHf];exact hr.adoptE hkl b1 b4,by rw[hHf];exact hg.adoptE st.hr.dom hr.dom b2 b3,I.hsz,λd hd=>VR.mono mle _ _ (I.h1 d hd),λd j oj hj hl hd _=>?_,λ_ hx=>absurd hx (by omega)⟩⟩
  ·constructor
   ·intro h;exact hall j oj hj hk (by omega)
   ·intro h;have:=(I.hS j oj hj hk hjf).2 h;omega
  ·by_cases hjf:j=f
   ·subst hjf;rw[F.hf]at hj;cases hj;cases hd;exact b5 _ mle (by simp[Emb.add])
   ·exact VR.mono mle _ _ (I.h2 d j oj hj hl hd λz=>absurd z hjf)
 have hfin:∀(listed:Array Bool) (θ:Nat) (m1:Emb) (a1:Act) (w1:World),(∀i,i<ops.size->listed.getD i false=true)->FloInv P l f df (.cells cf mu tl) T H m w listed θ m1 a1.tmps w1->f<θ->a1.defers=a.defers->Q .normal a1 w1:=by
  intro listed θ m1 a1 w1 hall I hfθ hd;have e:=hHeq θ l.length I.hθ (Nat.le_refl _) λj o hj hk=>by
   have hjl:=(List.getElem?_eq_some_iff.1 hj).1;by_cases hjf:j=f
   ·subst hjf;omega
   ·have:=(I.hS j o hj hk hjf).2 (hall j (by omega));omega
  have hr:=I.hr;have hg:=I.hg;rw[e]at hr hg;have hsz:=I.hsz;refine hQ m1 a1 w1 ⟨hr,VRs.of_get ?_ ?_⟩ hg hd
  ·have:=hTl l.length (Nat.le_refl _);simp;omega
  ·intro t x hx;have hlt:=(List.getElem?_eq_some_iff.1 hx).1;have hlt':t<a1.tmps.size:=by have:=hTl l.length (Nat.le_refl _);omega
   have ex:(T l.length).getD t undefA=x:=by simp[List.getD,hx]
   have ey:a1.tmps.getD t undef=a1.tmps[t]:=by simp[Array.getD_eq_getD_getElem?,Array.getElem?_eq_getElem hlt']
   refine⟨a1.tmps[t],by simp,?_⟩;rw[<-ex,<-ey];by_cases hw:∃(j:Nat) (o:IOp),l[j]? =some o/\o.dst=some t
   ·obtain⟨j,o,hj,ho⟩:=hw;have hjl:=(List.getElem?_eq_some_iff.1 hj).1;rw[hTsame (j+1) l.length t (by omega) (Nat.le_refl _) (λk o' a2 a3 a4 a5=>by have:=huniq j k o o' t hj a4 ho a5;omega)];exact I.h2 t j o hj (hall j (by omega)) ho λ_=>hfθ
   ·rw[hTsame 0 l.length t (by omega) (Nat.le_refl _) (λk o' _ _ h4 h5=>hw ⟨k,o',h4,h5⟩)];exact I.h1 t λj o hj _ ho=>hw ⟨j,o,hj,ho⟩
 have hdone:∀(listed:Array Bool) (θ:Nat) (m1:Emb) (a1:Act) (w1:World),(∀i,i<ops.size->listed.getD i false=true)->FloInv P l f df (.cells cf mu tl) T H m w listed θ m1 a1.tmps w1->a1.defers=a.defers->Q .normal a1 w1:=by
  intro listed θ m1 a1 w1 hall I hd;by_cases hfθ:f<θ
  ·exact hfin listed θ m1 a1 w1 hall I hfθ hd
  ·obtain⟨m2,I2⟩:=hreal listed θ m1 a1.tmps w1 I (hall f (by omega)) (by omega) λj o hj _ _=>hall j (by have:=(List.getElem?_eq_some_iff.1 hj).1;omega)
   exact hfin listed (f+1) m2 a1 w1 hall I2 (by omega) hd
 have key:∀(fuel:Nat) (listed:Array Bool) (θ:Nat) (m1:Emb) (a1:Act) (w1:World),listed.size=ops.size->unl listed ops.size<=fuel->
   (∀j x,listed.getD j false=true->x<ops.size->ahead (Region.before ops) x j=true->listed.getD x false=true)->FloInv P l f df (.cells cf mu tl) T H m w listed θ m1 a1.tmps w1->a1.defers=a.defers->wpAnyIn (Fd ro) 0 P .any ops Q fuel listed a1 w1:=by
  intro fuel
  induction fuel with
  |zero=>
   intro listed θ m1 a1 w1 hsz' hu hcl I hd;have hall:=unl_zero ops.size (show unl listed ops.size=0 by omega);exact⟨ready_all hsz' hall,hdone listed θ m1 a1 w1 hall I hd⟩
  |succ fuel ih=>
   intro listed θ m1 a1 w1 hsz' hu hcl I hd;refine⟨λhrn=>hdone listed θ m1 a1 w1 (ready_nil hed hsz' hrn) I hd,λi hi=>?_⟩;obtain⟨o,ho,hli,hed'⟩:=(ready_mem hsz').1 hi;have hin:i<ops.size:=(Array.getElem?_eq_some_iff.1 ho).1;obtain⟨io,hio,hcomp⟩:=hget i o (by simpa using ho);have hcomp:compileOp P ops (mixQ cq o) o=some io:=hcomp;obtain⟨hst,_⟩:=hrow.step i io hio;have hahead:∀x,x<ops.size->ahead (Region.before ops) x i=true->listed.getD x false=true:=λx hx ha=>by
    obtain⟨e,he,hb,hor⟩:=(edgesOk_spec hed ho).2 x hx ha;have hle:=hed' e he hb;rcases hor with rfl|hor
    ·exact hle
    ·exact hcl e.on x hle hx hor
   have hcl':∀j x,(listed.setIfInBounds i true).getD j false=true->x<ops.size->ahead (Region.before ops) x j=true->(listed.setIfInBounds i true).getD x false=true:=by
    intro j x hj hx ha;rw[getD_set_iff (by omega)]at hj ⊢;split
    ·rfl
    ·split at hj
     ·rename_i hji;subst hji;exact hahead x hx ha
     ·exact hcl j x hj hx ha
   have hu':unl (listed.setIfInBounds i true) ops.size<=fuel:=by
    have:=unl_lt (listed:=listed) (by omega) hli ops.size hin;omega
   have hne:∀j,j≠i->(listed.setIfInBounds i true).getD j false=listed.getD j false:=λj hj=>by rw[getD_set_iff (by omega),if_neg hj]
   have hlt:(listed.setIfInBounds i true).getD i false=true:=by rw[getD_set_iff (by omega),if_pos rfl]
   have hd':io.dst=o.dst:=(compileOp_dst hcomp).1;have hslot:∀(θ:Nat) (m1:Emb) (tm:Array Value) (w1:World),FloInv P l f df (.cells cf mu tl) T H m w listed θ m1 tm w1->(listed.getD f false=true->θ<=f->i<f\/looksB ops i df=false)->∀t,t∈o.looksAt ops->VR m1 ((T i).getD t undefA) (tm.getD t undef):=by
    intro θ m1 tm w1 I hnp t ht;by_cases hex:∃(x:Nat) (ox:IOp),l[x]? =some ox/\listed.getD x false=true/\ox.dst=some t
    ·obtain⟨x,ox,hx,hxl,hxd⟩:=hex;obtain⟨oo,hoo,hxd'⟩:=hdst x ox t hx hxd;have hxi:x<i:=by
      by_cases e1:x=i
      ·subst e1;rw[hli]at hxl;cases hxl
      ·by_cases e2:x<i
       ·exact e2
       ·have e3:=(slotsOk_spec hsl (show i<x by omega) ho hoo).2 t hxd' ht;have e4:=hcl x i hxl hin e3;rw[hli]at e4;cases e4
     rw[hTsame (x+1) i t (by omega) (by omega) (λk o' a2 a3 a4 a5=>by have:=huniq x k ox o' t hx a4 hxd a5;omega)];refine I.h2 t x ox hx hxl hxd λhxf=>?_
     subst hxf;by_cases hh:x<θ
     ·exact hh
     ·rcases hnp hxl (by omega)with h|h
      ·omega
      ·rw[F.hf]at hx;cases hx;cases hxd;unfold looksB at h;rw[ho]at h;simp only at h;have:=List.contains_iff_mem.2 ht;rw[this]at h;cases h
    ·rw[hTsame 0 i t (by omega) (by omega) (λk o' e2 e3 e4 e5=>by
      obtain⟨oo,hoo,hd'⟩:=hdst k o' t e4 e5;have h6:=((slotsOk_spec hsl e3 hoo ho).1 t hd').2 ht;exact hex ⟨k,o',e4,hahead k (Array.getElem?_eq_some_iff.1 hoo).1 h6,e5⟩)]
     exact I.h1 t λj oj hj hl hd'=>hex ⟨j,oj,hj,hl,hd'⟩
   have hadv:i≠f->∀(θ θ':Nat) (m1 m':Emb) (tm:Array Value) (w1 w':World) (cv:Value) (v':AV),FloInv P l f df (.cells cf mu tl) T H m w listed θ m1 tm w1->θ'<=l.length->(θ'<=lateAt l\/∃(j:Nat) (o:IOp),l[j]? =some o/\readK o.k=false/\j≠f/\lateAt l<=j/\j<θ')->(∀(j:Nat) (o:IOp),l[j]? =some o->readK o.k=false->j≠f->(j<θ'↔(listed.setIfInBounds i true).getD j false=true))->(f<θ'↔f<θ)->
     T (i+1)=put (T i) o.dst v'->VR m' v' cv->HR P m' (H θ') w'->Grow m1 (H θ) w1 m' (H θ') w'->FloInv P l f df (.cells cf mu tl) T H m w (listed.setIfInBounds i true) θ' m' (putA tm o.dst cv) w':=by
    intro hif θ θ' m1 m' tm w1 w' cv v' I hθ' hL' hS' hff hT' hv' hr' hg';have mle:=hg'.le I.hr.dom;refine⟨hθ',hL',hS',λh=>?_,hr',I.hg.trans hg' st.hr.dom,by rw[putA_size];exact I.hsz,λd hdn=>?_,λd j oj hj hl hdj hjf=>?_,λhlf hθf=>?_⟩
    ·rw[hne f (Ne.symm hif)];exact I.hf (hff.1 h)
    ·have hnd:o.dst≠some d:=by rw[<-hd'];exact hdn i io hio hlt
     rw[putA_ne hnd];refine VR.mono mle _ _ (I.h1 d λj oj hj hl=>hdn j oj hj ?_);by_cases e1:j=i
     ·subst e1;exact hlt
     ·rw[hne j e1];exact hl
    ·by_cases e1:j=i
     ·subst e1;rw[hio]at hj;cases hj;rw[hT',<-hd',hdj];exact put_same (by rw[I.hsz,hTl j (by omega)]) hv'
     ·have hnd:o.dst≠some d:=λhx=>by
       rw[<-hd']at hx;exact e1 (huniq j i oj io d hj hio hdj hx)
      rw[putA_ne hnd];rw[hne j e1]at hl;exact VR.mono mle _ _ (I.h2 d j oj hj hl hdj λz=>hff.1 (hjf z))
    ·rw[hne f (Ne.symm hif)]at hlf;obtain⟨e,b1,b2,b3,b4,b5⟩:=I.pd hlf (by have:=hff.2;omega);obtain⟨c1,c2⟩:=pnd_grow hg' I.hr.dom hkl b1 b4;have hnd:o.dst≠some df:=λhx=>by
      rw[<-hd']at hx;exact hif (huniq i f io _ df hio F.hf hx rfl)
     refine⟨e,c1,b2,b3,c2,λm2 hm2 he2=>?_⟩;rw[putA_ne hnd];exact b5 m2 (Emb.le_trans mle hm2) he2
   have htm:∀cv,(a1.put o.dst cv).tmps=putA a1.tmps o.dst cv:=λcv=>by cases o.dst<;>rfl
   by_cases hif:i=f
   ·
    subst hif;rw[F.hf]at hio;cases hio;have hθf:θ<=i:=by
     by_cases hh:i<θ
     ·have:=I.hf hh;rw[hli]at this;cases this
     ·omega
    refine opIn_soundV ho hcomp rfl I.hr.gv I.hr (hslot θ m1 a1.tmps w1 I λh=>by rw[hli]at h;cases h) (hcf (H θ)) ro _ Q ?_;intro cv m' w' hv hr' hg';have hclos:∀x∈cf,clos (H θ).length x:=fillA_clos (λx hx=>conA_clos (F.hz x (zrep_mem hx))) (λp hp=>by
     obtain⟨q,hq,rfl⟩:=List.mem_map.1 hp;obtain⟨u,hu,hlu⟩:=F.hp q hq;have hu2:u∈o.looksAt ops:=by
      unfold looksB at hlu;rw[ho]at hlu;exact List.contains_iff_mem.1 hlu
     have:=hslot θ m1 a1.tmps w1 I (λh=>by rw[hli]at h;cases h) u hu2;show clos _ (val (T i) q.2);rw[hu];exact⟨m1,_,I.hr.dom,this⟩) hfill
    have hcb:closB (H θ).length (.cells cf mu tl):=λj x hx=>hclos x (List.mem_of_getElem? hx)
    have hup:m'.upTo (H θ).length=m1:=by
     funext b;unfold Emb.upTo;by_cases hb:b<(H θ).length
     ·rw[if_pos hb];exact hg'.ext b hb
     ·rw[if_neg hb];cases hx:m1 b with
      |none=>rfl
      |some e=>exact absurd (I.hr.dom b e hx) hb
    have hr2:=HR.forget I.hr hr' hg';have hg2:=hg'.forget;rw[hup]at hr2 hg2;have hv2:=hv;rw[VR]at hv2;obtain⟨e,ca,cap,he,hrest⟩:=hv2;have hb:=(hr'.blk _ e (.cells cf mu tl) he (by simp)).cut hcb;rw[hup]at hb;obtain⟨ho1,hc⟩:=hg'.new _ e (Nat.le_refl _) he;have hcbl:w1.heap.size<=e.cb:=by
     rcases hc with hc|⟨b0,e0,c1,c2,c3,c4,c5⟩
     ·exact hc
     ·rw[tailOf_append_lt (I.hr.dom _ _ c1),c4]at c5;cases c5
    have hdo:o.dst=some df:=hd'.symm;refine ih _ θ m1 (a1.put o.dst cv) w' (by simp[hsz']) hu' hcl' ?_ (by rw[put_defers];exact hd);rw[htm];refine⟨I.hθ,I.hL,λj oj hj hk hjf=>by rw[hne j hjf];exact I.hS j oj hj hk hjf,λh=>by omega,hr2,I.hg.trans hg2 st.hr.dom,by rw[putA_size];exact I.hsz,λd hdn=>?_,λd j oj hj hl hdj hjf=>?_,λ_ _=>⟨e,hb,ho1,Nat.le_trans I.hg.size hcbl,λb e' hbe=>by have:=I.hr.lt b e' hbe;omega,λm2 hm2 he2=>?_⟩⟩
    ·have hnd:o.dst≠some d:=by rw[hdo];exact hdn i _ F.hf hlt
     rw[putA_ne hnd];refine I.h1 d λj oj hj hl=>hdn j oj hj ?_
     by_cases e1:j=i
     ·subst e1;exact hlt
     ·rw[hne j e1];exact hl
    ·by_cases e1:j=i
     ·have:=hjf e1;omega
     ·have hnd:o.dst≠some d:=λhx=>by
       rw[hdo]at hx;exact e1 (huniq j i oj _ d hj F.hf hdj hx)
      rw[putA_ne hnd];rw[hne j e1]at hl;exact I.h2 d j oj hj hl hdj hjf
    ·rw[hTf,hdo];exact put_same (by rw[I.hsz,hTl i (by omega)]) (by rw[VR];exact⟨e,ca,cap,he2,hrest⟩)
   by_cases hrd:readK io.k=true
   ·
    obtain⟨hpl,hlk⟩:=F.hr i io hio hrd;have hst':IStep P io (T i) (H θ) (T (i+1)) (H θ):=by
     rcases hpl with hp|hp
     ·exact(pure_I hp hst).2 _
     ·refine hstab i io hio hp θ ?_;rcases I.hL with h|⟨j,oj,h1,h2,h5,h3,h4⟩
      ·exact h
      ·have e:=hcl j i ((I.hS j oj h1 h2 h5).1 h4) hin (hlate i j io oj hio hp h1 h2 h3);rw[hli]at e;cases e
    refine opIn_sound ho hcomp I.hr.gv I.hr (by rw[I.hsz,hTl i (by omega)]) (hslot θ m1 a1.tmps w1 I λ_ _=>.inr hlk) hst' ro _ Q ?_;intro cv v' m' w' hT' hv' hrx hgx;refine ih _ θ m' (a1.put o.dst cv) w' (by simp[hsz']) hu' hcl' ?_ (by rw[put_defers];exact hd);rw[htm];refine hadv hif θ θ m1 m' a1.tmps w1 w' cv v' I I.hθ I.hL (λj oj hj hk hjf=>?_) Iff.rfl hT' hv' hrx hgx;have hji:j≠i:=λe=>by
     subst e;rw[hio]at hj;cases hj;rw[hrd]at hk;cases hk
    rw[hne j hji];exact I.hS j oj hj hk hjf
   ·have hrd':readK io.k=false:=by simpa using hrd
    have hheavy:∀(j:Nat) (oj:IOp),l[j]? =some oj->readK oj.k=false->j<i->listed.getD j false=true:=λj oj hj hk hji=>
     hahead j (by have:=(List.getElem?_eq_some_iff.1 hj).1;omega) (mixOkF_spec hmo hji hj hio (hrp hk) (hrp hrd') (hld hk) (hld hrd') hif)
    have hlate:∀(j:Nat) (oj:IOp),l[j]? =some oj->readK oj.k=false->j≠f->i<j->listed.getD j false=false:=λj oj hj hk hjf hij=>by
     cases hx:listed.getD j false with
     |false=>rfl
     |true=>
      have e3:=mixOkF_spec hmo hij hio hj (hrp hrd') (hrp hk) (hld hrd') (hld hk) hjf;have e4:=hcl j i hx hin e3;rw[hli]at e4;cases e4
    obtain⟨θ1,m2,I1,hff⟩:∃θ1 m2,FloInv P l f df (.cells cf mu tl) T H m w listed θ1 m2 a1.tmps w1/\(f<θ1↔f<i):=by
     by_cases hfi:f<i
     ·have hlf:=hheavy f _ F.hf rfl hfi;by_cases hfθ:f<θ
      ·exact⟨θ,m1,I,by omega⟩
      ·obtain⟨m2,I2⟩:=hreal listed θ m1 a1.tmps w1 I hlf (by omega) λj oj hj hk hjf=>hheavy j oj hj hk (by omega)
       exact⟨f+1,m2,I2,by omega⟩
     ·refine⟨θ,m1,I,⟨λh=>?_,λh=>absurd h hfi⟩⟩;have:=(I.hS i io hio hrd' hif).1 (by omega);rw[hli]at this;cases this
    have hHi:H θ1=H i:=hHeq θ1 i I1.hθ (by omega) λj oj hj hk=>by
     by_cases hjf:j=f
     ·subst hjf;exact hff
     ·constructor
      ·intro hjθ;have hjl':=(I1.hS j oj hj hk hjf).1 hjθ;by_cases e1:j=i
       ·subst e1;rw[hli]at hjl';cases hjl'
       ·by_cases e2:j<i
        ·exact e2
        ·have:=hlate j oj hj hk hjf (by omega);rw[hjl']at this;cases this
      ·intro hji;exact(I1.hS j oj hj hk hjf).2 (hheavy j oj hj hk hji)
    refine opIn_sound ho hcomp I1.hr.gv I1.hr (by rw[I1.hsz,hTl i (by omega)]) (hslot θ1 m2 a1.tmps w1 I1 λ_ h2=>.inl (by omega)) (by rw[hHi];exact hst) ro _ Q ?_;intro cv v' m' w' hT' hv' hrx hgx;refine ih _ (i+1) m' (a1.put o.dst cv) w' (by simp[hsz']) hu' hcl' ?_ (by rw[put_defers];exact hd);rw[htm];refine hadv hif θ1 (i+1) m2 m' a1.tmps w1 w' cv v' I1 (by omega) (by by_cases hc:i+1<=lateAt l;exact .inl hc;exact .inr ⟨i,io,hio,hrd',hif,by omega,by omega⟩) (λj oj hj hk hjf=>?_) (by omega) hT' hv' hrx hgx;by_cases e1:j=i
    ·subst e1;exact⟨λ_=>hlt,λ_=>by omega⟩
    ·rw[hne j e1];constructor
     ·intro hji;exact hheavy j oj hj hk (by omega)
     ·intro hjl';by_cases e2:j<i
      ·omega
      ·have:=hlate j oj hj hk hjf (by omega);rw[hjl']at this;cases this
 have hfalse:∀j,(Array.replicate ops.size false).getD j false=false:=λj=>by
  rw[Array.getD_eq_getD_getElem?,Array.getElem?_replicate];split<;>rfl
 refine key ops.size (Array.replicate ops.size false) 0 m a _ (by simp) ?_ (λj x hj _ _=>by simp[hfalse j]at hj) ⟨Nat.zero_le _,.inl (Nat.zero_le _),(λj oj hj hk _=>⟨λhx=>absurd hx (by omega),λhx=>by simp[hfalse j]at hx⟩),(λhx=>absurd hx (by omega)),st.hr.drew,(Grow.refl m _ w st.hr.dom).drew,?_,(λd _=>slotA st.ts d),(λd j o _ hj _ _=>by simp[hfalse j]at hj),λhx=>by simp[hfalse f]at hx⟩ rfl
 ·have:∀n,unl (Array.replicate ops.size false) n<=n:=by
   intro n
   induction n with
   |zero=>exact Nat.le_refl _
   |succ n ihn=>simp only[unl];split<;>omega
  exact this _
 ·have:=st.ts.length;simpa using this
end Go.Abs
namespace Go.Abs
def reg_cases{P ops draw c}(h:compileReg P ops draw=some c):
  (∃l,c=.ops l/\(compileRegion P ops draw=some l\/(draw=true/\(∃l',compileRegion P ops draw=some l')/\∃cq,zipMapM (λ_ o=>compileOp P ops (mixQ cq o) o) ops.toList 0=some l/\mixOk (Region.before ops) l=true/\l.any ldQ=false)))\/
  (∃l,c=.opsS l/\draw=true/\(∃l',compileRegion P ops draw=some l')/\zipMapM (λ_ o=>compileOp P ops false o) ops.toList 0=some l)\/
  (∃l,c=.opsM l/\draw=true/\(∃l',compileRegion P ops draw=some l')/\∃cq,zipMapM (λ_ o=>compileOp P ops (mixQ cq o) o) ops.toList 0=some l/\(mixOk (Region.before ops) l=true\/∃f,floOk ops l f=true/\mixOkF (Region.before ops) l f=true)/\lateOk (Region.before ops) l=true):=by
 unfold compileReg at h;split at h
 ·cases h
 ·rename_i l hl;split at h
  ·rename_i hq;split at h
   ·rename_i l' l2 l3 hl' hl2 hl3;split at h
    ·rename_i hm;rw[Bool.and_eq_true,Bool.not_eq_true']at hm;cases h;exact .inl ⟨l',rfl,.inr ⟨hq.2,⟨l,hl⟩,0,hl',hm.1,hm.2⟩⟩
    ·split at h
     ·rename_i hm;rw[Bool.and_eq_true,Bool.not_eq_true']at hm;cases h;exact .inl ⟨l2,rfl,.inr ⟨hq.2,⟨l,hl⟩,1,hl2,hm.1,hm.2⟩⟩
     ·split at h
      ·rename_i hm;cases h;rw[Bool.and_eq_true,Bool.and_eq_true]at hm;obtain⟨f,hf⟩:=Option.isSome_iff_exists.1 hm.1.2;have h1:=List.find?_some hf;rw[Bool.and_eq_true]at h1;exact .inr (.inr ⟨l3,rfl,hq.2,⟨l,hl⟩,2,hl3,.inr ⟨f,h1.1,h1.2⟩,hm.2⟩)
      ·split at h
       ·split at h
        ·rename_i hm;rw[Bool.and_eq_true,Bool.and_eq_true]at hm;cases h;exact .inr (.inr ⟨l3,rfl,hq.2,⟨l,hl⟩,2,hl3,.inl hm.1.2,hm.2⟩)
        ·cases h;exact .inr (.inl ⟨l',rfl,hq.2,⟨l,hl⟩,hl'⟩)
       ·split at h
        ·rename_i hm;rw[Bool.and_eq_true]at hm;cases h;exact .inr (.inr ⟨l3,rfl,hq.2,⟨l,hl⟩,2,hl3,.inl hm.1,hm.2⟩)
        ·split at h
         ·rename_i hm;cases h;rw[Bool.and_eq_true,Bool.and_eq_true]at hm;obtain⟨f,hf⟩:=Option.isSome_iff_exists.1 hm.1.2;have h1:=List.find?_some hf;rw[Bool.and_eq_true]at h1;exact .inr (.inr ⟨l3,rfl,hq.2,⟨l,hl⟩,2,hl3,.inr ⟨f,h1.1,h1.2⟩,hm.2⟩)
         ·cases h;exact .inl ⟨l,rfl,.inl hl⟩
   ·cases h
  ·cases h;exact .inl ⟨l,rfl,.inl hl⟩
def Marks(m:Emb)(w:World)(lo:Nat)(ds:List Deferred):Prop:=
 ∃rs:List Nat,ds=rs.map (λr=>({target:=.collected r,args:=#[] }:Deferred))/\rs.Nodup/\∀r∈rs,lo<=r/\w.heap[r]? =some (.deferred (some []))/\∀b e,m b=some e->e.cb≠r
def Marks.nil(m:Emb)(w:World)(lo:Nat):Marks m w lo []:=⟨[],rfl,by simp,by simp⟩
def Marks.grow{m m' h h' w w' lo ds}(k:Marks m w lo ds)(g:Grow m h w m' h' w')(hd:∀b e,m b=some e->b<h.length):Marks m' w' lo ds:=by
 obtain⟨rs,h1,h2,h3⟩:=k;refine⟨rs,h1,h2,λr hr=>?_⟩;obtain⟨a,b,c⟩:=h3 r hr;have hlt:r<w.heap.size:=(Array.getElem?_eq_some_iff.1 b).1;refine⟨a,?_,?_⟩
 ·rw[g.frame r hlt (λb e hb _=>c b e hb)];exact b
 ·intro b' e hb;by_cases hx:b'<h.length
  ·rw[g.ext b' hx]at hb;exact c b' e hb
  ·obtain⟨_,hc⟩:=g.new b' e (by omega) hb;rcases hc with hc|⟨b0,e0,c1,c2,_⟩
   ·omega
   ·rw[<-c2];exact c b0 e0 c1
def Ev(P:Program)(ro:Option Nat)(c:ICode)(ts:TS)(h:AHeap)(e:Ex)(ts':TS)(h':AHeap):Prop:=
 ∀cc,compile P cc=some c->∀(m:Emb) (a:Act) (w:World) (lo:Nat),lo<=w.heap.size->St P m ts h a w->Marks m w lo a.defers->∀Q:Exit->Act->World->Prop,
  (∀m' a' w',St P m' ts' h' a' w'->Grow m h w m' h' w'->Marks m' w' lo a'.defers->Q e.conc a' w')->cc.wpIn (Fd ro) 0 P Q a w
section
variable {P:Program}{b:Frame}{a:Act}{k:List Item}{cs:List Frame}{w:World}{Q:Exit->Act->World->Prop}{F:Fence}{n:Nat}
def stepR_scope{c}:step P (lone (b.atR a (.code (.scope c)::k)) cs w)=.next (lone (b.atR a (.code c:: .inScope c::k)) cs w):=
 step_lone_go (by simp[stepG,stepG.exec,Frame.atR])
def stepR_inScope{c}:step P (lone (b.atR a (.inScope c::k)) cs w)=.next (lone (b.atR a k) cs w):=
 step_lone_go (by simp[stepG,stepG.exec,Frame.atR])
def noGoto(Q:Exit->Act->World->Prop):Exit->Act->World->Prop
 |.goto _,_,_=>False
 |e,a,w=>Q e a w
def wpIn_scope{c}(h:c.wpIn F n P (noGoto Q) a w):(Code.scope c).wpIn F n P Q a w:=by
 intro b k cs hro hb hr;have h0:(lone (b.atR a (.code (.scope c)::k)) cs w).fenced P F:=fenced_calm hb hr rfl;obtain⟨e,a₁,w₁,hq,harr⟩:=h b (.inScope c::k) cs hro hb hr;cases e with
 |normal=>exact⟨.normal,a₁,w₁,hq,.head h0 stepR_scope (StepsIn.trans harr (.one (fenced_calm hb hr rfl) stepR_inScope))⟩
 |exit id=>
  have hx:exitTo id (.inScope c::k)=exitTo id k:=by simp[exitTo]
  exact⟨.exit id,a₁,w₁,hq,λk' hk=>.head h0 stepR_scope (harr.1 k' (by rw[hx];exact hk)),
   λhr' hk=>let ⟨k₁,h1,h2⟩:=harr.2 hr' (by rw[hx];exact hk);⟨k₁,h1,.head h0 stepR_scope h2⟩⟩
 |goto l=>exact hq.elim
 |ret=>exact⟨.ret,a₁,w₁,hq,.of_steps (.one h0 stepR_scope) harr⟩
 |panic ch=>exact⟨.panic ch,a₁,w₁,hq,.of_steps (.one h0 stepR_scope) harr⟩
 |outgrown=>exact⟨.outgrown,a₁,w₁,hq,.of_steps (.one h0 stepR_scope) harr⟩
end
section
variable {P:Program}{ro:Option Nat}{c x y:ICode}{ts ts1 ts':TS}{h h1 h':AHeap}{e:Ex}
def Ev.of (H:∀cc,(∀a,cc≠.scope a)->compile P cc=some c->∀(m:Emb) (a:Act) (w:World) (lo:Nat),lo<=w.heap.size->St P m ts h a w->Marks m w lo a.defers->∀Q:Exit->Act->World->Prop,
  (∀m' a' w',St P m' ts' h' a' w'->Grow m h w m' h' w'->Marks m' w' lo a'.defers->Q e.conc a' w')->cc.wpIn (Fd ro) 0 P Q a w):Ev P ro c ts h e ts' h':=by
 intro cc
 induction cc with
 |scope a ih=>
  intro hc m a w lo hlo st hm Q hQ;refine wpIn_scope (ih (by simpa [compile]using hc) m a w lo hlo st hm _ λm' a' w' s g k=>?_);cases e<;>exact hQ m' a' w' s g k
 |_=>intro hc;exact H _ (by simp) hc
theorem Ev.skip:Ev P ro .skip ts h .normal ts h:=by
 refine Ev.of λcc hns hc m a w lo hlo st hm Q hQ=>?_
 have hq:=hQ m a w st (Grow.refl m h w st.hr.dom) hm;cases cc with
 |skip=>exact wpIn_skip hq
 |label l=>exact wpIn_label hq
 |scope a=>exact absurd rfl (hns a)
 |region id ops draw=>rcases reg_cases (by simpa only[compile]using hc)with⟨_,h1,_⟩|⟨_,h1,_⟩|⟨_,h1,_⟩<;>cases h1
 |block id a=>simp[compile]at hc
 |loop a=>simp[compile]at hc
 |_=>
  simp only[compile]at hc
  (repeat' split at hc)
  all_goals cases hc
theorem Ev.exit{id}:Ev P ro (.exit id) ts h (.exit id) ts h:=by
 refine Ev.of λcc hns hc m a w lo hlo st hm Q hQ=>?_
 have hq:=hQ m a w st (Grow.refl m h w st.hr.dom) hm;cases cc with
 |exit id'=>simp[compile]at hc;subst hc;exact wpIn_exit hq
 |scope a=>exact absurd rfl (hns a)
 |region id ops draw=>rcases reg_cases (by simpa only[compile]using hc)with⟨_,h1,_⟩|⟨_,h1,_⟩|⟨_,h1,_⟩<;>cases h1
 |block id a=>simp[compile]at hc
 |loop a=>simp[compile]at hc
 |_=>
  simp only[compile]at hc
  (repeat' split at hc)
  all_goals cases hc
theorem Ev.ret:Ev P ro .ret ts h .ret ts h:=by
 refine Ev.of λcc hns hc m a w lo hlo st hm Q hQ=>?_
 have hq:=hQ m a w st (Grow.refl m h w st.hr.dom) hm;cases cc with
 |ret=>exact wpIn_ret hq
 |scope a=>exact absurd rfl (hns a)
 |region id ops draw=>rcases reg_cases (by simpa only[compile]using hc)with⟨_,h1,_⟩|⟨_,h1,_⟩|⟨_,h1,_⟩<;>cases h1
 |block id a=>simp[compile]at hc
 |loop a=>simp[compile]at hc
 |_=>
  simp only[compile]at hc
  (repeat' split at hc)
  all_goals cases hc
theorem Ev.ops(hmix:P.follows .mixedOrders=true){l}(hs:IOps P l ts h ts' h'):Ev P ro (.ops l) ts h .normal ts' h':=by
 refine Ev.of λcc hns hc m a w lo hlo st hm Q hQ=>?_
 cases cc with
 |region id ops draw=>
  rcases reg_cases (by simpa only[compile]using hc)with⟨l',h1,hl⟩|⟨_,h1,_⟩|⟨_,h1,_⟩<;>cases h1
  rcases hl with hl|⟨hd,⟨l2,hl2⟩,cq,hz,hmo,hld⟩
  case inr=>
   subst hd;simp only[compileRegion,if_true]at hl2;split at hl2
   case isFalse=>cases hl2
   rename_i hok2;simp only[Bool.and_eq_true]at hok2;obtain⟨T,H,rfl,rfl,rfl,rfl,hrow⟩:=hs.row;rw[List.any_eq_false]at hld;exact region_mix hmix hok2.1 hok2.2 hz hmo hrow (λi io hio hl=>absurd hl (hld io (List.mem_of_getElem? hio))) (λi j x y hx hl=>absurd hl (hld x (List.mem_of_getElem? hx))) st ro Q (λm' a' w' s g d=>hQ m' a' w' s g (by rw[d];exact hm.grow g st.hr.dom)) id
  cases draw with
  |false=>exact region_seq hl hs st ro Q (λm' a' w' s g d=>hQ m' a' w' s g (by rw[d];exact hm.grow g st.hr.dom)) id
  |true=>exact region_draw hmix hl hs st ro Q (λm' a' w' s g d=>hQ m' a' w' s g (by rw[d];exact hm.grow g st.hr.dom)) id
 |scope a=>exact absurd rfl (hns a)
 |block id a=>simp[compile]at hc
 |loop a=>simp[compile]at hc
 |_=>
  simp only[compile]at hc
  (repeat' split at hc)
  all_goals cases hc
theorem Ev.opsM(hmix:P.follows .mixedOrders=true){l T H}(hrow:Row P l T H)(hstab:∀(i:Nat) (io:IOp),l[i]? =some io->ldQ io=true->∀θ,θ<=lateAt l->IStep P io (T i) (H θ) (T (i+1)) (H θ)):Ev P ro (.opsM l) (T 0) (H 0) .normal (T l.length) (H l.length):=by
 refine Ev.of λcc hns hc m a w lo hlo st hm Q hQ=>?_
 cases cc with
 |region id ops draw=>
  rcases reg_cases (by simpa only[compile]using hc)with⟨_,h1,_⟩|⟨_,h1,_⟩|⟨l',h1,hd,⟨l2,hl2⟩,cq,hz,hmo,hlo⟩<;>cases h1
  subst hd;simp only[compileRegion,if_true]at hl2;split at hl2
  case isFalse=>cases hl2
  rename_i hok2;simp only[Bool.and_eq_true]at hok2;rcases hmo with hmo|⟨f,hf1,hf2⟩
  case inr=>exact region_flo hmix hok2.1 hok2.2 hz hf1 hf2 hrow hstab (λi j x y a1 a2 a3 a4 a5=>lateOk_spec hlo a1 a2 a3 a4 a5) st ro Q (λm' a' w' s g d=>hQ m' a' w' s g (by rw[d];exact hm.grow g st.hr.dom)) id
  exact region_mix hmix hok2.1 hok2.2 hz hmo hrow hstab (λi j x y a1 a2 a3 a4 a5=>lateOk_spec hlo a1 a2 a3 a4 a5) st ro Q (λm' a' w' s g d=>hQ m' a' w' s g (by rw[d];exact hm.grow g st.hr.dom)) id
 |scope a=>exact absurd rfl (hns a)
 |block id a=>simp[compile]at hc
 |loop a=>simp[compile]at hc
 |_=>
  simp only[compile]at hc
  (repeat' split at hc)
  all_goals cases hc
theorem Ev.seq(hx:Ev P ro x ts h .normal ts1 h1)(hy:Ev P ro y ts1 h1 e ts' h'):Ev P ro (.seq x y) ts h e ts' h':=by
 refine Ev.of λcc hns hc m a w lo hlo st hm Q hQ=>?_
 cases cc with
 |seq ca cb=>
  simp only[compile]at hc;split at hc
  case h_2=>cases hc
  rename_i x' y' hca hcb;cases hc;refine wpIn_seq (hx ca hca m a w lo hlo st hm _ λm1 a1 w1 s1 g1 k1=>?_);exact hy cb hcb m1 a1 w1 lo (Nat.le_trans hlo g1.size) s1 k1 Q λm2 a2 w2 s2 g2 k2=>hQ m2 a2 w2 s2 (g1.trans g2 st.hr.dom) k2
 |scope a=>exact absurd rfl (hns a)
 |region id ops draw=>rcases reg_cases (by simpa only[compile]using hc)with⟨_,h1,_⟩|⟨_,h1,_⟩|⟨_,h1,_⟩<;>cases h1
 |block id a=>simp[compile]at hc
 |loop a=>simp[compile]at hc
 |_=>
  simp only[compile]at hc
  (repeat' split at hc)
  all_goals cases hc
def Ev.seq_jump(hx:Ev P ro x ts h e ts' h')(hne:e≠.normal):Ev P ro (.seq x y) ts h e ts' h':=by
 refine Ev.of λcc hns hc m a w lo hlo st hm Q hQ=>?_
 cases cc with
 |seq ca cb=>
  simp only[compile]at hc;split at hc
  case h_2=>cases hc
  rename_i x' y' hca hcb;cases hc;refine wpIn_seq (hx ca hca m a w lo hlo st hm _ λm1 a1 w1 s1 g1 k1=>?_);have:=hQ m1 a1 w1 s1 g1 k1;cases e<;>first|exact absurd rfl hne|exact this
 |scope a=>exact absurd rfl (hns a)
 |region id ops draw=>rcases reg_cases (by simpa only[compile]using hc)with⟨_,h1,_⟩|⟨_,h1,_⟩|⟨_,h1,_⟩<;>cases h1
 |block id a=>simp[compile]at hc
 |loop a=>simp[compile]at hc
 |_=>
  simp only[compile]at hc
  (repeat' split at hc)
  all_goals cases hc
def opl_opd{o c}(hc:opl? o=some c):opd? o=some c/\gOk P o=true:=by
 cases o<;>first|exact⟨hc,rfl⟩|cases hc
def opl_VR{m a w}(st:St P m ts h a w){o c}(hc:opl? o=some c):VR m (val ts c) (a.eval o):=
 eval_VR st.hr.gv (opl_opd (P:=P) hc).1 (opl_opd (P:=P) hc).2 (λt _=>slotA st.ts t)
theorem Ev.cond{c b}(hb:val ts c=.bool b)(hx:Ev P ro (if b then x else y) ts h e ts' h'):Ev P ro (.cond c x y) ts h e ts' h':=by
 refine Ev.of λcc hns hc m a w lo hlo st hm Q hQ=>?_
 cases cc with
 |cond o ca cb=>
  simp only[compile]at hc;split at hc
  case h_2=>cases hc
  rename_i c' x' y' hco hca hcb;cases hc;have hv:=opl_VR st hco;rw[hb,VR]at hv;refine wpIn_cond hv ?_;cases b
  ·exact hx cb hcb m a w lo hlo st hm Q hQ
  ·exact hx ca hca m a w lo hlo st hm Q hQ
 |scope a=>exact absurd rfl (hns a)
 |region id ops draw=>rcases reg_cases (by simpa only[compile]using hc)with⟨_,h1,_⟩|⟨_,h1,_⟩|⟨_,h1,_⟩<;>cases h1
 |block id a=>simp[compile]at hc
 |loop a=>simp[compile]at hc
 |_=>
  simp only[compile]at hc
  (repeat' split at hc)
  all_goals cases hc
def Ex.inBlock(id:Nat):Ex->Ex
 |.exit id'=>if id' =id then .normal else .exit id'
 |e=>e
theorem Ev.block{id}(hx:Ev P ro x ts h e ts' h'):Ev P ro (.block id x) ts h (e.inBlock id) ts' h':=by
 refine Ev.of λcc hns hc m a w lo hlo st hm Q hQ=>?_
 cases cc with
 |block id' ca=>
  simp only[compile,Option.map_eq_some_iff,ICode.block.injEq]at hc;obtain⟨x',hca,rfl,rfl⟩:=hc;refine wpIn_block (hx ca hca m a w lo hlo st hm _ λm' a' w' s g k=>?_);have:=hQ m' a' w' s g k;cases e with
  |normal=>exact this
  |ret=>exact this
  |exit i=>
   simp only[Ex.conc,Exit.inBlock];simp only[Ex.inBlock]at this;split
   ·rename_i hi;rw[if_pos hi]at this;exact this
   ·rename_i hi;rw[if_neg hi]at this;exact this
 |scope a=>exact absurd rfl (hns a)
 |region id ops draw=>rcases reg_cases (by simpa only[compile]using hc)with⟨_,h1,_⟩|⟨_,h1,_⟩|⟨_,h1,_⟩<;>cases h1
 |loop a=>simp[compile]at hc
 |_=>
  simp only[compile]at hc
  (repeat' split at hc)
  all_goals cases hc
inductive LoopR (P:Program) (ro:Option Nat) (x:ICode):TS->AHeap->Ex->TS->AHeap->Prop
 |out {ts:TS}{h:AHeap}{e:Ex}{ts':TS}{h':AHeap}(hx:Ev P ro x ts h e ts' h') (hne:e≠.normal):LoopR P ro x ts h e ts' h'
 |more {ts:TS}{h:AHeap}{ts1:TS}{h1:AHeap}{e:Ex}{ts':TS}{h':AHeap}(hx:Ev P ro x ts h .normal ts1 h1) (hr:LoopR P ro x ts1 h1 e ts' h'):LoopR P ro x ts h e ts' h'
theorem Ev.loop(hl:LoopR P ro x ts h e ts' h'):Ev P ro (.loop x) ts h e ts' h':=by
 refine Ev.of λcc hns hc m a w lo hlo st hm Q hQ=>?_
 cases cc with
 |loop ca=>
  simp only[compile,Option.map_eq_some_iff,ICode.loop.injEq]at hc;obtain⟨x',hca,rfl⟩:=hc;intro b k cs hro hb hr;have key:∀(m1:Emb) (a1:Act) (w1:World),lo<=w1.heap.size->St P m1 ts h a1 w1->Marks m1 w1 lo a1.defers->(∀m' a' w',St P m' ts' h' a' w'->Grow m1 h w1 m' h' w'->Marks m' w' lo a'.defers->Q e.conc a' w')->
    ∃e a' w',Q e a' w'/\ArrivesIn (Machine.fenced P (Fd ro)) P (lone (b.atR a1 (.code ca:: .inLoop ca::k)) cs w1) b k cs e a' w':=by
   clear hQ st hm hlo
   induction hl with
   |out hx hne=>
    rename_i ts h e ts' h';intro m1 a1 w1 hlo s1 k1 hQ;obtain⟨e1,a2,w2,hq,harr⟩:=hx ca hca m1 a1 w1 lo hlo s1 k1 (λe1 a1 w1=>e1≠.normal/\Q e1 a1 w1) (λm' a' w' s g k'=>⟨by cases e<;>first|exact absurd rfl hne|simp[Ex.conc],hQ m' a' w' s g k'⟩) b (.inLoop ca::k) cs hro hb hr;exact⟨e1,a2,w2,hq.2,.pass (x:=.inLoop ca) rfl (λ_ _=>.inl hq.1) harr⟩
   |more hx hr' ih=>
    intro m1 a1 w1 hlo s1 k1 hQ;obtain⟨e1,a2,w2,hq,harr⟩:=hx ca hca m1 a1 w1 lo hlo s1 k1 (λe1 a2 w2=>e1=.normal/\∃m2,St P m2 _ _ a2 w2/\Grow m1 _ w1 m2 _ w2/\Marks m2 w2 lo a2.defers) (λm' a' w' s g k'=>⟨rfl,m',s,g,k'⟩) b (.inLoop ca::k) cs hro hb hr;obtain⟨rfl,m2,s2,g2,k2⟩:=hq;obtain⟨e3,a3,w3,hq3,harr3⟩:=ih m2 a2 w2 (Nat.le_trans hlo g2.size) s2 k2 (λm' a' w' s g k'=>hQ m' a' w' s (g2.trans g s1.hr.dom) k');exact⟨e3,a3,w3,hq3,.of_steps (StepsIn.trans harr (.one (fenced_calm hb hr rfl) stepR_inLoop)) harr3⟩
  obtain⟨e',a',w',hq,harr⟩:=key m a w hlo st hm hQ;exact⟨e',a',w',hq,.of_steps (.one (fenced_calm hb hr rfl) stepR_loop) harr⟩
 |scope a=>exact absurd rfl (hns a)
 |region id ops draw=>rcases reg_cases (by simpa only[compile]using hc)with⟨_,h1,_⟩|⟨_,h1,_⟩|⟨_,h1,_⟩<;>cases h1
 |block id a=>simp[compile]at hc
 |_=>
  simp only[compile]at hc
  (repeat' split at hc)
  all_goals cases hc
end
end Go.Abs
namespace Go.Abs
def resVal(ts:TS)(h:AHeap):Nat×Option (Option Nat)->Option AV
 |(t,none)=>some (ts.getD t undefA)
 |(a,some n)=>
  match fnK (.load n (.c (ts.getD a undefA))) (val ts) h with
  |some (v,_)=>some v
  |none=>none
def resVals(ts:TS)(h:AHeap):List (Nat×Option (Option Nat))->Option (List AV)
 |[]=>some []
 |r::rs=>
  match resVal ts h r,resVals ts h rs with
  |some v,some vs=>some (v::vs)
  |_,_=>none
def resAll(rs:List (Nat×Option (Option Nat)))(ts:TS)(h:AHeap):Option AV:=
 match resVals ts h rs with
 |some [v]=>some v
 |some l=>some (.tup l)
 |none=>none
def startTS(nt:Nat)(args:List AV):TS:=args++List.replicate (nt-args.length) undefA
def Ex.leaves:Ex->Bool
 |.normal=>true
 |.ret=>true
 |_=>false
section
variable {P:Program}{m:Emb}{h h':AHeap}{w:World}{v:AV}
def resVal_run{ts a}(st:St P m ts h a w){r x}(hx:resA P r=some x)(hv:resVal ts h x=some v):
  ∃cv,(match r with
   |.tmp t=>(pure (a.tmps.getD t undef):Sem Value)
   |.cell b t=>do loadVar t (<-asAddr (a.tmps.getD b undef))).run P w=.ok cv w/\VR m v cv:=by
 cases r with
 |tmp t=>cases hx;cases hv;exact⟨_,rfl,slotA st.ts t⟩
 |cell b t=>
  simp only[resA,Option.map_eq_some_iff]at hx;obtain⟨n,hn,rfl⟩:=hx;simp only[resVal]at hv;split at hv
  case h_2=>cases hv
  rename_i v' h' hf;cases hv;obtain⟨cv,h1,h2,_⟩:=s_load (P:=P) (ρ:=val ts) hn st.hr (a:=.c (ts.getD b undefA)) (slotA st.ts b) hf;refine⟨cv,?_,h2⟩;simp only[fnK,val]at hf;split at hf
  case h_2=>cases hf
  rename_i b' o' hb';have hs:=slotA st.ts b;rw[hb',VR]at hs;obtain⟨e,_,he⟩:=hs;simp only[he]at h1 ⊢
  simpa [Instr.loadAt,Instr.sureAddr,asAddr]using h1
theorem resVals_run{ts:TS}{a:Act}(st:St P m ts h a w):∀{rs:List ResultVar}{xs:List (Nat×Option (Option Nat))}{vs:List AV},rs.mapM (resA P)=some xs->resVals ts h xs=some vs->
  ∃cvs,(rs.mapM (m:=Sem) λ
   |.tmp t=>pure (a.tmps.getD t undef)
   |.cell b t=>do loadVar t (<-asAddr (a.tmps.getD b undef))).run P w=.ok cvs w/\VRs m vs cvs
 |[],xs,vs,hx,hv=>by
  simp at hx;subst hx;cases hv;exact⟨[],rfl,VRs_nil.2 rfl⟩
 |r::rs,xs,vs,hx,hv=>by
  simp only[List.mapM_cons,Option.bind_eq_bind,Option.pure_def]at hx;cases hr:resA P r with
  |none=>simp[hr]at hx
  |some x=>
   cases hrs:rs.mapM (resA P)with
   |none=>simp[hr,hrs]at hx
   |some xs'=>
    simp[hr,hrs]at hx;subst hx;simp only[resVals]at hv;split at hv
    case h_2=>cases hv
    rename_i v vs' h1 h2;cases hv;obtain⟨cv,hc,hvr⟩:=resVal_run st hr h1;obtain⟨cvs,hcs,hvrs⟩:=resVals_run st hrs h2;refine⟨cv::cvs,?_,VRs_cons.2 ⟨cv,cvs,rfl,hvr,hvrs⟩⟩;rw[List.mapM_cons,Sem.run_bind];have hc':=hc;cases r<;>(simp only at hc' ⊢;rw[hc'];simp only[Result.andThen_ok,Sem.run_bind,hcs,Sem.run_pure])
def results_run{ts:TS}{a:Act}(st:St P m ts h a w){fn:Func}{xs:List (Nat×Option (Option Nat))}(hx:fn.results.toList.mapM (resA P)=some xs)(hv:resAll xs ts h=some v):
  ∃cv,(results fn a.tmps).run P w=.ok cv w/\VR m v cv:=by
 unfold resAll at hv;have key:∀{vs:List AV},resVals ts h xs=some vs->∃cvs:List Value,(results fn a.tmps).run P w=.ok (if h:cvs.length=1 then cvs[0]else .tuple ⟨cvs⟩) w/\VRs m vs cvs:=by
  intro vs hvs;obtain⟨cvs,h1,h2⟩:=resVals_run st hx hvs;refine⟨cvs,?_,h2⟩;unfold results;rw[Array.mapM_eq_mapM_toList,Sem.run_bind];simp only[map_eq_pure_bind,Sem.run_bind];have h1':=h1
  erw [h1']
  simp only[Result.andThen_ok,Sem.run_pure];by_cases hc:cvs.length=1
  ·simp[hc]
  ·simp[hc]
 split at hv
 ·rename_i v' hvs;cases hv;obtain⟨cvs,h1,h2⟩:=key hvs;obtain⟨y,ys,rfl,hy,hys⟩:=VRs_cons.1 h2;rw[VRs_nil]at hys;subst hys;exact⟨y,by simpa using h1,hy⟩
 ·rename_i l hno hvs;cases hv;obtain⟨cvs,h1,h2⟩:=key hvs;have hlen:cvs.length≠1:=by
   rw[h2.length];intro hl;obtain⟨z,hz⟩:=List.length_eq_one_iff.1 hl;exact hno z hz
  rw[dif_neg hlen]at h1;exact⟨_,h1,⟨cvs,rfl,h2⟩⟩
 ·cases hv
theorem leaves_marks{fn xs}(hx:fn.results.toList.mapM (resA P)=some xs){ts}(hv:resAll xs ts h' =some v){m0 h0 w0 lo}(hlo:w0.heap.size<=lo):
  ∀(ds:List Deferred) (m:Emb) (a:Act) (w:World),St P m ts h' a w->Grow m0 h0 w0 m h' w->Marks m w lo ds->LeavesInM Fence.wide 0 P fn a.tmps (Rel P m0 h0 w0 v h') ds .returning w
 |[],m,a,w,st,g,_=>by
  obtain⟨cv,h1,h2⟩:=results_run st hx hv;exact⟨cv,h1,cv,m,rfl,h2,st.hr,g⟩
 |d::ds,m,a,w,st,g,k=>by
  obtain⟨rs,h1,h2,h3⟩:=k;cases rs with
  |nil=>simp at h1
  |cons r rs=>
   simp only[List.map_cons,List.cons.injEq]at h1;obtain⟨rfl,rfl⟩:=h1;obtain⟨hl,hh,hm⟩:=h3 r (by simp);have hoth:∀i,i≠r->(w.putObj r (.deferred none)).heap[i]? =w.heap[i]? :=λi hi=>World.putObj_heap_other hi
   refine⟨by simp,.inl ⟨r,_,rfl,run_takeDeferred hh,?_⟩⟩;refine leaves_marks hx hv hlo _ m a _ ⟨⟨st.hr.dom,λb e k hb hk=>(st.hr.blk b e k hb hk).heap (hoth _ (hm b e hb)),st.hr.sep,st.hr.glob,λb e hb=>by simpa using st.hr.lt b e hb⟩,st.ts⟩
    ⟨g.ext,g.len,g.new,g.tl,by simpa using g.size,g.os,g.out,g.tape,λi hi hno=>?_⟩ ⟨rs,rfl,(List.nodup_cons.1 h2).2,λr' hr'=>?_⟩
   ·rw[hoth i (by omega)];exact g.frame i hi hno
   ·obtain⟨c1,c2,c3⟩:=h3 r' (List.mem_cons_of_mem _ hr');refine⟨c1,?_,c3⟩;rw[hoth r' (λx=>(List.nodup_cons.1 h2).1 (x▸hr'))];exact c2
def compileFn_some{f A}(hA:compileFn P f=some A):∃fn c,P.funcs[f]? =some fn/\fn.body=some c/\compile P c=some A.body/\fn.results.toList.mapM (resA P)=some A.rs/\fn.ntmps=A.nt/\(fn.name == "runtime.NumGoroutine")=false:=by
 unfold compileFn at hA;split at hA
 case h_1=>cases hA
 rename_i fn hf;split at hA
 case h_1=>cases hA
 rename_i c hb;split at hA
 case h_2=>cases hA
 rename_i b rs hc hr;split at hA
 case isTrue=>cases hA
 rename_i hn;cases hA;exact⟨fn,c,hf,hb,hc,hr,rfl,by simpa using hn⟩
def SCall.of_ev{f A}(hA:compileFn P f=some A){args e ts'}(hev:Ev P none A.body (startTS A.nt args) h e ts' h')(he:e.leaves=true)(hv:resAll A.rs ts' h' =some v):SCall P f args h v h':=by
 intro m w vs hr hargs;obtain⟨fn,c,hf,hb,hc,hres,hnt,_⟩:=compileFn_some hA;rw[<-callsIn_wide (n:=0)];refine callsIn_of_wp_marks hf hb trivial ?_;refine hev c hc m _ w w.heap.size (Nat.le_refl _) ⟨hr,?_⟩ (Marks.nil m w _) _ ?_
 ·have:((⟨vs⟩:Array Value)++Array.replicate (fn.ntmps-(⟨vs⟩:Array Value).size) undef).toList=vs++List.replicate (A.nt-args.length) undef:=by
   rw[hnt];simp[hargs.length]
  rw[this];refine VRs.append hargs (VRs.of_get (by simp) λi x hx=>?_);rw[List.getElem?_replicate]at hx ⊢;split at hx
  ·rename_i hlt;cases hx;rw[if_pos hlt];exact⟨undef,rfl,undef_VR m⟩
  ·cases hx
 ·intro m' a' w' s g k;have:=leaves_marks hres hv (Nat.le_refl _) a'.defers m' a' w' s g k;cases e<;>first|exact this|cases he
def SCallV.of_call{f A}(hA:compileFn P f=some A){a c args}(hs:SCall P f (a++args++c) h v h'):SCallV P (.func (.func f) a c) args h v h':=by
 intro m w cv vs hr hf hargs;rw[VR]at hf;obtain⟨f',a',c',rfl,hfn,ha,hc⟩:=hf;simp only[FnR]at hfn;subst hfn;refine⟨_,λw=>rfl,?_⟩;obtain⟨fn,cc,hfn,hb,_,_,_,hn⟩:=compileFn_some hA;simp only[invoke];rw[run_callFunc hfn (by rw[hb];rfl) hn];show CallsIn Fence.wide 0 P f _ w _;rw[callsIn_wide];have:=hs m w (a'++vs++c') hr (VRs.append (VRs.append ha hargs) hc)
 simpa using this
def methF(P:Program)(u:TypeId)(name:String):Option FuncId:=
 match P.info? u,P.underlying u with
 |some i,some d=>
  match i.methods.find? (·.name==name)with
  |some m=>
   match m.path.toList,m.func,d with
   |[],some (_,false),.pointer _=>none
   |[],some (f,false),_=>some f
   |_,_,_=>none
  |none=>none
 |_,_=>none
def run_method{u:TypeId}{name f}(hm:methF P u name=some f)(n:Nat)(v:Value)(w:World):(method (n+1) u v name).run P w=.ok (f,v) w:=by
 unfold methF at hm;split at hm
 case h_2=>cases hm
 rename_i i d hi hd;split at hm
 case h_2=>cases hm
 rename_i mm hfind;split at hm
 case h_3=>cases hm
 case h_1=>cases hm
 rename_i f' hp hfn hnp;cases hm;have hti:(typeInfo u).run P w=.ok i w:=by simp[typeInfo,hi]
 rw[method];simp only[Sem.run_bind,hti,Result.andThen_ok,hfind,hp,follow,Sem.run_pure,hfn];have hrec:∀wr,(receiverAt u (.val v) false wr).run P w=.ok v w:=by
  intro wr;unfold receiverAt;simp only[Sem.run_bind,run_underlying hd,Result.andThen_ok];rfl
 simp only[hrec,Result.andThen_ok]
def SCallV.of_meth{u:TypeId}{name f A}(hm:methF P u name=some f)(hA:compileFn P f=some A){a args}(hs:SCall P f (a::args) h v h'):SCallV P (.func (.method name) [] []) (.ifc u a::args) h v h':=by
 intro m w cv vs hr hf hargs;rw[VR]at hf;obtain⟨f',a',c',rfl,hfn,ha,hc⟩:=hf;simp only[FnR]at hfn;subst hfn;rw[VRs_nil]at ha hc;subst ha;subst hc;obtain⟨x,vs,rfl,hx,hvs⟩:=VRs_cons.1 hargs;rw[VR]at hx;obtain⟨v',rfl,hx⟩:=hx;refine⟨_,λw=>rfl,?_⟩;obtain⟨fn,cc,hfn,hb,_,_,_,hn⟩:=compileFn_some hA;have e0:((#[]++(⟨.iface u v'::vs⟩:Array Value)):Array Value)[0]? =some (.iface u v'):=by simp
 have e1:((#[]++(⟨.iface u v'::vs⟩:Array Value)):Array Value).extract 1 ((#[]++(⟨.iface u v'::vs⟩:Array Value)):Array Value).size=⟨vs⟩:=by
  apply Array.ext';simp
 simp only[invoke,e0,e1,callMethod,Sem.run_bind,program];have hmt:=run_method hm (P.types.size+Made.depth-1) v' w;have hdep:0<Made.depth:=by decide
 have hne:P.types.size+Made.depth-1+1=P.types.size+Made.depth:=by omega
 rw[hne]at hmt;show After P (Rel P m h w v h') ((Result.ok P w).andThen λa w'=>(Sem.run P (method (a.types.size+Made.depth) u v' name) w').andThen λa w'=>Sem.run P (callFunc a.fst (#[a.snd]++⟨vs⟩)) w');simp only[Result.andThen_ok,hmt];rw[run_callFunc hfn (by rw[hb];rfl) hn];show CallsIn Fence.wide 0 P f _ w _;rw[callsIn_wide];have:=hs m w (v'::vs) hr (VRs_cons.2 ⟨_,_,rfl,hx,hvs⟩);have e2:(#[v']++(⟨vs⟩:Array Value))=⟨v'::vs⟩:=by apply Array.ext';simp
 rw[e2];exact this
end
end Go.Abs
namespace Go.Abs
def setArgs:TS->List Nat->List AV->TS
 |ts,p::ps,v::vs=>setArgs (ts.set p v) ps vs
 |ts,_,_=>ts
section
variable {P:Program}{m:Emb}{h h':AHeap}{w:World}{v:AV}
def HR.aside(hr:HR P m h w)(o:Obj):HR P m h (w.alloc o):=
 ⟨hr.dom,λb e k hb hk=>(hr.blk b e k hb hk).heap (Go.RowKit.Below.heap_alloc w o _ (hr.lt b e hb)),hr.sep,hr.glob,λb e hb=>by have:=hr.lt b e hb;simp;omega⟩
def Grow.aside(hr:HR P m h w)(o:Obj):Grow m h w m h (w.alloc o):=
 ⟨λ_ _=>rfl,Nat.le_refl _,λb e hb he=>absurd (hr.dom b e he) (by omega),λ_ _ h=>h,by simp,rfl,rfl,rfl,λi hi _=>Go.RowKit.Below.heap_alloc w o i hi⟩
theorem setArgs_VRs:∀{ps}{args}{ts}{tmps}{vs},VRs m ts tmps.toList->VRs m args vs->VRs m (setArgs ts ps args) ((ps.zip vs).foldl (λ(t:Array Value) (p:Nat×Value)=>t.setIfInBounds p.1 p.2) tmps).toList
 |[],_,_,_,_,ht,_=>by simpa [setArgs]using ht
 |p::ps,[],ts,tmps,vs,ht,ha=>by rw[VRs_nil]at ha;subst ha;simpa [setArgs]using ht
 |p::ps,x::args,ts,tmps,vs,ht,ha=>by
  obtain⟨y,ys,rfl,hy,hys⟩:=VRs_cons.1 ha;simp only[List.zip_cons_cons,List.foldl_cons,setArgs];exact setArgs_VRs (by rw[Array.toList_setIfInBounds];exact ht.set p hy) hys
theorem SCallV.yield{l ex ex2 ex4 e ts ts2 ts3 tb tc ps pb pc asg body ab ac bb bc h2 h4 args st4}
  (hl:h[l]? =some (.loop .ready ex ts ps asg body)) (hlen:args.length=ps.length)
  (hasg:∀r,Ev P (some r) asg (setArgs ts ps args) h .normal ts2 h2) (hl2:h2[l]? =some (.loop .ready ex2 tb pb ab bb))
  (hbody:∀r,Ev P (some r) body ts2 (h2.set l (.loop .busy ex2 tb pb ab bb)) e ts3 h4) (hl4:h4[l]? =some (.loop st4 ex4 tc pc ac bc)):
  SCallV P (.func (.yield l) [] []) args h (.bool (decide (e=.normal))) (h4.set l (.loop (if e=.normal then .ready else .done) e tc pc ac bc)):=by
 intro m w cv vs hr hf hargs;rw[VR]at hf;obtain⟨f',a',c',rfl,hfn,ha,hc⟩:=hf;rw[VRs_nil]at ha hc;subst ha;subst hc;obtain⟨el,hel,rfl⟩:=hfn;refine⟨_,λw=>rfl,?_⟩;obtain⟨hown,fn,tmps,casg,cbody,df,hh,hts,hca,hcb⟩:=hr.blk l el _ hel hl;have hy:=run_yield (P:=P) (args:=(#[]++⟨vs⟩:Array Value)) hh (by simp[hargs.length,hlen]);simp only[invoke];rw[hy];show RoundIn Fence.wide 0 P el.cb fn _ casg cbody w _;refine roundIn_of_wpIn trivial ?_;have ht0:VRs m (setArgs ts ps args) (((⟨ps⟩:Array Tmp).zip (#[]++⟨vs⟩:Array Value)).foldl (λtmps (t,a)=>tmps.setIfInBounds t a) tmps).toList:=by
  have:=setArgs_VRs (ps:=ps) hts hargs;rw[<-Array.foldl_toList,Array.toList_zip]
  simpa using this
 refine hasg el.cb casg hca m _ w w.heap.size (Nat.le_refl _) ⟨hr,ht0⟩ (Marks.nil m w _) _ λm1 a1 w1 s1 g1 k1=>?_
 have hel1:m1 l=some el:=by rw[g1.ext l (hr.dom _ _ hel)];exact hel
 obtain⟨_,fn2,tmps2,casg2,cbody2,df2,hh2,hts2,hca2,hcb2⟩:=s1.hr.blk l el _ hel1 hl2;refine⟨_,run_beginRound hh2 rfl,?_⟩;have hlt1:el.cb<w1.heap.size:=s1.hr.lt _ _ hel1;obtain⟨hr2,g2⟩:=putObj_ok s1.hr (o:=.loop {state:=.busy,pending:=ex2.jump,fn:=fn2,tmps:=tmps2,params:=⟨pb⟩,assign:=casg2,body:=cbody2,defers:=df2}) hel1 hl2 rfl (k':=.loop .busy ex2 tb pb ab bb) (.inl rfl)
  ⟨hown,fn2,tmps2,casg2,cbody2,df2,World.putObj_heap_same hlt1,hts2,hca2,hcb2⟩
 refine hbody el.cb cbody hcb m1 a1 _ w.heap.size (Nat.le_trans g1.size g2.size) ⟨hr2,s1.ts⟩ (k1.grow g2 s1.hr.dom) _ λm2 a2 w3 s2 g3 k2=>?_
 have hl2':l<h2.length:=(List.getElem?_eq_some_iff.1 hl2).1;have hel2:m2 l=some el:=by rw[g3.ext l (by simpa using hl2')];exact hel1
 obtain⟨_,fn4,tmps4,casg4,cbody4,df4,hh4,hts4,hca4,hcb4⟩:=s2.hr.blk l el _ hel2 hl4;have hlt2:el.cb<w3.heap.size:=s2.hr.lt _ _ hel2;have fin:∀j:Option Code,j=e.jump->∃v w',(Instr.endRound el.cb j).run P w3=.ok v w'/\Rel P m h w (.bool (decide (e=.normal))) (h4.set l (.loop (if e=.normal then .ready else .done) e tc pc ac bc)) (.returned v) w':=by
  rintro j rfl;obtain⟨hr4,g4⟩:=putObj_ok s2.hr (o:=.loop {state:=if e=.normal then .ready else .done,pending:=e.jump,fn:=fn4,tmps:=tmps4,params:=⟨pc⟩,assign:=casg4,body:=cbody4,defers:=df4}) hel2 hl4 rfl
   (k':=.loop (if e=.normal then .ready else .done) e tc pc ac bc) (.inl rfl) ⟨hown,fn4,tmps4,casg4,cbody4,df4,World.putObj_heap_same hlt2,hts4,hca4,hcb4⟩
  refine⟨_,_,run_endRound e.jump hh4,.bool (decide (e=.normal)),m2,?_,rfl,?_,?_⟩
  ·cases e<;>rfl
  ·have:(if e.jump.isNone=true then LoopState.ready else .done)=if e=.normal then .ready else .done:=by cases e<;>rfl
   simp only[this];exact hr4
  ·have:(if e.jump.isNone=true then LoopState.ready else .done)=if e=.normal then .ready else .done:=by cases e<;>rfl
   simp only[this];exact((g1.trans g2 hr.dom).trans g3 hr.dom).trans g4 hr.dom
 cases e with
 |normal=>exact fin none rfl
 |exit id=>exact fin (some (.exit id)) rfl
 |ret=>exact fin (some .ret) rfl
theorem Ev.rangeF{g ps ps' asg body asg' body' ts ts' f A a c h2 st ex}(hA:compileFn P f=some A)(hg:val ts g=.func (.func f) a c)
  (hs:SCall P f (a++[.func (.yield h.length) [] []]++c) (h++[.loop .ready .normal ts ps asg body]) v h2) (hl:h2[h.length]? =some (.loop st ex ts' ps' asg' body')) (hst:st≠.busy):
  Ev P none (.rangeF g ps asg body) ts h ex ts (h2.set h.length .dead):=by
 refine Ev.of λcc hns hcc m act w lo hlo s hm Q hQ=>?_
 cases cc with
 |rangeFunc og cps casg cbody=>
  simp only[compile]at hcc;split at hcc
  case h_2=>cases hcc
  rename_i g' x' y' hgo hca hcb;cases hcc;have hv:=opl_VR s hgo;rw[hg,VR]at hv;obtain⟨f',ca,cc',hev,hfn,ha,hc⟩:=hv;simp only[FnR]at hfn;subst hfn;obtain⟨W1,hW1⟩:∃W1,w.alloc (.deferred (some []))=W1:=⟨_,rfl⟩;have hsz1:W1.heap.size=w.heap.size+1:=by rw[<-hW1];simp
  have hr1:HR P m h W1:=by rw[<-hW1];exact s.hr.aside _
  have g1:Grow m h w m h W1:=by rw[<-hW1];exact Grow.aside s.hr _
  have hK1:W1.heap[w.heap.size]? =some (.deferred (some [])):=by rw[<-hW1];exact World.alloc_heap_new w _
  refine wpIn_rangeFunc λfn _=>?_
  obtain⟨rec,hrec⟩:∃rec:Loop,rec={state:=.ready,pending:=none,fn:=fn,tmps:=act.tmps,params:=cps,assign:=casg,body:=cbody,defers:=w.heap.size}:=⟨_,rfl⟩;obtain⟨hr2,g2⟩:=alloc_ok hr1 (.loop rec) (.loop .ready .normal ts cps.toList asg body) ⟨W1.heap.size,0,0,true⟩ rfl rfl (λm' hm'=>⟨rfl,fn,act.tmps,casg,cbody,w.heap.size,by rw[hrec];exact World.alloc_heap_new W1 _,VRs.mono hm' _ _ s.ts,hca,hcb⟩);have hloc:(m.add h.length ⟨W1.heap.size,0,0,true⟩) h.length=some ⟨W1.heap.size,0,0,true⟩:=by simp[Emb.add]
  have hle:m.le (m.add h.length ⟨W1.heap.size,0,0,true⟩):=g2.le s.hr.dom;have henter:=run_enterLoop_outer (P:=P) (w:=w) fn act.tmps cps casg cbody;rw[hW1,<-hrec]at henter;obtain⟨ffn,fcode,hffn,hfb,_,_,_,hfname⟩:=compileFn_some hA;have hmk:Marks (m.add h.length ⟨W1.heap.size,0,0,true⟩) (W1.alloc (.loop rec)) lo ([{target:=.collected w.heap.size,args:=#[] }]++act.defers):=by
   obtain⟨rs,k1,k2,k3⟩:=(hm.grow g1 s.hr.dom).grow g2 s.hr.dom;refine⟨w.heap.size::rs,by rw[k1];rfl,List.nodup_cons.2 ⟨λhin=>?_,k2⟩,λr hr'=>?_⟩
   ·obtain⟨rs0,j1,j2,j3⟩:=hm;have hrs:rs0=rs:=by
     have:rs0.map (λr=>({target:=.collected r,args:=#[] }:Deferred))=rs.map (λr=>({target:=.collected r,args:=#[] }:Deferred)):=by rw[<-j1,k1]
     exact List.map_inj_right (λx y hxy=>by simpa using hxy) |>.1 this
    subst hrs;have:=(Array.getElem?_eq_some_iff.1 (j3 _ hin).2.1).1;omega
   ·rcases List.mem_cons.1 hr' with rfl|hr'
    ·refine⟨hlo,(Go.RowKit.Below.heap_alloc W1 _ _ (by omega)).trans hK1,λb e hb=>?_⟩;unfold Emb.add at hb;split at hb
     ·cases hb;show W1.heap.size≠_;omega
     ·have:=s.hr.lt b e hb;omega
    ·exact k3 r hr'
  refine⟨w.heap.size+1,_,W1.alloc (.loop rec),{target:=.fn (.func f) ⟨cc'⟩,args:=⟨ca⟩++#[.func (.yield (w.heap.size+1)) #[] #[]] },W1.alloc (.loop rec),f,(⟨ca⟩++#[.func (.yield (w.heap.size+1)) #[] #[]])++⟨cc'⟩,W1.alloc (.loop rec),
   henter,?_,λ_ _=>trivial,?_,λhd=>by simp[Fd,Fence.wide]at hd,?_⟩
  ·have hmap:(#[Operand.const (.func (.yield (w.heap.size+1)) #[] #[])] :Array Operand).map act.eval=#[.func (.yield (w.heap.size+1)) #[] #[]]:=by simp[Act.eval]
   simp only[resolve,hev,rangeCall,hmap];rfl
  ·simp only[invoke];exact run_callFunc hffn (by rw[hfb];rfl) hfname
  ·have hargs:VRs (m.add h.length ⟨W1.heap.size,0,0,true⟩) (a++[.func (.yield h.length) [] []]++c) (ca++[.func (.yield (w.heap.size+1)) #[] #[]]++cc'):=by
    refine VRs.append (VRs.append (VRs.mono hle _ _ ha) (VRs_cons.2 ⟨_,[],rfl,⟨_,[],[],rfl,⟨_,hloc,by rw[hsz1]⟩,rfl,rfl⟩,VRs_nil.2 rfl⟩)) (VRs.mono hle _ _ hc)
   have hcall:=hs _ _ _ hr2 hargs;rw[<-callsIn_wide (n:=0)]at hcall;have hcall':CallsIn (Fd none) (0-1) P f ((⟨ca⟩++#[.func (.yield (w.heap.size+1)) #[] #[]])++⟨cc'⟩) (W1.alloc (.loop rec)) (Rel P (m.add h.length ⟨W1.heap.size,0,0,true⟩) (h++[.loop .ready .normal ts cps.toList asg body]) (W1.alloc (.loop rec)) v h2):=by
    have harr:((⟨ca⟩++#[.func (.yield (w.heap.size+1)) #[] #[]])++⟨cc'⟩:Array Value)=⟨ca++[.func (.yield (w.heap.size+1)) #[] #[]]++cc'⟩:=by apply Array.ext';simp
    rw[harr];exact hcall
   refine hcall'.mono ?_;rintro e3 w3 ⟨cv,m3,rfl,hv3,hr3,g3⟩;have hloc3:m3 h.length=some ⟨W1.heap.size,0,0,true⟩:=by rw[g3.ext h.length (by simp)];exact hloc
   obtain⟨hown3,fn3,tmps3,casg3,cbody3,df3,hh3,_⟩:=hr3.blk h.length _ _ hloc3 hl;simp only at hh3;have hend:=run_endLoop (P:=P) (l:=W1.heap.size) hh3 (by simpa using hst);obtain⟨hr4,g4⟩:=putObj_ok hr3 (o:=.loop {state:=.exhausted,pending:=ex.jump,fn:=fn3,tmps:=tmps3,params:=⟨ps'⟩,assign:=casg3,body:=cbody3,defers:=df3}) hloc3 hl rfl (k':=.dead) (.inr rfl) trivial;have hfin:=hQ m3 {act with defers:=[{target:=.collected w.heap.size,args:=#[] }]++act.defers} _ ⟨hr4,VRs.mono ((g2.trans g3 s.hr.dom).le s.hr.dom) _ _ s.ts⟩ (((g1.trans g2 s.hr.dom).trans g3 s.hr.dom).trans g4 s.hr.dom) ((hmk.grow g3 hr2.dom).grow g4 hr3.dom)
   refine⟨ex.jump,_,by rw[<-hsz1];exact hend,?_⟩;cases ex with
   |normal=>exact hfin
   |exit id=>exact wpIn_exit hfin
   |ret=>exact wpIn_ret hfin
 |scope a=>exact absurd rfl (hns a)
 |region id ops draw=>rcases reg_cases (by simpa only[compile]using hcc)with⟨_,h1,_⟩|⟨_,h1,_⟩|⟨_,h1,_⟩<;>cases h1
 |block id a=>simp[compile]at hcc
 |loop a=>simp[compile]at hcc
 |_=>
  simp only[compile]at hcc
  (repeat' split at hcc)
  all_goals cases hcc
end
end Go.Abs
namespace Go.Abs
inductive Eff where
 |keep
 |push (k:ABlk)
 |set (b:Nat) (k:ABlk)
 |setPush (b:Nat) (k k':ABlk)
 deriving Inhabited
def Eff.app:Eff->AHeap->AHeap
 |.keep,h=>h
 |.push k,h=>h++[k]
 |.set b k,h=>h.set b k
 |.setPush b k k',h=>h.set b k++[k']
def cellsG(es:Nat)(G:Nat->Option ABlk):AV->Option (List AV×Nat)
 |.nilSlice=>some ([],0)
 |.slice b o n es'=>
  if es' =es then
   match G b with
   |some (.cells c _ _)=>if o+n*es<=c.length then some ((c.drop o).take (n*es),n)else none
   |_=>none
  else none
 |.str s=>if es=1 then some (s.map λb=>.int .u8 b.toNat,s.length)else none
 |_=>none
def lenG(lk:LK)(G:Nat->Option ABlk):AV->Option Nat
 |.str s=>if lk=.st then some s.length else none
 |.slice _ _ n _=>if lk=.sl then some n else none
 |.nilSlice=>if lk=.sl then some 0 else none
 |.map r=>
  match G r with
  |some (.mapb es)=>if lk=.mp then some es.length else none
  |_=>none
 |.nilMap=>if lk=.mp then some 0 else none
 |_=>none
def convT(k:ConvK)(x:AV)(G:Nat->Option ABlk)(N0:Nat):Option (AV×Eff):=
 match k with
 |.i2i k=>
  match x with
  |.int _ n=>some (.int k (k.wrap n),.keep)
  |_=>none
 |.same=>
  match x with
  |.str s=>some (.str s,.keep)
  |_=>none
 |.i2f k=>
  match x with
  |.int _ n=>some (.flt k (k.nearest n),.keep)
  |_=>none
 |.f2i k=>
  match x with
  |.flt s b=>
   match (s.decode b).toInt .zero with
   |some n=>if nanB s b=false/\k.min<=n/\n<=k.max then some (.int k n,.keep)else none
   |none=>none
  |_=>none
 |.f2f k=>
  match x with
  |.flt s b=>if s=k then some (.flt k b,.keep)else
   match s.decode b with
   |.nan _ _=>some (.flt k (qnan k),.keep)
   |.infinity t=>some (.flt k (k.encode (.infinity t)),.keep)
   |.number t u e=>if(k.decode (k.encode (.number t u e))).isInfinity then none else some (.flt k (k.encode (.number t u e)),.keep)
  |_=>none
 |.cre=>
  match x with
  |.cplx k a _=>some (.flt k a,.keep)
  |_=>none
 |.cim=>
  match x with
  |.cplx k _ b=>some (.flt k b,.keep)
  |_=>none
 |.ifc u=>some (.ifc u x,.keep)
 |.b2s=>
  match x with
  |.nilSlice=>some (.str [],.keep)
  |.slice b o n es=>
   match cellsG 1 G (.slice b o n es)with
   |some (l,_)=>
    match l.mapM byteOf with
    |some r=>some (.str r,.keep)
    |none=>none
   |none=>none
  |_=>none
 |.s2b=>
  match x with
  |.str s=>some (.slice N0 0 s.length 1,.push (.cells (s.map λb=>.int .u8 b.toNat) true true))
  |_=>none
def fnT(k:OpK):(Opd->AV)->(Nat->Option ABlk)->Nat->Option (AV×Eff):=
 match k with
 |.mov x=>λρ G N0=>some (ρ x,.keep)
 |.pick c a b=>λρ G N0=>
  match ρ c with
  |.bool t=>some (if t then ρ a else ρ b,.keep)
  |_=>none
 |.box x=>λρ G N0=>if(ρ x).cells.all AV.one then some (.ptr N0 0,.push (.cells (ρ x).cells true false))else none
 |.boxn n x=>λρ G N0=>if(ρ x).cells.all AV.one=true/\(ρ x).cells.length=n then some (.ptr N0 0,.push (.cells (ρ x).cells true false))else none
 |.build z ps=>λρ G N0=>
  match fillA z (ps.map λp=>(p.1,p.2.1,ρ p.2.2))with
  |some c=>some (.agg c,.keep)
  |none=>none
 |.load n a=>λρ G N0=>
  match ρ a with
  |.ptr b o=>
   match G b with
   |some (.cells c _ _)=>
    match n with
    |none=>
     match c[o]? with
     |some x=>some (x,.keep)
     |none=>none
    |some n=>if o+n<=c.length then some (.agg ((c.drop o).take n),.keep)else none
   |_=>none
  |_=>none
 |.store n a x=>λρ G N0=>
  match ρ a with
  |.ptr b o=>
   match G b with
   |some (.cells c true tl)=>
    if(ρ x).cells.length=n/\(ρ x).cells.all AV.one=true/\o+n<=c.length then some (undefA,.set b (.cells (setL c o (ρ x).cells) true tl))else none
   |_=>none
  |_=>none
 |.nilchk x=>λρ G N0=>
  match ρ x with
  |.ptr b o=>some (.ptr b o,.keep)
  |.func (.func f) a c=>some (.func (.func f) a c,.keep)
  |.func (.yield f) a c=>some (.func (.yield f) a c,.keep)
  |.func (.methodOf t n) a c=>some (.func (.methodOf t n) a c,.keep)
  |.func (.via t p f q) a c=>some (.func (.via t p f q) a c,.keep)
  |_=>none
 |.bin op x y=>λρ G N0=>
  match binK op (ρ x) (ρ y)with
  |some v=>some (v,.keep)
  |none=>none
 |.eqv neg t x y=>λρ G N0=>
  match eqvK t (ρ x) (ρ y)with
  |some b=>some (.bool (if neg then !b else b),.keep)
  |none=>none
 |.eqp neg x y=>λρ G N0=>
  match ρ x,ρ y with
  |.ptr b o,.ptr b' o'=>
   match G b,G b' with
   |some (.cells c true false),some (.cells c' true false)=>if o<c.length/\o'<c'.length then some (.bool (if neg then !decide (b=b'/\o=o')else decide (b=b'/\o=o')),.keep)else none
   |_,_=>none
  |_,_=>none
 |.un op x=>λρ G N0=>
  match unK op (ρ x)with
  |some v=>some (v,.keep)
  |none=>none
 |.cpx x y=>λρ G N0=>
  match ρ x,ρ y with
  |.flt k a,.flt k' b=>if k=k' then some (.cplx k a b,.keep)else none
  |_,_=>none
 |.conv k x=>λρ G N0=>convT k (ρ x) G N0
 |.mkfn f a c=>λρ G N0=>some (.func f (a.map ρ) (c.map ρ),.keep)
 |.mkmap=>λρ G N0=>some (.map N0,.push (.mapb []))
 |.mksl es w z l c=>λρ G N0=>
  match ρ l,ρ c with
  |.int _ l,.int _ c=>
   if 0<=l/\l<=c/\(w:Int)*c<=2^48/\c<2^63 then some (.slice N0 0 l.toNat es,.push (.cells (zrep l.toNat z) true true))else none
  |_,_=>none
 |.sl es x lo hi=>λρ G N0=>
  match ρ x with
  |.slice b o n es'=>
   if es' =es then
    match bnds (lo.map ρ) (hi.map ρ) n with
    |some (l,h')=>some (.slice b (o+l*es) (h'-l) es,.keep)
    |none=>none
   else none
  |.nilSlice=>
   match bnds (lo.map ρ) (hi.map ρ) 0 with
   |some _=>some (.nilSlice,.keep)
   |none=>none
  |_=>none
 |.sls x lo hi=>λρ G N0=>
  match ρ x with
  |.str s=>
   match bnds (lo.map ρ) (hi.map ρ) s.length with
   |some (l,h')=>some (.str ((s.drop l).take (h'-l)),.keep)
   |none=>none
  |_=>none
 |.sla k es x lo hi=>λρ G N0=>
  match ρ x with
  |.ptr b o=>
   match G b with
   |some (.cells c _ _)=>
    if o+k*es<=c.length then
     match bnds (lo.map ρ) (hi.map ρ) k with
     |some (l,h')=>some (.slice b (o+l*es) (h'-l) es,.keep)
     |none=>none
    else none
   |_=>none
  |_=>none
 |.fadr off x=>λρ G N0=>
  match ρ x with
  |.ptr b o=>some (.ptr b (o+off),.keep)
  |_=>none
 |.iadr es x i=>λρ G N0=>
  match ρ x,ρ i with
  |.slice b o n es',.int _ i=>if es' =es/\0<=i/\i<n then some (.ptr b (o+i.toNat*es),.keep)else none
  |_,_=>none
 |.iada len es x i=>λρ G N0=>
  match ρ x,ρ i with
  |.ptr b o,.int _ i=>if 0<=i/\i<len then some (.ptr b (o+i.toNat*es),.keep)else none
  |_,_=>none
 |.part n off x=>λρ G N0=>
  match ρ x with
  |.agg cs=>
   match n with
   |none=>
    match cs[off]? with
    |some v=>some (v,.keep)
    |none=>none
   |some n=>some (.agg ((cs.drop off).take n),.keep)
  |_=>none
 |.ixa len es n x i=>λρ G N0=>
  match ρ x,ρ i with
  |.agg cs,.int _ i=>
   if 0<=i/\i<len then
    match n with
    |none=>
     match cs[i.toNat*es]? with
     |some v=>some (v,.keep)
     |none=>none
    |some n=>some (.agg ((cs.drop (i.toNat*es)).take n),.keep)
   else none
  |_,_=>none
 |.ixs x i=>λρ G N0=>
  match ρ x,ρ i with
  |.str s,.int _ i=>
   if 0<=i then
    match s[i.toNat]? with
    |some b=>some (.int .u8 b.toNat,.keep)
    |none=>none
   else none
  |_,_=>none
 |.look kk z ok m k=>λρ G N0=>
  match ρ m with
  |.nilMap=>some (if ok then .tup [z,.bool false]else z,.keep)
  |.map r=>
   match G r with
   |some (.mapb es)=>
    match findA kk (ρ k) es with
    |some (some v)=>some (if ok then .tup [v,.bool true]else v,.keep)
    |some none=>some (if ok then .tup [z,.bool false]else z,.keep)
    |none=>none
   |_=>none
  |_=>none
 |.mupd kk m k x=>λρ G N0=>
  match ρ m with
  |.map r=>
   match G r with
   |some (.mapb es)=>
    match updA kk (ρ k) (ρ x) es with
    |some es'=>some (undefA,.set r (.mapb es'))
    |none=>none
   |_=>none
  |_=>none
 |.rstr x=>λρ G N0=>
  match ρ x with
  |.str s=>some (.ptr N0 0,.push (.iter s 0))
  |_=>none
 |.nexts x=>λρ G N0=>
  match ρ x with
  |.ptr b 0=>
   match G b with
   |some (.iter s pos)=>
    if pos<s.length then
     let d:=Utf8.decode ⟨⟨s⟩⟩ pos
     some (.tup [.bool true,.int .i64 pos,.int .i32 d.1],.set b (.iter s (pos+d.2)))
    else some (.tup [.bool false],.keep)
   |_=>none
  |_=>none
 |.ext x i=>λρ G N0=>
  match ρ x with
  |.tup l=>
   match l[i]? with
   |some v=>some (v,.keep)
   |none=>none
  |_=>none
 |.len lk x=>λρ G N0=>
  match lenG lk G (ρ x)with
  |some n=>some (.int .i64 n,.keep)
  |none=>none
 |.lenc n=>λρ G N0=>some (.int .i64 n,.keep)
 |.cpy es x y=>λρ G N0=>
  match ρ x,cellsG es G (ρ y)with
  |.slice b o n es',some (ys,k)=>
   if es' =es then
    if min k n=0 then some (.int .i64 0,.keep)
    else
     match G b with
     |some (.cells c true tl)=>if o+min k n*es<=c.length then some (.int .i64 (min k n:Nat),.set b (.cells (setL c o (ys.take (min k n*es))) true tl))else none
     |_=>none
   else none
  |.nilSlice,some _=>some (.int .i64 0,.keep)
  |_,_=>none
 |.mx x l=>λρ G N0=>
  match foldA max2A (ρ x) (l.map ρ)with
  |some v=>some (v,.keep)
  |none=>none
 |.mn x l=>λρ G N0=>
  match foldA min2A (ρ x) (l.map ρ)with
  |some v=>some (v,.keep)
  |none=>none
 |_=>λρ G N0=>none
def appT(es w:Nat)(s y:AV)(G:Nat->Option ABlk)(N0:Nat):Option (AV×Eff):=
 match cellsG es G y with
 |none=>none
 |some (ys,k)=>
  match s with
  |.nilSlice=>if k=0 then(if ys.isEmpty then some (.nilSlice,.keep)else none)else if k*w<=2^46 then some (.slice N0 0 k es,.push (.cells ys true true))else none
  |.slice b o m es'=>
   if es' =es then
    if k=0 then(if ys.isEmpty then some (.slice b o m es,.keep)else none)
    else if(m+k)*w<=2^46 then
     match G b with
     |some (.cells c true true)=>if o+m*es<=c.length then some (.slice N0 0 (m+k) es,.setPush b .dead (.cells ((c.drop o).take (m*es)++ys) true true))else none
     |some (.cells c false true)=>if o+m*es=c.length then some (.slice N0 0 (m+k) es,.setPush b (.cells c false false) (.cells (c.drop o++ys) false true))else none
     |some (.cells c true false)=>if o+m*es=c.length then some (.slice N0 0 (m+k) es,.push (.cells (c.drop o++ys) true true))else none
     |_=>none
    else none
   else none
  |_=>none
def stepT(k:OpK):(Opd->AV)->(Nat->Option ABlk)->Nat->Option (AV×Eff):=
 match k with
 |.call _ _=>λ_ _ _=>none
 |.app es w x y=>λρ G N0=>appT es w (ρ x) (ρ y) G N0
 |.bslice es n z ps=>λρ _ N0=>
  match fillA (zrep n z) (ps.map λp=>(p.1,es,ρ p.2))with
  |some c=>if c.all AV.one=true/\c.length=n*es then some (.slice N0 0 n es,.push (.cells c true (!Nat.beq n 0)))else none
  |none=>none
 |k=>fnT k
def cellsG_eq(es:Nat)(h:AHeap)(x:AV):cellsG es (λb=>h[b]?) x=cellsIn es h x:=by
 cases x<;>rfl
def lenG_eq(lk:LK)(h:AHeap)(x:AV):lenG lk (λb=>h[b]?) x=lenA lk h x:=by
 cases x<;>rfl
def convT_ok{k x h v e}(hs:convT k x (λb=>h[b]?) h.length=some (v,e)):convA k x h=some (v,e.app h):=by
 cases k<;>simp only[convT,cellsG_eq]at hs<;>(repeat' split at hs)<;>first|(cases hs;done)|(cases hs;simp[convA,Eff.app, *])
def fnT_ok{k ρ h v e}(hs:fnT k ρ (λb=>h[b]?) h.length=some (v,e)):fnK k ρ h=some (v,e.app h):=by
 cases k with
 |conv k x=>exact convT_ok (k:=k) (x:=ρ x) hs
 |mksl es w z l c=>
  simp only[fnT]at hs;split at hs
  case h_2=>cases hs
  rename_i kl il kc ic hl hc;split at hs
  case isFalse=>cases hs
  rename_i hcond;cases hs;simp only[fnK,hl,hc];rw[if_pos hcond];rfl
 |_=>simp only[fnT,cellsG_eq,lenG_eq]at hs<;>(repeat' split at hs)<;>first|(cases hs;done)|(cases hs;simp[fnK,Eff.app, *])
def stepT_ok{k ρ h v e}(hs:stepT k ρ (λb=>h[b]?) h.length=some (v,e)):StepN k ρ h v (e.app h):=by
 have hf:∀k,fnT k ρ (λb=>h[b]?) h.length=some (v,e)->fnK k ρ h=some (v,e.app h):=λk hk=>fnT_ok hk
 cases k with
 |call f args=>cases hs
 |app es w x y=>
  simp only[stepT,appT,cellsG_eq]at hs;show AppR es w (ρ x) (ρ y) h v (e.app h);split at hs
  ·cases hs
  rename_i ys k hy;split at hs
  ·rename_i hx;rw[hx];split at hs
   ·rename_i hk;split at hs
    ·rename_i hys;cases hs;subst hk;exact .none (by rw[hy];cases ys<;>first|rfl|cases hys) (.inl rfl)
    ·cases hs
   ·split at hs
    ·rename_i hk hb;cases hs;exact .new ys k true hy (by omega) hb rfl
    ·cases hs
  ·rename_i b o m es' hx;rw[hx];split at hs
   case isFalse=>cases hs
   rename_i hes;subst hes;split at hs
   ·rename_i hk;split at hs
    ·rename_i hys;cases hs;subst hk;exact .none (by rw[hy];cases ys<;>first|rfl|cases hys) (.inr ⟨b,o,m,rfl⟩)
    ·cases hs
   ·rename_i hk;split at hs
    case isFalse=>cases hs
    rename_i hb;split at hs
    ·rename_i c hc;split at hs
     case isFalse=>cases hs
     rename_i hl;cases hs;exact .over ys k b o m c true hy (by omega) hb rfl hc hl
    ·rename_i c hc;split at hs
     case isFalse=>cases hs
     rename_i hl;cases hs;exact .on ys k b o m c false hy (by omega) hb rfl hc hl
    ·rename_i c hc;split at hs
     case isFalse=>cases hs
     rename_i hl;cases hs;exact .full ys k b o m c hy (by omega) hb rfl hc hl
    ·cases hs
  ·cases hs
 |bslice es n z ps=>
  simp only[stepT]at hs;split at hs
  case h_2=>cases hs
  rename_i c hc;split at hs
  case isFalse=>cases hs
  rename_i hcond;cases hs;exact⟨c,true,_,hc,hcond.1,hcond.2,rfl,rfl⟩
 |_=>exact hf _ hs
end Go.Abs
namespace Go.Abs
inductive Acc where
 |no
 |rd (b:Nat)
 |wr (b:Nat) (k:ABlk)
def Acc.blk:Acc->Option Nat
 |.no=>none
 |.rd b=>some b
 |.wr b _=>some b
def Acc.app(h:AHeap):Acc->AHeap
 |.wr b k=>h.set b k
 |_=>h
def pure_step{k}(hk:pureK k=true){ρ G G' N N'}:stepT k ρ G N=stepT k ρ G' N':=by
 cases k<;>first|(cases hk;done)|rfl|skip
 case conv c x=>cases c<;>first|(cases hk;done)|rfl
 case len lk x=>
  have hl:lk≠.mp:=λe=>by rw[e]at hk;cases hk
  have e:lenG lk G (ρ x)=lenG lk G' (ρ x):=by
   cases lk<;>first|exact absurd rfl hl|skip
   all_goals
    cases ρ x<;>first|rfl|(simp only[lenG,reduceCtorEq,if_false];repeat' split)<;>rfl
  simp only[stepT,fnT,e]
def load_step{n a ρ G G' N N' b o}(ha:ρ a=.ptr b o)(hb:G b=G' b):stepT (.load n a) ρ G N=stepT (.load n a) ρ G' N':=by
 simp only[stepT,fnT,ha,hb]
def store_step{n a x ρ G G' N N' b o}(ha:ρ a=.ptr b o)(hb:G b=G' b):stepT (.store n a x) ρ G N=stepT (.store n a x) ρ G' N':=by
 simp only[stepT,fnT,ha,hb]
def PStep(o:IOp)(ts:TS)(h:AHeap)(v:AV)(c:Acc):Prop:=
 (¬wanted o.gd ts/\c=.no/\v=undefA)\/wanted o.gd ts/\((pureK o.k=true/\c=.no/\stepT o.k (val ts) (λz=>h[z]?) h.length=some (v,.keep))\/
  (∃n a b off,o.k=.load n a/\val ts a=.ptr b off/\c=.rd b/\stepT o.k (val ts) (λz=>h[z]?) h.length=some (v,.keep))\/
  (∃n a x b off k,o.k=.store n a x/\val ts a=.ptr b off/\c=.wr b k/\stepT o.k (val ts) (λz=>h[z]?) h.length=some (v,.set b k)))
theorem PStep.run{P o ts h g v c}(hs:PStep o ts h v c)(hb:∀b,c.blk=some b->g[b]? =h[b]?):IStep P o ts g (put ts o.dst v) (c.app g):=by
 rcases hs with⟨hw,rfl,rfl⟩|⟨hw,hs⟩
 ·exact .skip hw
 rcases hs with⟨hp,rfl,hs⟩|⟨n,a,b,off,hk,ha,rfl,hs⟩|⟨n,a,x,b,off,k,hk,ha,rfl,hs⟩
 ·refine .run hw ?_ ?_
  ·cases hk:o.k<;>rw[hk]at hp<;>first|(cases hp;done)|trivial
  ·rw[pure_step hp (G':=λz=>g[z]?) (N':=g.length)]at hs;have:=stepT_ok hs;cases hk:o.k<;>rw[hk]at hp this<;>first|(cases hp;done)|exact this
 ·rw[hk]at hs;rw[load_step ha (G':=λz=>g[z]?) (N':=g.length) (hb b rfl).symm]at hs;refine .run hw (by rw[hk];trivial) ?_;rw[hk];exact stepT_ok hs
 ·rw[hk]at hs;rw[store_step ha (G':=λz=>g[z]?) (N':=g.length) (hb b rfl).symm]at hs;refine .run hw (by rw[hk];trivial) ?_;rw[hk];exact stepT_ok hs
def PRow:List IOp->TS->AHeap->List Acc->TS->Prop
 |[],ts,_,cs,ts'=>cs=[]/\ts' =ts
 |o::r,ts,h,cs,ts'=>∃v c cs1,PStep o ts h v c/\cs=c::cs1/\PRow r (put ts o.dst v) h cs1 ts'
theorem PRow.row{h}:∀{l}{ts ts'}{cs},PRow l ts h cs ts'->∃T:Nat->TS,T 0=ts/\T l.length=ts'/\cs.length=l.length/\∀j o,l[j]? =some o->∃v c,cs[j]? =some c/\PStep o (T j) h v c/\T (j+1)=put (T j) o.dst v
 |[],ts,ts',cs,hs=>by
  obtain⟨rfl,rfl⟩:=hs;exact⟨λ_=>ts',rfl,rfl,rfl,λj o ho=>by simp at ho⟩
 |o::r,ts,ts',cs,hs=>by
  obtain⟨v,c,cs1,hst,rfl,hr⟩:=hs;obtain⟨T,hT,hT',hl,hrow⟩:=hr.row;refine⟨λi=>match i with| 0=>ts|i+1=>T i,rfl,hT',by simp[hl],λj x hx=>?_⟩;cases j with
  |zero=>simp at hx;subst hx;exact⟨v,c,rfl,hst,hT⟩
  |succ j=>
   obtain⟨v',c',h1,h2,h3⟩:=hrow j x (by simpa using hx);exact⟨v',c',by simpa using h1,h2,h3⟩
def accApp:AHeap->List Acc->AHeap
 |h,[]=>h
 |h,c::cs=>accApp (c.app h) cs
def accOk:List Acc->Prop
 |[]=>True
 |c::cs=>(∀b,c.blk=some b->∀x∈cs,x.blk=some b->∀k k',c=Acc.wr b k\/x=Acc.wr b k'->False)/\accOk cs
theorem accOk.ne:∀{cs:List Acc},accOk cs->∀{i j b:Nat}{k:ABlk}{c:Acc},cs[i]? =some (.wr b k)->i≠j->cs[j]? =some c->c.blk≠some b
 |[],_,i,j,b,k,c,h1,_,_=>by simp at h1
 |x::xs,h,i,j,b,k,c,h1,hij,h2=>by
  intro hc;cases i with
  |zero=>
   simp at h1;subst h1;cases j with
   |zero=>exact hij rfl
   |succ j=>exact h.1 b rfl c (List.mem_of_getElem? (by simpa using h2)) hc k k (.inl rfl)
  |succ i=>
   cases j with
   |zero=>
    simp at h2;subst h2;exact h.1 b hc _ (List.mem_of_getElem? (by simpa using h1)) rfl k k (.inr rfl)
   |succ j=>exact accOk.ne h.2 (i:=i) (j:=j) (by simpa using h1) (by omega) (by simpa using h2) hc
def app_len(h:AHeap)(c:Acc):(c.app h).length=h.length:=by cases c<;>simp[Acc.app]
def app_ne{h:AHeap}{c:Acc}{b:Nat}(hb:∀k,c=.wr b k->False):(c.app h)[b]? =h[b]? :=by
 cases c with
 |wr b' k=>
  have:b'≠b:=λe=>hb k (by rw[e])
  simp[Acc.app,List.getElem?_set_ne this]
 |_=>rfl
theorem accApp_ne:∀{cs:List Acc}{h:AHeap}{b:Nat},(∀(j:Nat) (k:ABlk),cs[j]? =some (Acc.wr b k)->False)->(accApp h cs)[b]? =h[b]?
 |[],h,b,_=>rfl
 |c::cs,h,b,hb=>by
  rw[accApp,accApp_ne (λj k hj=>hb (j+1) k (by simpa using hj))];exact app_ne λk hk=>hb 0 k (by simp[hk])
theorem accApp_wr:∀{cs:List Acc}{h:AHeap},accOk cs->∀{j b:Nat}{k:ABlk},b<h.length->cs[j]? =some (.wr b k)->(accApp h cs)[b]? =some k
 |[],h,_,j,b,k,_,hj=>by simp at hj
 |c::cs,h,ho,j,b,k,hb,hj=>by
  cases j with
  |zero=>
   simp at hj;subst hj;rw[accApp,accApp_ne (λj k' hj=>accOk.ne ho (i:=0) (j:=j+1) (b:=b) (k:=k) rfl (by omega) (by simpa using hj) rfl)];simp[Acc.app,hb]
  |succ j=>
   rw[accApp];exact accApp_wr ho.2 (by rw[app_len];exact hb) (by simpa using hj)
structure HeapS(h:AHeap)(cs:List Acc)(S:Nat->Bool)(g:AHeap):Prop where
 len:g.length=h.length
 wr:∀j b k,S j=true->cs[j]? =some (.wr b k)->g[b]? =some k
 ne:∀b,(∀j k,S j=true->cs[j]? =some (.wr b k)->False)->g[b]? =h[b]?
def HeapS.all{h g:AHeap}{cs:List Acc}{S:Nat->Bool}(H:HeapS h cs S g)(ho:accOk cs)(hS:∀j c,cs[j]? =some c->S j=true):g=accApp h cs:=by
 apply List.ext_getElem?
 intro b;by_cases hx:∃(j:Nat) (k:ABlk),cs[j]? =some (Acc.wr b k)
 ·obtain⟨j,k,hj⟩:=hx;have h1:=H.wr j b k (hS j _ hj) hj;have:b<h.length:=by rw[<-H.len];exact(List.getElem?_eq_some_iff.1 h1).1
  rw[h1,accApp_wr ho this hj]
 ·rw[H.ne b λj k _ hj=>hx ⟨j,k,hj⟩,accApp_ne λj k hj=>hx ⟨j,k,hj⟩]
def region_plain{P:Program}(hmix:P.follows .mixedOrders=true){ops:Array Oper}{l:List IOp}(hed:edgesOk (Region.before ops) ops=true)(hsl:slotsOk (Region.before ops) ops=true)
  (hc:zipMapM (λ_ o=>compileOp P ops false o) ops.toList 0=some l) {ts ts':TS}{h:AHeap}{cs:List Acc}(hs:PRow l ts h cs ts') (hok:accOk cs) {m:Emb}{a:Act}{w:World}
  (st:St P m ts h a w) (ro:Option Nat) (Q:Exit->Act->World->Prop) (hQ:∀m' a' w',St P m' ts' (accApp h cs) a' w'->Grow m h w m' (accApp h cs) w'->a'.defers=a.defers->Q .normal a' w') (id:Nat):
  (Code.region id ops true).wpIn (Fd ro) 0 P Q a w:=by
 refine wpIn_region_any hmix ?_;obtain⟨T,rfl,rfl,hcl0,hrow⟩:=hs.row;obtain⟨hlen0,hget⟩:=zipMapM_get hc;simp only[Array.length_toList]at hlen0;have hback:∀(j:Nat) (io:IOp),l[j]? =some io->∃o,ops[j]? =some o/\compileOp P ops false o=some io:=λj io hj=>by
  have hlt:j<ops.size:=by have:=(List.getElem?_eq_some_iff.1 hj).1;omega
  have ho:ops[j]? =some ops[j]:=Array.getElem?_eq_getElem hlt;obtain⟨io',h1,h2⟩:=hget j ops[j] (by simp);rw[hj]at h1;cases h1;exact⟨_,ho,h2⟩
 have hdst:∀(j:Nat) (io:IOp) (d:Nat),l[j]? =some io->io.dst=some d->∃o,ops[j]? =some o/\o.dst=some d:=λj io d hj hd=>by
  obtain⟨o,h1,h2⟩:=hback j io hj;exact⟨o,h1,by rw[<- (compileOp_dst h2).1];exact hd⟩
 have huniq:∀(i j:Nat) (oi oj:IOp) (d:Nat),l[i]? =some oi->l[j]? =some oj->oi.dst=some d->oj.dst=some d->i=j:=λi j oi oj d hi hj h1 h2=>by
  obtain⟨xi,a1,a2⟩:=hdst i oi d hi h1;obtain⟨xj,b1,b2⟩:=hdst j oj d hj h2;by_cases hlt:i<j
  ·exact absurd b2 ((slotsOk_spec hsl hlt a1 b1).1 d a2).1
  ·by_cases hgt:j<i
   ·exact absurd a2 ((slotsOk_spec hsl hgt b1 a1).1 d b2).1
   ·omega
 have hTl:∀j,j<=l.length->(T j).length=(T 0).length:=by
  intro j
  induction j with
  |zero=>intro _;rfl
  |succ j ih=>
   intro hj;obtain⟨v,c,_,_,hv⟩:=hrow j _ (List.getElem?_eq_getElem (show j<l.length by omega));rw[hv,put_length];exact ih (by omega)
 have hTsame:∀x y t,x<=y->y<=l.length->(∀(j:Nat) (o:IOp),x<=j->j<y->l[j]? =some o->o.dst≠some t)->(T y).getD t undefA=(T x).getD t undefA:=by
  intro x y t hxy hy hno;have:=T_same (T:=T) (t:=t) (a:=x) (y-x) (λj h1 h2=>by
   have hj:l[j]? =some (l[j]'(by omega)):=List.getElem?_eq_getElem (by omega);obtain⟨v,c,_,_,hv⟩:=hrow j _ hj;exact⟨_,v,hv,hno j _ h1 (by omega) hj⟩)
  rwa [show x+(y-x)=y from by omega]at this
 have hdone:∀(listed:Array Bool) (g:AHeap) (a1:Act) (w1:World),(∀i,i<ops.size->listed.getD i false=true)->HeapS h cs (λj=>listed.getD j false) g->HR P m g w1->Grow m h w m g w1->a1.tmps.size=(T 0).length->
   (∀(d:Nat),(∀(j:Nat) (o:IOp),l[j]? =some o->listed.getD j false=true->o.dst≠some d)->VR m ((T 0).getD d undefA) (a1.tmps.getD d undef))->
   (∀(d j:Nat) (o:IOp),l[j]? =some o->listed.getD j false=true->o.dst=some d->VR m ((T (j+1)).getD d undefA) (a1.tmps.getD d undef))->a1.defers=a.defers->Q .normal a1 w1:=by
  intro listed g a1 w1 hall H hr hg hsz h1 h2 hd;have e:=H.all hok λj c hj=>hall j (by have:=(List.getElem?_eq_some_iff.1 hj).1;omega)
  subst e;refine hQ m a1 w1 ⟨hr,VRs.of_get ?_ ?_⟩ hg hd
  ·have:=hTl l.length (Nat.le_refl _);simp;omega
  ·intro t x hx;have hlt:=(List.getElem?_eq_some_iff.1 hx).1;have hlt':t<a1.tmps.size:=by have:=hTl l.length (Nat.le_refl _);omega
   have ex:(T l.length).getD t undefA=x:=by simp[List.getD,hx]
   have ey:a1.tmps.getD t undef=a1.tmps[t]:=by simp[Array.getD_eq_getD_getElem?,Array.getElem?_eq_getElem hlt']
   refine⟨a1.tmps[t],by simp,?_⟩;rw[<-ex,<-ey];by_cases hw:∃(j:Nat) (o:IOp),l[j]? =some o/\o.dst=some t
   ·obtain⟨j,o,hj,ho⟩:=hw;have hjl:=(List.getElem?_eq_some_iff.1 hj).1;rw[hTsame (j+1) l.length t (by omega) (Nat.le_refl _) (λk o' a2 a3 a4 a5=>by have:=huniq j k o o' t hj a4 ho a5;omega)];exact h2 t j o hj (hall j (by omega)) ho
   ·rw[hTsame 0 l.length t (by omega) (Nat.le_refl _) (λk o' _ _ h4 h5=>hw ⟨k,o',h4,h5⟩)];exact h1 t λj o hj _ ho=>hw ⟨j,o,hj,ho⟩
 have key:∀(fuel:Nat) (listed:Array Bool) (g:AHeap) (a1:Act) (w1:World),listed.size=ops.size->unl listed ops.size<=fuel->
   (∀j x,listed.getD j false=true->x<ops.size->ahead (Region.before ops) x j=true->listed.getD x false=true)->
   HeapS h cs (λj=>listed.getD j false) g->HR P m g w1->Grow m h w m g w1->a1.tmps.size=(T 0).length->
   (∀(d:Nat),(∀(j:Nat) (o:IOp),l[j]? =some o->listed.getD j false=true->o.dst≠some d)->VR m ((T 0).getD d undefA) (a1.tmps.getD d undef))->
   (∀(d j:Nat) (o:IOp),l[j]? =some o->listed.getD j false=true->o.dst=some d->VR m ((T (j+1)).getD d undefA) (a1.tmps.getD d undef))->a1.defers=a.defers->wpAnyIn (Fd ro) 0 P .any ops Q fuel listed a1 w1:=by
  intro fuel
  induction fuel with
  |zero=>
   intro listed g a1 w1 hsz' hu hcl H hr hg hsz h1 h2 hd;have hall:=unl_zero ops.size (show unl listed ops.size=0 by omega);exact⟨ready_all hsz' hall,hdone listed g a1 w1 hall H hr hg hsz h1 h2 hd⟩
  |succ fuel ih=>
   intro listed g a1 w1 hsz' hu hcl H hr hg hsz h1 h2 hd;refine⟨λhrn=>hdone listed g a1 w1 (ready_nil hed hsz' hrn) H hr hg hsz h1 h2 hd,λi hi=>?_⟩;obtain⟨o,ho,hli,hed'⟩:=(ready_mem hsz').1 hi;have hin:i<ops.size:=(Array.getElem?_eq_some_iff.1 ho).1;obtain⟨io,hio,hcomp⟩:=hget i o (by simpa using ho);obtain⟨v,c,hci,hst,hTi⟩:=hrow i io hio;have hahead:∀x,x<ops.size->ahead (Region.before ops) x i=true->listed.getD x false=true:=λx hx ha=>by
    obtain⟨e,he,hb,hor⟩:=(edgesOk_spec hed ho).2 x hx ha;have hle:=hed' e he hb;rcases hor with rfl|hor
    ·exact hle
    ·exact hcl e.on x hle hx hor
   have hcl':∀j x,(listed.setIfInBounds i true).getD j false=true->x<ops.size->ahead (Region.before ops) x j=true->(listed.setIfInBounds i true).getD x false=true:=by
    intro j x hj hx ha;rw[getD_set_iff (by omega)]at hj ⊢;split
    ·rfl
    ·split at hj
     ·rename_i hji;subst hji;exact hahead x hx ha
     ·exact hcl j x hj hx ha
   have hu':unl (listed.setIfInBounds i true) ops.size<=fuel:=by
    have:=unl_lt (listed:=listed) (by omega) hli ops.size hin;omega
   have hslot:∀t,t∈o.looksAt ops->VR m ((T i).getD t undefA) (a1.tmps.getD t undef):=by
    intro t ht;by_cases hex:∃(x:Nat) (ox:IOp),l[x]? =some ox/\listed.getD x false=true/\ox.dst=some t
    ·obtain⟨x,ox,hx,hxl,hxd⟩:=hex;obtain⟨oo,hoo,hxd'⟩:=hdst x ox t hx hxd;have hxi:x<i:=by
      by_cases e1:x=i
      ·subst e1;rw[hli]at hxl;cases hxl
      ·by_cases e2:x<i
       ·exact e2
       ·have e3:=(slotsOk_spec hsl (show i<x by omega) ho hoo).2 t hxd' ht;have e4:=hcl x i hxl hin e3;rw[hli]at e4;cases e4
     rw[hTsame (x+1) i t (by omega) (by omega) (λk o' a2 a3 a4 a5=>by have:=huniq x k ox o' t hx a4 hxd a5;omega)];exact h2 t x ox hx hxl hxd
    ·rw[hTsame 0 i t (by omega) (by omega) (λk o' e2 e3 e4 e5=>by
      obtain⟨oo,hoo,hd'⟩:=hdst k o' t e4 e5;have h6:=((slotsOk_spec hsl e3 hoo ho).1 t hd').2 ht;exact hex ⟨k,o',e4,hahead k (Array.getElem?_eq_some_iff.1 hoo).1 h6,e5⟩)]
     exact h1 t λj oj hj hl hd'=>hex ⟨j,oj,hj,hl,hd'⟩
   have hblk:∀b,c.blk=some b->g[b]? =h[b]? :=λb hb=>H.ne b λj k hj hjc=>by
    by_cases e1:j=i
    ·subst e1
     try simp only at hj
     rw[hli]at hj;cases hj
    ·exact accOk.ne hok hjc e1 hci hb
   refine opIn_sound ho hcomp hr.gv hr (by rw[hsz,hTl i (by omega)]) hslot (hst.run (P:=P) hblk) ro _ Q ?_;intro cv v' m' w' hT' hv' hr' hg';have hd':io.dst=o.dst:=(compileOp_dst hcomp).1;have hm:m' =m:=by
    funext b;by_cases hb:b<g.length
    ·exact hg'.ext b hb
    ·have e1:m b=none:=by
      cases hx:m b with
      |none=>rfl
      |some e=>exact absurd (hr.dom b e hx) hb
     have e2:m' b=none:=by
      cases hx:m' b with
      |none=>rfl
      |some e=>exact absurd (by have:=hr'.dom b e hx;rwa [app_len]at this) hb
     rw[e1,e2]
   subst hm;have hlt:(listed.setIfInBounds i true).getD i false=true:=by rw[getD_set_iff (by omega),if_pos rfl]
   have hne:∀j,j≠i->(listed.setIfInBounds i true).getD j false=listed.getD j false:=λj hj=>by rw[getD_set_iff (by omega),if_neg hj]
   have htm:(a1.put o.dst cv).tmps=putA a1.tmps o.dst cv:=by cases o.dst<;>rfl
   refine ih _ (c.app g) (a1.put o.dst cv) w' (by simp[hsz']) hu' hcl' ⟨by rw[app_len];exact H.len,?_,?_⟩ hr' (hg.trans hg' st.hr.dom) (by rw[htm,putA_size];exact hsz) ?_ ?_ (by rw[put_defers];exact hd)
   ·intro j b k hj hjc
    try simp only at hj
    by_cases e1:j=i
    ·subst e1;rw[hci]at hjc;cases hjc;have:b<g.length:=by
      by_cases hb:b<g.length
      ·exact hb
      ·have e:=hblk b rfl;rcases hst with⟨_,h,_⟩|⟨_,hs3⟩
       ·cases h
       rcases hs3 with⟨_,h,_⟩|⟨_,_,_,_,_,_,h,_⟩|⟨n,aa,x,b',off,k',hk,ha,h,hs3⟩
       ·cases h
       ·cases h
       ·cases h;rw[hk]at hs3;rw[List.getElem?_eq_none (by omega)]at e;simp only[stepT,fnT,ha,<-e]at hs3;cases hs3
     simp[Acc.app,this]
    ·rw[hne j e1]at hj;rw[app_ne λk' hk'=>by
      subst hk';exact accOk.ne hok hjc e1 hci rfl]
     exact H.wr j b k hj hjc
   ·intro b hb;rw[app_ne λk' hk'=>hb i k' hlt (by rw[hci,hk'])];exact H.ne b λj k hj hjc=>by
     try simp only at hj
     exact hb j k (by
      show(listed.setIfInBounds i true).getD j false=true;by_cases e1:j=i
      ·subst e1;exact hlt
      ·rw[hne j e1];exact hj) hjc
   ·intro d hdn;have hnd:o.dst≠some d:=by rw[<-hd'];exact hdn i io hio hlt
    rw[htm,putA_ne hnd];refine h1 d λj oj hj hl=>hdn j oj hj ?_
    by_cases e1:j=i
    ·subst e1;exact hlt
    ·rw[hne j e1];exact hl
   ·intro d j oj hj hl hdj;by_cases e1:j=i
    ·subst e1;rw[hio]at hj;cases hj;rw[hTi,htm,<-hd',hdj];have hvv:put (T j) (some d) v=put (T j) (some d) v':=by
      have:=hT';rw[<-hd',hdj]at this;exact this
     rw[hvv];exact put_same (by rw[hsz,hTl j (by omega)]) hv'
    ·have hnd:o.dst≠some d:=λhx=>by
      rw[<-hd']at hx;exact e1 (huniq j i oj io d hj hio hdj hx)
     rw[htm,putA_ne hnd];rw[hne j e1]at hl;exact h2 d j oj hj hl hdj
 have hfalse:∀j,(Array.replicate ops.size false).getD j false=false:=λj=>by
  rw[Array.getD_eq_getD_getElem?,Array.getElem?_replicate];split<;>rfl
 refine key ops.size (Array.replicate ops.size false) h a _ (by simp) ?_ (λj x hj _ _=>by simp[hfalse j]at hj) ⟨rfl,λj b k hj _=>by simp[hfalse j]at hj,λb _=>rfl⟩ st.hr.drew (Grow.refl m _ w st.hr.dom).drew ?_ (λd _=>slotA st.ts d) (λd j o _ hj _=>by simp[hfalse j]at hj) rfl
 ·have:∀n,unl (Array.replicate ops.size false) n<=n:=by
   intro n
   induction n with
   |zero=>exact Nat.le_refl _
   |succ n ihn=>simp only[unl];split<;>omega
  exact this _
 ·have:=st.ts.length;simpa using this
theorem Ev.opsS{P ro}(hmix:P.follows .mixedOrders=true){l ts ts' h cs}(hs:PRow l ts h cs ts')(hok:accOk cs):Ev P ro (.opsS l) ts h .normal ts' (accApp h cs):=by
 refine Ev.of λcc hns hc m a w lo hlo st hm Q hQ=>?_
 cases cc with
 |region id ops draw=>
  rcases reg_cases (by simpa only[compile]using hc)with⟨l',h1,hl⟩|⟨l',h1,hd,⟨l2,hl2⟩,hz⟩|⟨_,h1,_⟩<;>cases h1
  subst hd;simp only[compileRegion,if_true]at hl2;split at hl2
  case isFalse=>cases hl2
  rename_i hok2;simp only[Bool.and_eq_true]at hok2;exact region_plain hmix hok2.1 hok2.2 hz hs hok st ro Q (λm' a' w' s g d=>hQ m' a' w' s g (by rw[d];exact hm.grow g st.hr.dom)) id
 |scope a=>exact absurd rfl (hns a)
 |block id a=>simp[compile]at hc
 |loop a=>simp[compile]at hc
 |_=>
  simp only[compile]at hc
  (repeat' split at hc)
  all_goals cases hc
def accAdd(cs:List Acc):Acc->List Acc
 |.no=>cs
 |c=>cs++[c]
def accAdd_ne{cs c}(hc:c≠.no):accAdd cs c=cs++[c]:=by cases c<;>first|exact absurd rfl hc|rfl
def WOS(h:AHeap):List IOp->TS->List Acc->(TS->List Acc->Prop)->Prop
 |[],ts,cs,K=>K ts cs
 |o::r,ts,cs,K=>∃v c,PStep o ts h v c/\WOS h r (put ts o.dst v) (accAdd cs c) K
theorem accOk_app:∀{a b c},(∀x∈b,x=Acc.no)->accOk (a++c)->accOk (a++b++c)
 |[],[],c,_,h=>h
 |[],x::b,c,hb,h=>by
  have hx:=hb x (by simp);subst hx;exact⟨λn hn=>by(cases hn),by simpa using accOk_app (a:=[]) (b:=b) (λy hy=>hb y (List.mem_cons_of_mem _ hy)) h⟩
 |x::a,b,c,hb,h=>by
  refine⟨λn hn y hy hyn k k' hk=>?_,accOk_app (a:=a) hb h.2⟩;rcases List.mem_append.1 hy with hy|hy
  ·rcases List.mem_append.1 hy with hy|hy
   ·exact h.1 n hn y (List.mem_append.2 (.inl hy)) hyn k k' hk
   ·rw[hb y hy]at hyn;cases hyn
  ·exact h.1 n hn y (List.mem_append.2 (.inr hy)) hyn k k' hk
theorem WOS.sound{h}:∀{l}{ts}{cs}{K},WOS h l ts cs K->∃cs2 cs3 ts',PRow l ts h cs2 ts'/\K ts' (cs++cs3)/\(∀(a c:List Acc),accOk (a++cs3++c)->accOk (a++cs2++c))/\(∀g,accApp g cs2=accApp g cs3)
 |[],ts,cs,K,H=>⟨[],[],ts,⟨rfl,rfl⟩,by rw[List.append_nil];exact H,λ_ _ h=>h,λ_=>rfl⟩
 |o::r,ts,cs,K,H=>by
  obtain⟨v,c,h1,H⟩:=H;obtain⟨cs2,cs3,ts',h2,h3,h4,h5⟩:=WOS.sound (l:=r) H;by_cases hc:c=.no
  ·subst hc;refine⟨.no::cs2,cs3,ts',⟨v,.no,cs2,h1,rfl,h2⟩,h3,λa d hd=>?_,λg=>h5 g⟩;have:=accOk_app (a:=a) (b:=[.no]) (c:=cs2++d) (by simp) (by simpa using h4 a d hd)
   simpa using this
  ·rw[accAdd_ne hc]at h3;refine⟨c::cs2,c::cs3,ts',⟨v,c,cs2,h1,rfl,h2⟩,by simpa using h3,λa d hd=>?_,λg=>by rw[accApp,accApp,h5]⟩;have:=h4 (a++[c]) d (by simpa using hd)
   simpa using this
theorem WOS.mono{h}:∀{l}{ts}{cs}{K K'},WOS h l ts cs K->(∀ts' cs',K ts' cs'->K' ts' cs')->WOS h l ts cs K'
 |[],ts,cs,K,K',H,hk=>hk _ _ H
 |o::r,ts,cs,K,K',H,hk=>by
  obtain⟨v,c,h1,H⟩:=H;exact⟨v,c,h1,WOS.mono (l:=r) H hk⟩
end Go.Abs
