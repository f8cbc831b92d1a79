/- The abstract layer, part Y: what must hold ahead of a piece of code, by its form; rules for loops, calls, functions. No condition. · The abstract layer, part Z: slices as lists of rows of cells; what operations do on them. No condition. · The abstract layer, part RA: one equation for each operation, in the form in which it is used as a rule. No condition. · The abstract layer, part RB: the rules in one bundle; choices by a test. No condition. · The abstract layer, part RC: loads and stores in a heap written out; strings ranged over; rows of integers. No condition. · The abstract layer, part RD: slices whose rows are made of the elements of a list; more rules. No condition. · The functions in the small code. No condition. · The abstract layer, part RE: loads and stores where a place is known by its number alone; calls whose blocks are taken together. No condition. · The abstract layer: loops over functions, by what the function yields. No condition. · The abstract layer: append on an empty literal; stores into a slice of one's own; make and copy. No condition. · The abstract layer, part RH: rules for the regions whose stores may come before loads of other blocks. No condition. · The abstract layer: slots of a long row, one by one. No condition. · Short words for what the walks repeat. No condition. · Errors, ranges, names; plain. No condition. · Contracts: errors, ranges. No condition. · Contracts: the greatest common divisor, quotients in lowest terms. No condition. · Tides: their errors, the level at a tick. Contracts. No condition. · Contracts: the errors of tides. No condition. · Contracts: the reference's errors of tides; the level at a tick. No condition. · Contracts: the level at a tick. No condition. · Contracts: the level with its checks; the seat's own helpers: short rows, rows turned, levels compared. No condition. -/
import Derived.Test.YtjipbemoklhnaaaGreatDoorAc2
set_option linter.all false
namespace Go.Abs
def Ext(h h':AHeap):Prop:=∃g,h' =h++g
def Ext.refl(h:AHeap):Ext h h:=⟨[],by simp⟩
def Ext.app{h k}(g:AHeap)(e:Ext h k):Ext h (k++g):=by
 obtain⟨x,rfl⟩:=e;exact⟨x++g,by simp⟩
def Ext.trans{a b c}(h:Ext a b)(k:Ext b c):Ext a c:=by
 obtain⟨x,rfl⟩:=h;obtain⟨y,rfl⟩:=k;exact⟨x++y,by simp⟩
def Ext.get{h k}(e:Ext h k){b}(hb:b<h.length):k[b]? =h[b]? :=by
 obtain⟨x,rfl⟩:=e;exact List.getElem?_append_left hb
theorem Ext.some{h k:AHeap}(e:Ext h k){b:Nat}{x:ABlk}(hb:h[b]? =some x):k[b]? =some x:=by
 rw[e.get (List.getElem?_eq_some_iff.1 hb).1];exact hb
def Ext.len{h k}(e:Ext h k):h.length<=k.length:=by
 obtain⟨x,rfl⟩:=e;simp
def CallQ(P:Program)(q:Bool)(fv:AV)(args:List AV)(h:AHeap)(K:AV->AHeap->Prop):Prop:=
 ∃v h',SCallV P fv args h v h'/\(q=true->Ext h h')/\K v h'
def Eff.quiet:Eff->Bool
 |.keep=>true
 |.push _=>true
 |_=>false
def Eff.quiet_ext{e:Eff}{h:AHeap}(he:e.quiet=true):Ext h (e.app h):=by
 cases e with
 |keep=>exact Ext.refl h
 |push k=>exact⟨[k],rfl⟩
 |set b k=>cases he
 |setPush b k k'=>cases he
def WK(P:Program)(q:Bool)(k:OpK)(ρ:Opd->AV)(h:AHeap)(K:AV->AHeap->Prop):Prop:=
 match k with
 |.call f args=>CallQ P q (ρ f) (args.map ρ) h K
 |k=>
  match stepT k ρ (λb=>h[b]?) h.length with
  |some (v,e)=>(q=true->e.quiet=true)/\K v (e.app h)
  |none=>False
def inK(d:Option Nat)(k:OpK)(n:Nat)(X:Prop):Prop:=
 match k,d with
 |.boxn _ _,some d=>d<n/\X
 |_,_=>X
def inK_iff{d k n}{X:Prop}:inK d k n X↔inR d k n/\X:=by
 cases k<;>cases d<;>simp[inK,inR]
def inK.mono{d k n}{X Y:Prop}(h:X->Y)(x:inK d k n X):inK d k n Y:=inK_iff.2 ⟨(inK_iff.1 x).1,h (inK_iff.1 x).2⟩
def WS(P:Program)(o:IOp)(ts:TS)(h:AHeap)(K:AV->AHeap->Prop):Prop:=
 match o.gd with
 |none=>inK o.dst o.k ts.length (WK P o.q o.k (val ts) h K)
 |some (t,b)=>
  match val ts (.t t)with
  |.bool c=>if c=b then inK o.dst o.k ts.length (WK P o.q o.k (val ts) h K)else K undefA h
  |_=>K undefA h
def WO(P:Program):List IOp->TS->AHeap->(TS->AHeap->Prop)->Prop
 |[],ts,h,Q=>Q ts h
 |o::r,ts,h,Q=>WS P o ts h (λv h1=>WO P r (put ts o.dst v) h1 Q)
def WK.sound{P:Program}{q:Bool}{k:OpK}{ρ:Opd->AV}{h:AHeap}{K:AV->AHeap->Prop}(H:WK P q k ρ h K):∃v h',OpStep P k ρ h v h'/\(q=true->Ext h h')/\K v h':=by
 by_cases hc:∃f args,k=.call f args
 ·obtain⟨f,args,rfl⟩:=hc;exact H
 ·have H':(match stepT k ρ (λb=>h[b]?) h.length with
   |some (v,e)=>(q=true->e.quiet=true)/\K v (e.app h)
   |none=>False):=by
   cases k<;>first|exact H|exact absurd ⟨_,_,rfl⟩ hc
  split at H'
  case h_2=>exact H'.elim
  rename_i v e he;refine⟨v,e.app h,?_,λhq=>Eff.quiet_ext (H'.1 hq),H'.2⟩;have:=stepT_ok he;cases k<;>first|exact this|exact absurd ⟨_,_,rfl⟩ hc
theorem WS.sound{P o ts h K}(H:WS P o ts h K):∃v h',IStep P o ts h (put ts o.dst v) h'/\(o.q=true->∃g,h' =h++g)/\K v h':=by
 have run:wanted o.gd ts->inK o.dst o.k ts.length (WK P o.q o.k (val ts) h K)->∃v h',IStep P o ts h (put ts o.dst v) h'/\(o.q=true->∃g,h' =h++g)/\K v h':=λhw hk=>by
  obtain⟨hb,hk⟩:=inK_iff.1 hk;obtain⟨v,h',h1,h2,h3⟩:=hk.sound;exact⟨v,h',.run hw hb h1,h2,h3⟩
 have skip:¬wanted o.gd ts->K undefA h->∃v h',IStep P o ts h (put ts o.dst v) h'/\(o.q=true->∃g,h' =h++g)/\K v h':=λhw hk=>
  ⟨undefA,h,.skip hw,λ_=>Ext.refl h,hk⟩
 unfold WS at H;split at H
 ·rename_i hg;exact run (by rw[hg];trivial) H
 ·rename_i t b hg;split at H
  ·rename_i c hv;have hx:ts[t]? =some (.bool c):=by
    simp only[val,List.getD]at hv;cases hy:ts[t]? with
    |none=>rw[hy]at hv;cases hv
    |some z=>rw[hy]at hv;simp only[Option.getD_some]at hv;rw[hv]
   split at H
   ·rename_i hcb;subst hcb;exact run (by rw[hg];exact hx) H
   ·rename_i hcb;refine skip (λhw=>hcb ?_) H;rw[hg]at hw;simp only[wanted,hx,Option.some.injEq,AV.bool.injEq]at hw;exact hw
  ·rename_i hv;refine skip (λhw=>?_) H;rw[hg]at hw;simp only[wanted]at hw;exact hv b (by simp[val,List.getD,hw])
theorem WO.sound{P}:∀{l}{ts}{h}{Q},WO P l ts h Q->∃ts' h',IOps P l ts h ts' h'/\Q ts' h'
 |[],ts,h,Q,H=>⟨ts,h,⟨rfl,rfl⟩,H⟩
 |o::r,ts,h,Q,H=>by
  obtain⟨v,h1,h2,h3,h4⟩:=WS.sound H;obtain⟨ts',h',h5,h6⟩:=WO.sound (l:=r) h4;exact⟨ts',h',⟨_,h1,h2,h3,h5⟩,h6⟩
def WM(P:Program)(S:AHeap->Prop):List IOp->TS->AHeap->(TS->AHeap->Prop)->Prop
 |[],ts,h,K=>S h/\K ts h
 |o::r,ts,h,K=>S h/\((lateAll (o::r)=true/\WO P (o::r) ts h K)\/(lateAll (o::r)=false/\
   ((ldQ o=true/\∃v,(∀g,S g->IStep P o ts g (put ts o.dst v) g)/\WM P S r (put ts o.dst v) h K)\/(ldQ o=false/\WS P o ts h (λv h1=>WM P S r (put ts o.dst v) h1 K)))))
theorem WM.sound{P S}:∀{l}{ts}{h}{K},WM P S l ts h K->∃T H,Row P l T H/\T 0=ts/\H 0=h/\(∀(i:Nat) (io:IOp),l[i]? =some io->ldQ io=true->∀g,S g->IStep P io (T i) g (T (i+1)) g)/\(∀θ,θ<=lateAt l->S (H θ))/\K (T l.length) (H l.length)
 |[],ts,h,K,H=>⟨λ_=>ts,λ_=>h,⟨λi o ho=>by simp at ho⟩,rfl,rfl,λi io ho=>by simp at ho,λ_ _=>H.1,H.2⟩
 |o::r,ts,h,K,H=>by
  obtain⟨h0,H⟩:=H;rcases H with⟨hall,H⟩|⟨hall,H⟩
  ·obtain⟨ts',h',h1,h2⟩:=WO.sound H;obtain⟨T,G,rfl,rfl,rfl,rfl,r5⟩:=h1.row;refine⟨T,G,r5,rfl,rfl,λi io hio hld=>?_,λθ hθ=>?_,h2⟩
   ·have:=List.all_eq_true.1 (Bool.and_eq_true_iff.1 hall).1 io (List.mem_of_getElem? hio);unfold ldQ at hld;unfold lateK at this;cases hk:io.k<;>rw[hk]at hld this<;>simp[pureK]at hld this
   ·rw[lateAt,if_pos hall]at hθ;have:θ=0:=by omega
    subst this;exact h0
  have key:∃v h1,IStep P o ts h (put ts o.dst v) h1/\(o.q=true->∃g,h1=h++g)/\(ldQ o=true->∀g,S g->IStep P o ts g (put ts o.dst v) g)/\WM P S r (put ts o.dst v) h1 K:=by
   rcases H with⟨hl,v,h1,h2⟩|⟨hl,H⟩
   ·exact⟨v,h,h1 h h0,λ_=>⟨[],by simp⟩,λ_=>h1,h2⟩
   ·obtain⟨v,h1,h2,h3,h4⟩:=WS.sound H;refine⟨v,h1,h2,h3,λz=>?_,h4⟩;rw[hl]at z;cases z
  obtain⟨v,h1,k1,k2,k3,k4⟩:=key;obtain⟨T,G,r1,r2,r3,r4,r5,r6⟩:=WM.sound (l:=r) k4
  let T':Nat->TS:=λn=>match n with| 0=>ts|n+1=>T n
  let G':Nat->AHeap:=λn=>match n with| 0=>h|n+1=>G n
  refine⟨T',G',⟨λi o' ho=>?_⟩,rfl,rfl,λi io hio hld g hg=>?_,λθ hθ=>?_,r6⟩
  ·cases i with
   |zero=>
    simp only[List.getElem?_cons_zero,Option.some.injEq]at ho;subst ho;show IStep P o ts h (T 0) (G 0)/\(o.q=true->∃g,G 0=h++g);rw[r2,r3];exact⟨k1,k2⟩
   |succ i=>exact r1.step i o' (by simpa using ho)
  ·cases i with
   |zero=>
    simp only[List.getElem?_cons_zero,Option.some.injEq]at hio;subst hio;show IStep P o ts g (T 0) g;rw[r2];exact k3 hld g hg
   |succ i=>exact r4 i io (by simpa using hio) hld g hg
  ·cases θ with
   |zero=>exact h0
   |succ θ=>
    rw[lateAt,if_neg (by rw[hall];decide)]at hθ;exact r5 θ (by omega)
def W(P:Program)(ro:Option Nat->Prop):ICode->TS->AHeap->(Ex->TS->AHeap->Prop)->Prop
 |.skip,ts,h,Q=>Q .normal ts h
 |.ops l,ts,h,Q=>WO P l ts h (Q .normal)
 |.opsS l,ts,h,Q=>WOS h l ts [] λts' cs=>accOk cs/\Q .normal ts' (accApp h cs)
 |.opsM l,ts,h,Q=>∃S,WM P S l ts h (Q .normal)
 |.seq a b,ts,h,Q=>W P ro a ts h λe ts1 h1=>
  match e with
  |.normal=>W P ro b ts1 h1 Q
  |.exit id=>Q (.exit id) ts1 h1
  |.ret=>Q .ret ts1 h1
 |.cond c a b,ts,h,Q=>
  match val ts c with
  |.bool t=>(t=true->W P ro a ts h Q)/\(t=false->W P ro b ts h Q)
  |_=>False
 |.block id a,ts,h,Q=>W P ro a ts h λe=>Q (e.inBlock id)
 |.loop a,ts,h,Q=>∃e ts' h',(∀r,ro r->LoopR P r a ts h e ts' h')/\Q e ts' h'
 |.exit id,ts,h,Q=>Q (.exit id) ts h
 |.ret,ts,h,Q=>Q .ret ts h
 |.rangeF g ps asg body,ts,h,Q=>∃e ts' h',(∀r,ro r->Ev P r (.rangeF g ps asg body) ts h e ts' h')/\Q e ts' h'
 |.bad,_,_,_=>False
def inFn:Option Nat->Prop:=λr=>r=none
def inRd:Option Nat->Prop:=λr=>∃l,r=some l
theorem W.sound{P}(hmix:P.follows .mixedOrders=true){ro}:∀{c}{ts}{h}{Q},W P ro c ts h Q->∃e ts' h',(∀r,ro r->Ev P r c ts h e ts' h')/\Q e ts' h'
 |.skip,ts,h,Q,H=>⟨.normal,ts,h,λ_ _=>.skip,H⟩
 |.ops l,ts,h,Q,H=>by
  obtain⟨ts',h',h1,h2⟩:=WO.sound (l:=l) H;exact⟨.normal,ts',h',λ_ _=>.ops hmix h1,h2⟩
 |.opsS l,ts,h,Q,H=>by
  obtain⟨cs2,cs3,ts',h1,⟨h2,h3⟩,h4,h5⟩:=WOS.sound (l:=l) H;rw[List.nil_append]at h2 h3;exact⟨.normal,ts',accApp h cs2,λ_ _=>.opsS hmix h1 (by simpa using h4 [] [] (by simpa using h2)),by rw[h5];exact h3⟩
 |.opsM l,ts,h,Q,H=>by
  obtain⟨S,H⟩:=H;obtain⟨T,G,r1,rfl,rfl,r4,r5,r6⟩:=WM.sound (l:=l) H;exact⟨.normal,_,_,λ_ _=>.opsM hmix r1 λi io hio hld θ hθ=>r4 i io hio hld _ (r5 θ hθ),r6⟩
 |.seq a b,ts,h,Q,H=>by
  obtain⟨e,ts1,h1,h2,h3⟩:=W.sound hmix (c:=a) H;cases e with
  |normal=>
   obtain⟨e,ts',h',h4,h5⟩:=W.sound hmix (c:=b) h3;exact⟨e,ts',h',λr hr=>.seq (h2 r hr) (h4 r hr),h5⟩
  |exit id=>exact⟨_,ts1,h1,λr hr=>.seq_jump (h2 r hr) (by simp),h3⟩
  |ret=>exact⟨_,ts1,h1,λr hr=>.seq_jump (h2 r hr) (by simp),h3⟩
 |.cond c a b,ts,h,Q,H=>by
  unfold W at H;split at H
  case h_2=>exact H.elim
  rename_i t hv;cases t with
  |true=>
   obtain⟨e,ts',h',h4,h5⟩:=W.sound hmix (c:=a) (H.1 rfl);exact⟨e,ts',h',λr hr=>.cond hv (h4 r hr),h5⟩
  |false=>
   obtain⟨e,ts',h',h4,h5⟩:=W.sound hmix (c:=b) (H.2 rfl);exact⟨e,ts',h',λr hr=>.cond hv (h4 r hr),h5⟩
 |.block id a,ts,h,Q,H=>by
  obtain⟨e,ts',h',h4,h5⟩:=W.sound hmix (c:=a) H;exact⟨_,ts',h',λr hr=>.block (h4 r hr),h5⟩
 |.loop a,ts,h,Q,H=>by
  obtain⟨e,ts',h',h4,h5⟩:=H;exact⟨e,ts',h',λr hr=>.loop (h4 r hr),h5⟩
 |.exit id,ts,h,Q,H=>⟨_,ts,h,λ_ _=>.exit,H⟩
 |.ret,ts,h,Q,H=>⟨_,ts,h,λ_ _=>.ret,H⟩
 |.rangeF g ps asg body,ts,h,Q,H=>H
 |.bad,ts,h,Q,H=>H.elim
def CallQ.mono{P q fv args h K K'}(H:CallQ P q fv args h K)(hk:∀v h',K v h'->K' v h'):CallQ P q fv args h K':=by
 obtain⟨v,h',h1,h2,h3⟩:=H;exact⟨v,h',h1,h2,hk v h' h3⟩
theorem WK.mono{P q k ρ h K K'}(H:WK P q k ρ h K)(hk:∀v h',K v h'->K' v h'):WK P q k ρ h K':=by
 by_cases hc:∃f args,k=.call f args
 ·obtain⟨f,args,rfl⟩:=hc;exact CallQ.mono H hk
 ·have H':(match stepT k ρ (λb=>h[b]?) h.length with
   |some (v,e)=>(q=true->e.quiet=true)/\K v (e.app h)
   |none=>False):=by
   cases k<;>first|exact H|exact absurd ⟨_,_,rfl⟩ hc
  have G':(match stepT k ρ (λb=>h[b]?) h.length with
   |some (v,e)=>(q=true->e.quiet=true)/\K' v (e.app h)
   |none=>False):=by
   split at H'
   case h_2=>exact H'.elim
   exact⟨H'.1,hk _ _ H'.2⟩
  cases k<;>first|exact G'|exact absurd ⟨_,_,rfl⟩ hc
theorem WS.mono{P o ts h K K'}(H:WS P o ts h K)(hk:∀v h',K v h'->K' v h'):WS P o ts h K':=by
 unfold WS at H ⊢;cases hg:o.gd with
 |none=>rw[hg]at H;exact inK.mono (λz=>WK.mono z hk) H
 |some p=>
  obtain⟨t,b⟩:=p;rw[hg]at H;simp only at H ⊢;cases hv:val ts (.t t)with
  |bool c=>
   rw[hv]at H;simp only at H ⊢;by_cases hcb:c=b
   ·rw[if_pos hcb]at H ⊢;exact inK.mono (λz=>WK.mono z hk) H
   ·rw[if_neg hcb]at H ⊢;exact hk _ _ H
  |_=>rw[hv]at H;exact hk _ _ H
theorem WO.mono{P}:∀{l}{ts}{h}{Q Q'},WO P l ts h Q->(∀ts' h',Q ts' h'->Q' ts' h')->WO P l ts h Q'
 |[],ts,h,Q,Q',H,hq=>hq _ _ H
 |o::r,ts,h,Q,Q',H,hq=>WS.mono (o:=o) H λv h1 h2=>WO.mono (l:=r) h2 hq
theorem WM.mono{P S}:∀{l}{ts}{h}{K K'},WM P S l ts h K->(∀ts' h',K ts' h'->K' ts' h')->WM P S l ts h K'
 |[],ts,h,K,K',H,hk=>⟨H.1,hk _ _ H.2⟩
 |o::r,ts,h,K,K',H,hk=>by
  obtain⟨h0,H⟩:=H;refine⟨h0,?_⟩;rcases H with⟨ha,H⟩|⟨ha,H⟩
  ·exact .inl ⟨ha,WO.mono (l:=o::r) H hk⟩
  refine .inr ⟨ha,?_⟩;rcases H with⟨hl,v,h1,h2⟩|⟨hl,H⟩
  ·exact .inl ⟨hl,v,h1,WM.mono (l:=r) h2 hk⟩
  ·exact .inr ⟨hl,WS.mono (o:=o) H λv h1 h2=>WM.mono (l:=r) h2 hk⟩
theorem W.mono{P ro}:∀{c}{ts}{h}{Q Q'},W P ro c ts h Q->(∀e ts' h',Q e ts' h'->Q' e ts' h')->W P ro c ts h Q'
 |.skip,ts,h,Q,Q',H,hq=>hq _ _ _ H
 |.ops l,ts,h,Q,Q',H,hq=>WO.mono (l:=l) H (hq .normal)
 |.opsS l,ts,h,Q,Q',H,hq=>WOS.mono (l:=l) H λts' cs h1=>⟨h1.1,hq _ _ _ h1.2⟩
 |.opsM l,ts,h,Q,Q',H,hq=>by obtain⟨S,H⟩:=H;exact⟨S,WM.mono (l:=l) H (hq .normal)⟩
 |.seq a b,ts,h,Q,Q',H,hq=>W.mono (c:=a) H λe ts1 h1 h2=>by
  cases e with
  |normal=>exact W.mono (c:=b) h2 hq
  |exit id=>exact hq _ _ _ h2
  |ret=>exact hq _ _ _ h2
 |.cond c a b,ts,h,Q,Q',H,hq=>by
  unfold W at H ⊢;split at H
  case h_2=>exact H.elim
  exact⟨λh=>W.mono (c:=a) (H.1 h) hq,λh=>W.mono (c:=b) (H.2 h) hq⟩
 |.block id a,ts,h,Q,Q',H,hq=>W.mono (c:=a) H λe ts1 h1 h2=>hq _ _ _ h2
 |.loop a,ts,h,Q,Q',H,hq=>by obtain⟨e,ts',h',h4,h5⟩:=H;exact⟨e,ts',h',h4,hq _ _ _ h5⟩
 |.exit id,ts,h,Q,Q',H,hq=>hq _ _ _ H
 |.ret,ts,h,Q,Q',H,hq=>hq _ _ _ H
 |.rangeF g ps asg body,ts,h,Q,Q',H,hq=>by obtain⟨e,ts',h',h4,h5⟩:=H;exact⟨e,ts',h',h4,hq _ _ _ h5⟩
 |.bad,ts,h,Q,Q',H,hq=>H.elim
inductive Kt where
 |seqK (b:ICode)
 |blockK (id:Nat)
def kq(P:Program)(ro:Option Nat->Prop):List Kt->(Ex->TS->AHeap->Prop)->Ex->TS->AHeap->Prop
 |[],Q,e,ts,h=>Q e ts h
 |.seqK b::ks,Q,e,ts,h=>
  match e with
  |.normal=>W P ro b ts h (kq P ro ks Q)
  |.exit id=>kq P ro ks Q (.exit id) ts h
  |.ret=>kq P ro ks Q .ret ts h
 |.blockK id::ks,Q,e,ts,h=>kq P ro ks Q (e.inBlock id) ts h
section
variable (P:Program) (ro:Option Nat->Prop)
def WC(c:ICode)(ks:List Kt)(ts:TS)(h:AHeap)(Q:Ex->TS->AHeap->Prop):Prop:=W P ro c ts h (kq P ro ks Q)
def WE(e:Ex)(ks:List Kt)(ts:TS)(h:AHeap)(Q:Ex->TS->AHeap->Prop):Prop:=kq P ro ks Q e ts h
def WP(l:List IOp)(ks:List Kt)(ts:TS)(h:AHeap)(Q:Ex->TS->AHeap->Prop):Prop:=WO P l ts h (kq P ro ks Q .normal)
def WG(g:AV)(b:Bool)(q:Bool)(k:OpK)(dst:Option Nat)(l:List IOp)(ks:List Kt)(ts:TS)(h:AHeap)(Q:Ex->TS->AHeap->Prop):Prop:=
 match g with
 |.bool c=>if c=b then inK dst k ts.length (WK P q k (val ts) h (λv h1=>WP P ro l ks (put ts dst v) h1 Q))else WP P ro l ks (put ts dst undefA) h Q
 |_=>WP P ro l ks (put ts dst undefA) h Q
def WR(r:Option (AV×Eff))(q:Bool)(dst:Option Nat)(l:List IOp)(ks:List Kt)(ts:TS)(h:AHeap)(Q:Ex->TS->AHeap->Prop):Prop:=
 match r with
 |some (v,e)=>(q=true->e.quiet=true)/\WP P ro l ks (put ts dst v) (e.app h) Q
 |none=>False
def WF(q:Bool)(fv:AV)(args:List AV)(dst:Option Nat)(l:List IOp)(ks:List Kt)(ts:TS)(h:AHeap)(Q:Ex->TS->AHeap->Prop):Prop:=
 CallQ P q fv args h (λv h1=>WP P ro l ks (put ts dst v) h1 Q)
def WB(v:AV)(a b:ICode)(ks:List Kt)(ts:TS)(h:AHeap)(Q:Ex->TS->AHeap->Prop):Prop:=
 match v with
 |.bool t=>(t=true->WC P ro a ks ts h Q)/\(t=false->WC P ro b ks ts h Q)
 |_=>False
def WL(a:ICode)(ks:List Kt)(ts:TS)(h:AHeap)(Q:Ex->TS->AHeap->Prop):Prop:=WC P ro (.loop a) ks ts h Q
def WRg(g:AV)(ps:List Nat)(asg body:ICode)(ks:List Kt)(ts:TS)(h:AHeap)(Q:Ex->TS->AHeap->Prop):Prop:=
 ∃e ts' h',(∀r,ro r->∀g',val ts g' =g->Ev P r (.rangeF g' ps asg body) ts h e ts' h')/\WE P ro e ks ts' h' Q
end
def LQ(I:Nat->TS->AHeap->Prop)(n:Nat)(R:Ex->TS->AHeap->Prop):Ex->TS->AHeap->Prop
 |.normal,ts,h=>∃m,m<n/\I m ts h
 |.exit id,ts,h=>R (.exit id) ts h
 |.ret,ts,h=>R .ret ts h
def FQ(rs:List (Nat×Option (Option Nat)))(R:AV->AHeap->Prop):Ex->TS->AHeap->Prop:=λe ts h=>e.leaves=true/\∃v,resAll rs ts h=some v/\R v h
def FRes(r:Option AV)(h:AHeap)(R:AV->AHeap->Prop):Prop:=
 match r with
 |some v=>R v h
 |none=>False
section
variable {P:Program}{ro:Option Nat->Prop}{ks:List Kt}{ts:TS}{h:AHeap}{Q:Ex->TS->AHeap->Prop}
def WC_skip:WC P ro .skip ks ts h Q=WE P ro .normal ks ts h Q:=rfl
def WC_ops{l}:WC P ro (.ops l) ks ts h Q=WP P ro l ks ts h Q:=rfl
def WC_seq{a b}:WC P ro (.seq a b) ks ts h Q=WC P ro a (.seqK b::ks) ts h Q:=by
 unfold WC;simp only[W];congr 1
def WC_cond{c a b}:WC P ro (.cond c a b) ks ts h Q=WB P ro (val ts c) a b ks ts h Q:=rfl
def WC_block{id a}:WC P ro (.block id a) ks ts h Q=WC P ro a (.blockK id::ks) ts h Q:=rfl
def WC_loop{a}:WC P ro (.loop a) ks ts h Q=WL P ro a ks ts h Q:=rfl
def WC_exit{id}:WC P ro (.exit id) ks ts h Q=WE P ro (.exit id) ks ts h Q:=rfl
def WC_ret:WC P ro .ret ks ts h Q=WE P ro .ret ks ts h Q:=rfl
def WE_seqN{b}:WE P ro .normal (.seqK b::ks) ts h Q=WC P ro b ks ts h Q:=rfl
def WE_seqX{b id}:WE P ro (.exit id) (.seqK b::ks) ts h Q=WE P ro (.exit id) ks ts h Q:=rfl
def WE_seqR{b}:WE P ro .ret (.seqK b::ks) ts h Q=WE P ro .ret ks ts h Q:=rfl
def WE_blockN{id}:WE P ro .normal (.blockK id::ks) ts h Q=WE P ro .normal ks ts h Q:=rfl
def WE_blockX{id id'}:WE P ro (.exit id') (.blockK id::ks) ts h Q=if id' =id then WE P ro .normal ks ts h Q else WE P ro (.exit id') ks ts h Q:=by
 unfold WE;simp only[kq,Ex.inBlock];split<;>rfl
def WE_blockR{id}:WE P ro .ret (.blockK id::ks) ts h Q=WE P ro .ret ks ts h Q:=rfl
def WE_nil{e}:WE P ro e [] ts h Q=Q e ts h:=rfl
def WP_nil:WP P ro [] ks ts h Q=WE P ro .normal ks ts h Q:=rfl
def WP_op{d k q l}(hk:∀f args,k≠.call f args)(hb:∀n x,k≠.boxn n x):WP P ro ({dst:=d,k:=k,gd:=none,q:=q} ::l) ks ts h Q=WR P ro (stepT k (val ts) (λb=>h[b]?) h.length) q d l ks ts h Q:=by
 cases k<;>first|exact absurd rfl (hk _ _)|exact absurd rfl (hb _ _)|rfl
def WP_call{d f args q l}:WP P ro ({dst:=d,k:=.call f args,gd:=none,q:=q} ::l) ks ts h Q=WF P ro q (val ts f) (args.map (val ts)) d l ks ts h Q:=rfl
def WP_gd{d k t b q l}:WP P ro ({dst:=d,k:=k,gd:=some (t,b),q:=q} ::l) ks ts h Q=WG P ro (val ts (.t t)) b q k d l ks ts h Q:=rfl
def WG_no{d k b q l}(c:Bool)(hc:c≠b):WG P ro (.bool c) b q k d l ks ts h Q=WP P ro l ks (put ts d undefA) h Q:=by
 simp only[WG,if_neg hc]
def WG_yes{d k b q l}:WG P ro (.bool b) b q k d l ks ts h Q=WP P ro ({dst:=d,k:=k,gd:=none,q:=q} ::l) ks ts h Q:=by
 simp only[WG,if_pos];rfl
def WR_keep{v q d l}:WR P ro (some (v,.keep)) q d l ks ts h Q=WP P ro l ks (put ts d v) h Q:=by
 simp only[WR,Eff.quiet,Eff.app,implies_true,true_and]
def WR_push{v k q d l}:WR P ro (some (v,.push k)) q d l ks ts h Q=WP P ro l ks (put ts d v) (h++[k]) Q:=by
 simp only[WR,Eff.quiet,Eff.app,implies_true,true_and]
def WR_set{v b k d l}:WR P ro (some (v,.set b k)) false d l ks ts h Q=WP P ro l ks (put ts d v) (h.set b k) Q:=by
 simp only[WR,Eff.app,Bool.false_eq_true,false_implies,true_and]
def WR_setPush{v b k k' d l}:WR P ro (some (v,.setPush b k k')) false d l ks ts h Q=WP P ro l ks (put ts d v) (h.set b k++[k']) Q:=by
 simp only[WR,Eff.app,Bool.false_eq_true,false_implies,true_and]
def WB_true{a b}:WB P ro (.bool true) a b ks ts h Q=WC P ro a ks ts h Q:=by simp[WB]
def WB_false{a b}:WB P ro (.bool false) a b ks ts h Q=WC P ro b ks ts h Q:=by simp[WB]
def LQ_N{I n R}:LQ I n R .normal ts h=∃m,m<n/\I m ts h:=rfl
def LQ_X{I n R id}:LQ I n R (.exit id) ts h=R (.exit id) ts h:=rfl
def LQ_R{I n R}:LQ I n R .ret ts h=R .ret ts h:=rfl
def FQ_N{rs R}:FQ rs R .normal ts h=FRes (resAll rs ts h) h R:=by
 simp only[FQ,FRes,Ex.leaves,true_and];cases resAll rs ts h<;>simp
def FQ_R{rs R}:FQ rs R .ret ts h=FRes (resAll rs ts h) h R:=by
 simp only[FQ,FRes,Ex.leaves,true_and];cases resAll rs ts h<;>simp
def FR_some{v R}:FRes (some v) h R=R v h:=rfl
def WL.inv(hmix:P.follows .mixedOrders=true){a}(I:Nat->TS->AHeap->Prop)(n:Nat)(h0:I n ts h)
  (step:∀(n:Nat) (ts:TS) (h:AHeap),I n ts h->WC P ro a [] ts h (LQ I n (λe ts h=>WE P ro e ks ts h Q))):WL P ro a ks ts h Q:=by
 have key:∀(k n:Nat) (ts:TS) (h:AHeap),n<=k->I n ts h->∃e ts' h',(∀r,ro r->LoopR P r a ts h e ts' h')/\kq P ro ks Q e ts' h':=by
  intro k
  induction k with
  |zero=>
   intro n ts h hn hi;obtain⟨e,ts',h',h1,h2⟩:=W.sound hmix (step n ts h hi);cases e with
   |normal=>obtain⟨m,hm,_⟩:=h2;omega
   |exit id=>exact⟨_,ts',h',λr hr=>.out (h1 r hr) (by simp),h2⟩
   |ret=>exact⟨_,ts',h',λr hr=>.out (h1 r hr) (by simp),h2⟩
  |succ k ih=>
   intro n ts h hn hi;obtain⟨e,ts',h',h1,h2⟩:=W.sound hmix (step n ts h hi);cases e with
   |normal=>
    obtain⟨m,hm,hi'⟩:=h2;obtain⟨e2,ts2,h3,h4,h5⟩:=ih m ts' h' (by omega) hi';exact⟨e2,ts2,h3,λr hr=>.more (h1 r hr) (h4 r hr),h5⟩
   |exit id=>exact⟨_,ts',h',λr hr=>.out (h1 r hr) (by simp),h2⟩
   |ret=>exact⟨_,ts',h',λr hr=>.out (h1 r hr) (by simp),h2⟩
 exact key n n ts h (Nat.le_refl _) h0
def WC.cut{a}(R:Ex->TS->AHeap->Prop)(h1:WC P ro a [] ts h R)(h2:∀e ts h,R e ts h->WE P ro e ks ts h Q):WC P ro a ks ts h Q:=
 W.mono (c:=a) h1 h2
def RCall(P:Program)(f:FuncId)(args:List AV)(h:AHeap)(R:AV->AHeap->Prop):Prop:=∃v g,SCall P f args h v (h++g)/\R v (h++g)
def VCall(P:Program)(fv:AV)(args:List AV)(h:AHeap)(R:AV->AHeap->Prop):Prop:=∃v g,SCallV P fv args h v (h++g)/\R v (h++g)
def GCall(P:Program)(f:FuncId)(args:List AV)(h:AHeap)(R:AV->AHeap->Prop):Prop:=∃v h',SCall P f args h v h'/\R v h'
def GCall.of(hmix:P.follows .mixedOrders=true){f A}(hA:compileFn P f=some A){args R}
  (H:WC P inFn A.body [] (startTS A.nt args) h (FQ A.rs R)):GCall P f args h R:=by
 obtain⟨e,ts',h',h1,h2,v,h3,h4⟩:=W.sound hmix H;exact⟨v,h',.of_ev hA (h1 none rfl) h2 h3,h4⟩
theorem RCall.of(hmix:P.follows .mixedOrders=true){f A}(hA:compileFn P f=some A){args R}
  (H:WC P inFn A.body [] (startTS A.nt args) h (FQ A.rs (λv h'=>Ext h h'/\R v h'))):RCall P f args h R:=by
 obtain⟨v,h',h1,⟨g,rfl⟩,h3⟩:=GCall.of hmix hA H;exact⟨v,g,h1,h3⟩
def RCall.mono{f args R R'}(H:RCall P f args h R)(hr:∀v g,R v (h++g)->R' v (h++g)):RCall P f args h R':=by
 obtain⟨v,g,h1,h2⟩:=H;exact⟨v,g,h1,hr v g h2⟩
def VCall.of{f A}(hA:compileFn P f=some A){a c args R}(H:RCall P f (a++args++c) h R):VCall P (.func (.func f) a c) args h R:=by
 obtain⟨v,g,h1,h2⟩:=H;exact⟨v,g,.of_call hA h1,h2⟩
def VCall.meth{u:TypeId}{name f A}(hm:methF P u name=some f)(hA:compileFn P f=some A){a args R}(H:RCall P f (a::args) h R):VCall P (.func (.method name) [] []) (.ifc u a::args) h R:=by
 obtain⟨v,g,h1,h2⟩:=H;exact⟨v,g,.of_meth hm hA h1,h2⟩
def WF.val{q fv args d l R}(H:VCall P fv args h R)(K:∀v g,R v (h++g)->WP P ro l ks (put ts d v) (h++g) Q):WF P ro q fv args d l ks ts h Q:=by
 obtain⟨v,g,h1,h2⟩:=H;exact⟨v,h++g,h1,λ_=>⟨g,rfl⟩,K v g h2⟩
def WF.res{q f A}(hA:compileFn P f=some A){a c args d l R}(H:RCall P f (a++args++c) h R)(K:∀v g,R v (h++g)->WP P ro l ks (put ts d v) (h++g) Q):WF P ro q (.func (.func f) a c) args d l ks ts h Q:=
 WF.val (VCall.of hA H) K
def WF.gen{f A}(hA:compileFn P f=some A){a c args d l R}(H:GCall P f (a++args++c) h R)(K:∀v h',R v h'->WP P ro l ks (put ts d v) h' Q):WF P ro false (.func (.func f) a c) args d l ks ts h Q:=by
 obtain⟨v,h',h1,h2⟩:=H;exact⟨v,h',.of_call hA h1,(λhq=>absurd hq (by simp)),K v h' h2⟩
end
end Go.Abs
namespace Go.Abs
inductive IsSl (h:AHeap):AV->Nat->List (List AV)->Prop
 |nil {es:Nat}:IsSl h .nilSlice es []
 |mk {b o es:Nat}{cs:List (List AV)}{c:List AV}{mu tl:Bool}(hb:h[b]? =some (.cells c mu tl)) (hf:(c.drop o).take (cs.length*es)=cs.flatten) (ho:o+cs.length*es<=c.length)
   (he:∀x∈cs,x.length=es):IsSl h (.slice b o cs.length es) es cs
inductive Fr (N:Nat) (h:AHeap):AV->Nat->List (List AV)->Prop
 |nil {es:Nat}:Fr N h .nilSlice es []
 |mk {b es:Nat}{cs:List (List AV)}{tl:Bool}(hN:N<=b) (hb:h[b]? =some (.cells cs.flatten true tl)) (he:∀x∈cs,x.length=es):Fr N h (.slice b 0 cs.length es) es cs
def AV.sb:AV->Nat
 |.slice b _ _ _=>b
 |_=>0
def AV.so:AV->Nat
 |.slice _ o _ _=>o
 |_=>0
theorem flatten_len{es:Nat}:∀{cs:List (List AV)},(∀x∈cs,x.length=es)->cs.flatten.length=cs.length*es
 |[],_=>by simp
 |x::xs,he=>by
  have h1:=he x (by simp);have h2:=flatten_len (cs:=xs) (λy hy=>he y (List.mem_cons_of_mem _ hy));simp only[List.flatten_cons,List.length_append,List.length_cons,h1,h2,Nat.succ_mul];omega
theorem flatten_row{es:Nat}:∀{cs:List (List AV)},(∀x∈cs,x.length=es)->∀{i:Nat}(hi:i<cs.length),(cs.flatten.drop (i*es)).take es=cs[i]
 |[],_,i,hi=>by simp at hi
 |x::xs,he,0,_=>by
  have h1:=he x (by simp);simp[<-h1]
 |x::xs,he,i+1,hi=>by
  have h1:=he x (by simp);have h2:=flatten_row (cs:=xs) (λy hy=>he y (List.mem_cons_of_mem _ hy)) (i:=i) (by simpa using hi);simp only[List.flatten_cons,List.getElem_cons_succ,<-h2];congr 1;rw[Nat.succ_mul,Nat.add_comm,<-h1,List.drop_append];simp
def Fr.isSl{N:Nat}{h:AHeap}{s:AV}{es:Nat}{cs:List (List AV)}(hs:Fr N h s es cs):IsSl h s es cs:=by
 cases hs with
 |nil=>exact .nil
 |mk hN hb he=>
  have hl:=flatten_len he;exact .mk hb (by rw[List.drop_zero,<-hl,List.take_length]) (by omega) he
section
variable {h k:AHeap}{s:AV}{es:Nat}{cs:List (List AV)}
def IsSl.keep(hs:IsSl h s es cs)(hk:∀b,b<h.length->(∀b0 o n e,s=.slice b0 o n e->b=b0)->k[b]? =h[b]?):IsSl k s es cs:=by
 cases hs with
 |nil=>exact .nil
 |mk hb hf ho he=>
  refine .mk ((hk _ (List.getElem?_eq_some_iff.1 hb).1 λb0 o n e hx=>?_).trans hb) hf ho he;cases hx;rfl
def IsSl.ext(hs:IsSl h s es cs)(e:Ext h k):IsSl k s es cs:=hs.keep λ_ hb _=>e.get hb
def IsSl.app(hs:IsSl h s es cs)(g:AHeap):IsSl (h++g) s es cs:=hs.ext ⟨g,rfl⟩
def Fr.keep{N}(hs:Fr N h s es cs)(hk:∀b,b<h.length->(∀b0 o n e,s=.slice b0 o n e->b=b0)->k[b]? =h[b]?):Fr N k s es cs:=by
 cases hs with
 |nil=>exact .nil
 |mk hN hb he=>
  refine .mk hN ((hk _ (List.getElem?_eq_some_iff.1 hb).1 λb0 o n e hx=>?_).trans hb) he;cases hx;rfl
def Fr.ext{N}(hs:Fr N h s es cs)(e:Ext h k):Fr N k s es cs:=hs.keep λ_ hb _=>e.get hb
def Fr.app{N}(hs:Fr N h s es cs)(g:AHeap):Fr N (h++g) s es cs:=hs.ext ⟨g,rfl⟩
def Fr.low{N M}(hs:Fr N h s es cs)(hM:M<=N):Fr M h s es cs:=by
 cases hs with
 |nil=>exact .nil
 |mk hN hb he=>exact .mk (by omega) hb he
def IsSl.rows(hs:IsSl h s es cs):∀x∈cs,x.length=es:=by
 cases hs with
 |nil=>simp
 |mk hb hf ho he=>exact he
theorem IsSl.lenG(hs:IsSl h s es cs)(G:Nat->Option ABlk):lenG .sl G s=some cs.length:=by
 cases hs<;>rfl
theorem IsSl.one(hs:IsSl h s es cs):s.one=true:=by
 cases hs<;>rfl
theorem IsSl.cells(hs:IsSl h s es cs):s.cells=[s]:=by
 cases hs<;>rfl
theorem IsSl.cellsG(hs:IsSl h s es cs):cellsG es (λb=>h[b]?) s=some (cs.flatten,cs.length):=by
 cases hs with
 |nil=>rfl
 |mk hb hf ho he=>simp only[Go.Abs.cellsG,if_true,hb];rw[if_pos ho,hf]
def iadrF(es:Nat)(x i:AV):Option (AV×Eff):=
 match x,i with
 |.slice b o n es',.int _ i=>if es' =es/\0<=i/\i<n then some (.ptr b (o+i.toNat*es),.keep)else none
 |_,_=>none
def loadF(n:Option Nat)(a:AV)(G:Nat->Option ABlk):Option (AV×Eff):=
 match a with
 |.ptr b o=>
  match G b with
  |some (.cells c _ _)=>
   match n with
   |none=>
    match c[o]? with
    |some x=>some (x,.keep)
    |none=>none
   |some n=>if o+n<=c.length then some (.agg ((c.drop o).take n),.keep)else none
  |_=>none
 |_=>none
def slF(es:Nat)(x:AV)(lo hi:Option AV):Option (AV×Eff):=
 match x with
 |.slice b o n es'=>
  if es' =es then
   match bnds lo hi n with
   |some (l,h')=>some (.slice b (o+l*es) (h'-l) es,.keep)
   |none=>none
  else none
 |.nilSlice=>
  match bnds lo hi 0 with
  |some _=>some (.nilSlice,.keep)
  |none=>none
 |_=>none
def IsSl.iadr(hs:IsSl h s es cs){i:Int}{k:IntKind}(h0:0<=i)(h1:i<cs.length):iadrF es s (.int k i)=some (.ptr s.sb (s.so+i.toNat*es),.keep):=by
 cases hs with
 |nil=>simp at h1;omega
 |mk hb hf ho he=>show(if es=es/\0<=i/\i<cs.length then _ else none)=_;rw[if_pos ⟨rfl,h0,h1⟩];rfl
def IsSl.load(hs:IsSl h s es cs){i:Nat}(hi:i<cs.length):loadF (some es) (.ptr s.sb (s.so+i*es)) (λb=>h[b]?)=some (.agg cs[i],.keep):=by
 cases hs with
 |nil=>simp at hi
 | @mk b o es cs c mu tl hb hf ho he=>
  have hle:i*es+es<=cs.length*es:=by rw[<-Nat.succ_mul];exact Nat.mul_le_mul_right _ hi
  have h1:=flatten_row he hi;show loadF (some es) (.ptr b (o+i*es)) (λb=>h[b]?)=_;simp only[loadF,hb];rw[if_pos (by omega),<-h1,<-hf,List.drop_take,List.take_take,List.drop_drop,Nat.min_eq_left (by omega)]
def IsSl.loadf(hs:IsSl h s es cs){i off:Nat}(hi:i<cs.length){x:AV}(hx:cs[i][off]? =some x):loadF none (.ptr s.sb (s.so+i*es+off)) (λb=>h[b]?)=some (x,.keep):=by
 cases hs with
 |nil=>simp at hi
 | @mk b o es cs c mu tl hb hf ho he=>
  have hle:i*es+es<=cs.length*es:=by rw[<-Nat.succ_mul];exact Nat.mul_le_mul_right _ hi
  have h1:=flatten_row he hi;have h2:=he _ (List.getElem_mem hi);have h3:=(List.getElem?_eq_some_iff.1 hx).1;rw[<-h1,<-hf,List.drop_take,List.take_take,List.drop_drop,Nat.min_eq_left (by omega),List.getElem?_take]at hx;rw[if_pos (by omega),List.getElem?_drop]at hx;show loadF none (.ptr b (o+i*es+off)) (λb=>h[b]?)=_;simp only[loadF,hb,hx]
def IsSl.load1(hs:IsSl h s 1 cs){i}(hi:i<cs.length){x}(hx:cs[i]=[x]):loadF none (.ptr s.sb (s.so+i*1)) (λb=>h[b]?)=some (x,.keep):=
 hs.loadf (off:=0) hi (by rw[hx];rfl)
def IsSl.sl(hs:IsSl h s es cs){lo hi l u}(hb:bnds lo hi cs.length=some (l,u)):∃s',slF es s lo hi=some (s',.keep)/\IsSl h s' es ((cs.drop l).take (u-l)):=by
 have hlu:l<=u/\u<=cs.length:=by
  unfold bnds at hb;split at hb
  case h_2=>cases hb
  split at hb
  case isFalse=>cases hb
  cases hb;omega
 cases hs with
 |nil=>
  simp only[List.length_nil]at hb;exact⟨.nilSlice,by simp only[slF,hb],by simp;exact .nil⟩
 | @mk b o es cs c mu tl hbk hf ho he=>
  have hlen:((cs.drop l).take (u-l)).length=u-l:=by simp;omega
  refine⟨.slice b (o+l*es) (u-l) es,by simp only[slF,if_true,hb],?_⟩;have hul:(u-l)*es+l*es=u*es:=by rw[<-Nat.add_mul];congr 1;omega
  have hu:u*es<=cs.length*es:=Nat.mul_le_mul_right _ hlu.2;have:IsSl h (.slice b (o+l*es) ((cs.drop l).take (u-l)).length es) es ((cs.drop l).take (u-l)):=by
   refine .mk hbk ?_ (by rw[hlen];omega) λx hx=>he x (List.mem_of_mem_drop (List.mem_of_mem_take hx))
   rw[hlen];have hsplit:∀(cs:List (List AV)) (l n:Nat),(∀x∈cs,x.length=es)->l+n<=cs.length->((cs.drop l).take n).flatten=(cs.flatten.drop (l*es)).take (n*es):=by
    intro cs
    induction cs with
    |nil=>intro l n _ _;simp
    |cons x xs ih=>
     intro l n hx hln;have h1:=hx x (by simp);have h2:∀y∈xs,y.length=es:=λy hy=>hx y (List.mem_cons_of_mem _ hy)
     cases l with
     |succ l=>
      rw[List.drop_succ_cons,ih l n h2 (by simp at hln;omega),List.flatten_cons,show(l+1)*es=x.length+l*es from by rw[h1,Nat.succ_mul,Nat.add_comm],<-List.drop_drop,List.drop_left]
     |zero=>
      cases n with
      |zero=>simp
      |succ n=>
       have:=ih 0 n h2 (by simp at hln;omega);simp only[List.drop_zero,Nat.zero_mul]at this ⊢;rw[List.take_succ_cons,List.flatten_cons,this,List.flatten_cons,List.take_append,Nat.succ_mul,List.take_of_length_le (l:=x) (by omega),h1];simp
   rw[hsplit cs l (u-l) he (by omega),<-hf,List.drop_take,List.take_take,List.drop_drop,Nat.min_eq_left (by rw[Nat.sub_mul]at hul ⊢;omega)]
  rw[hlen]at this;exact this
def Fr.push{N}(hN:N<=h.length)(cs:List (List AV))(he:∀x∈cs,x.length=es):Fr N (h++[.cells cs.flatten true true]) (.slice h.length 0 cs.length es) es cs:=
 .mk (tl:=true) hN (by simp) he
end
end Go.Abs
namespace Go.Abs
section
variable (P:Program) (ro:Option Nat->Prop)
def WV(r:Option AV)(dst:Option Nat)(l:List IOp)(ks:List Kt)(ts:TS)(h:AHeap)(Q:Ex->TS->AHeap->Prop):Prop:=
 match r with
 |some v=>WP P ro l ks (put ts dst v) h Q
 |none=>False
end
def pickF(c a b:AV):Option AV:=
 match c with
 |.bool t=>some (if t then a else b)
 |_=>none
def boxnF(n:Nat)(x:AV)(N0:Nat):Option (AV×Eff):=if x.cells.all AV.one=true/\x.cells.length=n then some (.ptr N0 0,.push (.cells x.cells true false))else none
def boxF(x:AV)(N0:Nat):Option (AV×Eff):=if x.cells.all AV.one then some (.ptr N0 0,.push (.cells x.cells true false))else none
def storeF(n:Nat)(a x:AV)(G:Nat->Option ABlk):Option (AV×Eff):=
 match a with
 |.ptr b o=>
  match G b with
  |some (.cells c true tl)=>
   if x.cells.length=n/\x.cells.all AV.one=true/\o+n<=c.length then some (undefA,.set b (.cells (setL c o x.cells) true tl))else none
  |_=>none
 |_=>none
def nilF(x:AV):Option AV:=
 match x with
 |.ptr b o=>some (.ptr b o)
 |.func (.func f) a c=>some (.func (.func f) a c)
 |.func (.yield f) a c=>some (.func (.yield f) a c)
 |.func (.methodOf t n) a c=>some (.func (.methodOf t n) a c)
 |.func (.via t p f q) a c=>some (.func (.via t p f q) a c)
 |_=>none
def mkslF(es w:Nat)(z:List AV)(l c:AV)(N0:Nat):Option (AV×Eff):=
 match l,c with
 |.int _ l,.int _ c=>
  if 0<=l/\l<=c/\(w:Int)*c<=2^48/\c<2^63 then some (.slice N0 0 l.toNat es,.push (.cells (zrep l.toNat z) true true))else none
 |_,_=>none
def slsF(x:AV)(lo hi:Option AV):Option AV:=
 match x with
 |.str s=>
  match bnds lo hi s.length with
  |some (l,h')=>some (.str ((s.drop l).take (h'-l)))
  |none=>none
 |_=>none
def fadrF(off:Nat)(x:AV):Option AV:=
 match x with
 |.ptr b o=>some (.ptr b (o+off))
 |_=>none
def iadaF(len es:Nat)(x i:AV):Option AV:=
 match x,i with
 |.ptr b o,.int _ i=>if 0<=i/\i<len then some (.ptr b (o+i.toNat*es))else none
 |_,_=>none
def partF(n:Option Nat)(off:Nat)(x:AV):Option AV:=
 match x with
 |.agg cs=>
  match n with
  |none=>cs[off]?
  |some n=>some (.agg ((cs.drop off).take n))
 |_=>none
def ixaF(len es:Nat)(n:Option Nat)(x i:AV):Option AV:=
 match x,i with
 |.agg cs,.int _ i=>
  if 0<=i/\i<len then
   match n with
   |none=>cs[i.toNat*es]?
   |some n=>some (.agg ((cs.drop (i.toNat*es)).take n))
  else none
 |_,_=>none
def ixsF(x i:AV):Option AV:=
 match x,i with
 |.str s,.int _ i=>
  if 0<=i then
   match s[i.toNat]? with
   |some b=>some (.int .u8 b.toNat)
   |none=>none
  else none
 |_,_=>none
def extF(x:AV)(i:Nat):Option AV:=
 match x with
 |.tup l=>l[i]?
 |_=>none
def lenF(o:Option Nat):Option AV:=
 match o with
 |some n=>some (.int .i64 n)
 |none=>none
def eqvF(neg:Bool)(o:Option Bool):Option AV:=
 match o with
 |some b=>some (.bool (if neg then !b else b))
 |none=>none
def buildF(o:Option (List AV)):Option AV:=
 match o with
 |some c=>some (.agg c)
 |none=>none
def bslF(es n:Nat)(o:Option (List AV))(N0:Nat):Option (AV×Eff):=
 match o with
 |some c=>if c.all AV.one=true/\c.length=n*es then some (.slice N0 0 n es,.push (.cells c true (!Nat.beq n 0)))else none
 |none=>none
section
variable {P:Program}{ro:Option Nat->Prop}{ks:List Kt}{ts:TS}{h:AHeap}{Q:Ex->TS->AHeap->Prop}{d:Option Nat}{q:Bool}{l:List IOp}
def WR_of{r r'}(hr:r=r'.map λv=>(v,.keep)):WR P ro r q d l ks ts h Q=WV P ro r' d l ks ts h Q:=by
 subst hr;cases r' with
 |none=>rfl
 |some v=>exact WR_keep
def WV_some{v}:WV P ro (some v) d l ks ts h Q=WP P ro l ks (put ts d v) h Q:=rfl
def WP_mov{x}:WP P ro ({dst:=d,k:=.mov x,gd:=none,q:=q} ::l) ks ts h Q=WP P ro l ks (put ts d (val ts x)) h Q:=WR_keep
def WP_pick{c a b}:WP P ro ({dst:=d,k:=.pick c a b,gd:=none,q:=q} ::l) ks ts h Q=WV P ro (pickF (val ts c) (val ts a) (val ts b)) d l ks ts h Q:=by
 rw[WP_op (by simp) (by simp)];refine WR_of ?_;simp only[stepT,fnT,pickF];cases val ts c<;>rfl
def WP_box{x}:WP P ro ({dst:=d,k:=.box x,gd:=none,q:=q} ::l) ks ts h Q=WR P ro (boxF (val ts x) h.length) q d l ks ts h Q:=rfl
def WP_boxn{n i x}:WP P ro ({dst:=some i,k:=.boxn n x,gd:=none,q:=q} ::l) ks ts h Q=(i<ts.length/\WR P ro (boxnF n (val ts x) h.length) q (some i) l ks ts h Q):=rfl
def WP_build{z ps}:WP P ro ({dst:=d,k:=.build z ps,gd:=none,q:=q} ::l) ks ts h Q=WV P ro (buildF (fillA z (ps.map λp=>(p.1,p.2.1,val ts p.2.2)))) d l ks ts h Q:=by
 rw[WP_op (by simp) (by simp)];refine WR_of ?_;simp only[stepT,fnT,buildF];cases fillA z (ps.map λp=>(p.1,p.2.1,val ts p.2.2))<;>rfl
def WP_bslice{es n z ps}:WP P ro ({dst:=d,k:=.bslice es n z ps,gd:=none,q:=q} ::l) ks ts h Q=WR P ro (bslF es n (fillA (zrep n z) (ps.map λp=>(p.1,es,val ts p.2))) h.length) q d l ks ts h Q:=rfl
def WP_load{n a}:WP P ro ({dst:=d,k:=.load n a,gd:=none,q:=q} ::l) ks ts h Q=WR P ro (loadF n (val ts a) (λb=>h[b]?)) q d l ks ts h Q:=rfl
def WP_store{n a x}:WP P ro ({dst:=d,k:=.store n a x,gd:=none,q:=q} ::l) ks ts h Q=WR P ro (storeF n (val ts a) (val ts x) (λb=>h[b]?)) q d l ks ts h Q:=rfl
def WP_nilchk{x}:WP P ro ({dst:=d,k:=.nilchk x,gd:=none,q:=q} ::l) ks ts h Q=WV P ro (nilF (val ts x)) d l ks ts h Q:=by
 rw[WP_op (by simp) (by simp)];refine WR_of ?_;simp only[stepT,fnT,nilF];cases val ts x with
 |func f a c=>cases f<;>rfl
 |_=>rfl
def WP_bin{op x y}:WP P ro ({dst:=d,k:=.bin op x y,gd:=none,q:=q} ::l) ks ts h Q=WV P ro (binK op (val ts x) (val ts y)) d l ks ts h Q:=by
 rw[WP_op (by simp) (by simp)];refine WR_of ?_;simp only[stepT,fnT];cases binK op (val ts x) (val ts y)<;>rfl
def WP_eqv{neg t x y}:WP P ro ({dst:=d,k:=.eqv neg t x y,gd:=none,q:=q} ::l) ks ts h Q=WV P ro (eqvF neg (eqvK t (val ts x) (val ts y))) d l ks ts h Q:=by
 rw[WP_op (by simp) (by simp)];refine WR_of ?_;simp only[stepT,fnT,eqvF];cases eqvK t (val ts x) (val ts y)<;>rfl
def eqpF(neg:Bool)(x y:AV)(G:Nat->Option ABlk):Option (AV×Eff):=
 match x,y with
 |.ptr b o,.ptr b' o'=>
  match G b,G b' with
  |some (.cells c true false),some (.cells c' true false)=>if o<c.length/\o'<c'.length then some (.bool (if neg then !decide (b=b'/\o=o')else decide (b=b'/\o=o')),.keep)else none
  |_,_=>none
 |_,_=>none
def WP_eqp{neg x y}:WP P ro ({dst:=d,k:=.eqp neg x y,gd:=none,q:=q} ::l) ks ts h Q=WR P ro (eqpF neg (val ts x) (val ts y) (λb=>h[b]?)) q d l ks ts h Q:=by
 rw[WP_op (by simp) (by simp)];rfl
def WP_un{op x}:WP P ro ({dst:=d,k:=.un op x,gd:=none,q:=q} ::l) ks ts h Q=WV P ro (unK op (val ts x)) d l ks ts h Q:=by
 rw[WP_op (by simp) (by simp)];refine WR_of ?_;simp only[stepT,fnT];cases unK op (val ts x)<;>rfl
def WP_conv{k x}:WP P ro ({dst:=d,k:=.conv k x,gd:=none,q:=q} ::l) ks ts h Q=WR P ro (convT k (val ts x) (λb=>h[b]?) h.length) q d l ks ts h Q:=rfl
def WP_mkfn{f a c}:WP P ro ({dst:=d,k:=.mkfn f a c,gd:=none,q:=q} ::l) ks ts h Q=WP P ro l ks (put ts d (.func f (a.map (val ts)) (c.map (val ts)))) h Q:=WR_keep
def WP_mkmap:WP P ro ({dst:=d,k:=.mkmap,gd:=none,q:=q} ::l) ks ts h Q=WP P ro l ks (put ts d (.map h.length)) (h++[.mapb []]) Q:=WR_push
def WP_mksl{es w z a c}:WP P ro ({dst:=d,k:=.mksl es w z a c,gd:=none,q:=q} ::l) ks ts h Q=WR P ro (mkslF es w z (val ts a) (val ts c) h.length) q d l ks ts h Q:=rfl
def WP_sl{es x lo hi}:WP P ro ({dst:=d,k:=.sl es x lo hi,gd:=none,q:=q} ::l) ks ts h Q=WR P ro (slF es (val ts x) (lo.map (val ts)) (hi.map (val ts))) q d l ks ts h Q:=rfl
def WP_sls{x lo hi}:WP P ro ({dst:=d,k:=.sls x lo hi,gd:=none,q:=q} ::l) ks ts h Q=WV P ro (slsF (val ts x) (lo.map (val ts)) (hi.map (val ts))) d l ks ts h Q:=by
 rw[WP_op (by simp) (by simp)];refine WR_of ?_;simp only[stepT,fnT,slsF];cases val ts x with
 |str s=>simp only;cases bnds (Option.map (val ts) lo) (Option.map (val ts) hi) s.length<;>rfl
 |_=>rfl
def WP_fadr{off x}:WP P ro ({dst:=d,k:=.fadr off x,gd:=none,q:=q} ::l) ks ts h Q=WV P ro (fadrF off (val ts x)) d l ks ts h Q:=by
 rw[WP_op (by simp) (by simp)];refine WR_of ?_;simp only[stepT,fnT,fadrF];cases val ts x<;>rfl
def WP_iadr{es x i}:WP P ro ({dst:=d,k:=.iadr es x i,gd:=none,q:=q} ::l) ks ts h Q=WR P ro (iadrF es (val ts x) (val ts i)) q d l ks ts h Q:=rfl
def WP_iada{len es x i}:WP P ro ({dst:=d,k:=.iada len es x i,gd:=none,q:=q} ::l) ks ts h Q=WV P ro (iadaF len es (val ts x) (val ts i)) d l ks ts h Q:=by
 rw[WP_op (by simp) (by simp)];refine WR_of ?_;simp only[stepT,fnT,iadaF];cases val ts x with
 |ptr b o=>cases val ts i<;>first|rfl|(simp only;split<;>rfl)
 |_=>rfl
def WP_part{n off x}:WP P ro ({dst:=d,k:=.part n off x,gd:=none,q:=q} ::l) ks ts h Q=WV P ro (partF n off (val ts x)) d l ks ts h Q:=by
 rw[WP_op (by simp) (by simp)];refine WR_of ?_;simp only[stepT,fnT,partF];cases val ts x with
 |agg cs=>cases n<;>first|rfl|(simp only;cases cs[off]? <;>rfl)
 |_=>rfl
def WP_ixa{len es n x i}:WP P ro ({dst:=d,k:=.ixa len es n x i,gd:=none,q:=q} ::l) ks ts h Q=WV P ro (ixaF len es n (val ts x) (val ts i)) d l ks ts h Q:=by
 rw[WP_op (by simp) (by simp)];refine WR_of ?_;simp only[stepT,fnT,ixaF];cases val ts x with
 |agg cs=>
  cases val ts i with
  |int k j=>
   simp only;split
   ·cases n<;>first|rfl|(simp only;cases cs[j.toNat*es]? <;>rfl)
   ·rfl
  |_=>rfl
 |_=>rfl
def WP_ixs{x i}:WP P ro ({dst:=d,k:=.ixs x i,gd:=none,q:=q} ::l) ks ts h Q=WV P ro (ixsF (val ts x) (val ts i)) d l ks ts h Q:=by
 rw[WP_op (by simp) (by simp)];refine WR_of ?_;simp only[stepT,fnT,ixsF];cases val ts x with
 |str s=>
  cases val ts i with
  |int k j=>
   simp only;split
   ·cases s[j.toNat]? <;>rfl
   ·rfl
  |_=>rfl
 |_=>rfl
def WP_look{kk z ok m k}:WP P ro ({dst:=d,k:=.look kk z ok m k,gd:=none,q:=q} ::l) ks ts h Q=WR P ro (stepT (.look kk z ok m k) (val ts) (λb=>h[b]?) h.length) q d l ks ts h Q:=rfl
def WP_mupd{kk m k x}:WP P ro ({dst:=d,k:=.mupd kk m k x,gd:=none,q:=q} ::l) ks ts h Q=WR P ro (stepT (.mupd kk m k x) (val ts) (λb=>h[b]?) h.length) q d l ks ts h Q:=rfl
def WP_nexts{x}:WP P ro ({dst:=d,k:=.nexts x,gd:=none,q:=q} ::l) ks ts h Q=WR P ro (stepT (.nexts x) (val ts) (λb=>h[b]?) h.length) q d l ks ts h Q:=rfl
def WP_ext{x i}:WP P ro ({dst:=d,k:=.ext x i,gd:=none,q:=q} ::l) ks ts h Q=WV P ro (extF (val ts x) i) d l ks ts h Q:=by
 rw[WP_op (by simp) (by simp)];refine WR_of ?_;simp only[stepT,fnT,extF];cases val ts x with
 |tup cs=>simp only;cases cs[i]? <;>rfl
 |_=>rfl
def WP_len{lk x}:WP P ro ({dst:=d,k:=.len lk x,gd:=none,q:=q} ::l) ks ts h Q=WV P ro (lenF (lenG lk (λb=>h[b]?) (val ts x))) d l ks ts h Q:=by
 rw[WP_op (by simp) (by simp)];refine WR_of ?_;simp only[stepT,fnT,lenF];cases lenG lk (λb=>h[b]?) (val ts x)<;>rfl
def WP_lenc{n}:WP P ro ({dst:=d,k:=.lenc n,gd:=none,q:=q} ::l) ks ts h Q=WP P ro l ks (put ts d (.int .i64 n)) h Q:=WR_keep
def WP_app{es w x y}:WP P ro ({dst:=d,k:=.app es w x y,gd:=none,q:=q} ::l) ks ts h Q=WR P ro (appT es w (val ts x) (val ts y) (λb=>h[b]?) h.length) q d l ks ts h Q:=rfl
def WP_cpy{es x y}:WP P ro ({dst:=d,k:=.cpy es x y,gd:=none,q:=q} ::l) ks ts h Q=WR P ro (stepT (.cpy es x y) (val ts) (λb=>h[b]?) h.length) q d l ks ts h Q:=rfl
def WP_mx{x m}:WP P ro ({dst:=d,k:=.mx x m,gd:=none,q:=q} ::l) ks ts h Q=WV P ro (foldA max2A (val ts x) (m.map (val ts))) d l ks ts h Q:=by
 rw[WP_op (by simp) (by simp)];refine WR_of ?_;simp only[stepT,fnT];cases foldA max2A (val ts x) (m.map (val ts))<;>rfl
def WP_mn{x m}:WP P ro ({dst:=d,k:=.mn x m,gd:=none,q:=q} ::l) ks ts h Q=WV P ro (foldA min2A (val ts x) (m.map (val ts))) d l ks ts h Q:=by
 rw[WP_op (by simp) (by simp)];refine WR_of ?_;simp only[stepT,fnT];cases foldA min2A (val ts x) (m.map (val ts))<;>rfl
def bin_add{k a b}:binK .add (.int k a) (.int k b)=some (.int k (k.wrap (a+b))):=by simp[binK,isShift,intBin]
def bin_sub{k a b}:binK .sub (.int k a) (.int k b)=some (.int k (k.wrap (a-b))):=by simp[binK,isShift,intBin]
def bin_mul{k a b}:binK .mul (.int k a) (.int k b)=some (.int k (k.wrap (a*b))):=by simp[binK,isShift,intBin]
def bin_rem{k a b}(hb:b≠0):binK .rem (.int k a) (.int k b)=some (.int k (a.tmod b)):=by simp[binK,isShift,intBin,hb]
def bin_eql{k a b}:binK .eql (.int k a) (.int k b)=some (.bool (decide (a=b))):=by simp[binK,isShift,intBin];rfl
def bin_neq{k a b}:binK .neq (.int k a) (.int k b)=some (.bool (decide (a≠b))):=by
 simp only[binK,isShift,intBin,if_true,Bool.false_eq_true,if_false,Option.some.injEq,AV.bool.injEq];by_cases hab:a=b<;>simp[hab]
def bin_lss{k a b}:binK .lss (.int k a) (.int k b)=some (.bool (decide (a<b))):=by simp[binK,isShift,intBin]
def bin_leq{k a b}:binK .leq (.int k a) (.int k b)=some (.bool (decide (a<=b))):=by simp[binK,isShift,intBin]
def bin_gtr{k a b}:binK .gtr (.int k a) (.int k b)=some (.bool (decide (b<a))):=by simp[binK,isShift,intBin]
def bin_geq{k a b}:binK .geq (.int k a) (.int k b)=some (.bool (decide (b<=a))):=by simp[binK,isShift,intBin]
def bin_seql{x y}:binK .eql (.str x) (.str y)=some (.bool (decide (x=y))):=by
 simp only[binK,strBin,Option.some.injEq,AV.bool.injEq];by_cases hab:x=y<;>simp[hab]
def bin_sneq{x y}:binK .neq (.str x) (.str y)=some (.bool (decide (x≠y))):=by
 simp only[binK,strBin,Option.some.injEq,AV.bool.injEq];by_cases hab:x=y<;>simp[hab]
def un_not{b}:unK .not (.bool b)=some (.bool !b):=rfl
def un_neg{k a}:unK .neg (.int k a)=some (.int k (k.wrap (0-a))):=rfl
def mx_2{k a b}:foldA max2A (.int k a) [.int k b]=some (.int k (max a b)):=by
 simp only[foldA,max2A,if_true,Option.some.injEq,AV.int.injEq,true_and];omega
def mn_2{k a b}:foldA min2A (.int k a) [.int k b]=some (.int k (min a b)):=by
 simp only[foldA,min2A,if_true,Option.some.injEq,AV.int.injEq,true_and];omega
def wrap_in{n}(h1:-9223372036854775808<=n)(h2:n<=9223372036854775807):IntKind.i64.wrap n=n:=by
 simp only[IntKind.wrap,IntKind.signed,IntKind.bits,Bool.true_and,decide_eq_true_eq,show(64-1:Nat)=63 from rfl];split<;>omega
end
end Go.Abs
namespace Go.Abs
def A2{a b:Prop}(xa:a)(xb:b):a/\b:=⟨xa,xb⟩
def A3{a b c:Prop}(xa:a)(xb:b)(xc:c):a/\b/\c:=⟨xa,xb,xc⟩
def A4{a b c d:Prop}(xa:a)(xb:b)(xc:c)(xd:d):a/\b/\c/\d:=⟨xa,xb,xc,xd⟩
def A5{a b c d e:Prop}(xa:a)(xb:b)(xc:c)(xd:d)(xe:e):a/\b/\c/\d/\e:=⟨xa,xb,xc,xd,xe⟩
def A6{a b c d e f:Prop}(xa:a)(xb:b)(xc:c)(xd:d)(xe:e)(xf:f):a/\b/\c/\d/\e/\f:=⟨xa,xb,xc,xd,xe,xf⟩
def A7{a b c d e f g:Prop}(xa:a)(xb:b)(xc:c)(xd:d)(xe:e)(xf:f)(xg:g):a/\b/\c/\d/\e/\f/\g:=⟨xa,xb,xc,xd,xe,xf,xg⟩
def A8{a b c d e f g h:Prop}(xa:a)(xb:b)(xc:c)(xd:d)(xe:e)(xf:f)(xg:g)(xh:h):a/\b/\c/\d/\e/\f/\g/\h:=⟨xa,xb,xc,xd,xe,xf,xg,xh⟩
def A9{a b c d e f g h i:Prop}(xa:a)(xb:b)(xc:c)(xd:d)(xe:e)(xf:f)(xg:g)(xh:h)(xi:i):a/\b/\c/\d/\e/\f/\g/\h/\i:=⟨xa,xb,xc,xd,xe,xf,xg,xh,xi⟩
def A10{a b c d e f g h i j:Prop}(xa:a)(xb:b)(xc:c)(xd:d)(xe:e)(xf:f)(xg:g)(xh:h)(xi:i)(xj:j):a/\b/\c/\d/\e/\f/\g/\h/\i/\j:=⟨xa,xb,xc,xd,xe,xf,xg,xh,xi,xj⟩
def A11{a b c d e f g h i j k:Prop}(xa:a)(xb:b)(xc:c)(xd:d)(xe:e)(xf:f)(xg:g)(xh:h)(xi:i)(xj:j)(xk:k):a/\b/\c/\d/\e/\f/\g/\h/\i/\j/\k:=⟨xa,xb,xc,xd,xe,xf,xg,xh,xi,xj,xk⟩
def A12{a b c d e f g h i j k l:Prop}(xa:a)(xb:b)(xc:c)(xd:d)(xe:e)(xf:f)(xg:g)(xh:h)(xi:i)(xj:j)(xk:k)(xl:l):a/\b/\c/\d/\e/\f/\g/\h/\i/\j/\k/\l:=⟨xa,xb,xc,xd,xe,xf,xg,xh,xi,xj,xk,xl⟩
def A13{a b c d e f g h i j k l m:Prop}(xa:a)(xb:b)(xc:c)(xd:d)(xe:e)(xf:f)(xg:g)(xh:h)(xi:i)(xj:j)(xk:k)(xl:l)(xm:m):a/\b/\c/\d/\e/\f/\g/\h/\i/\j/\k/\l/\m:=⟨xa,xb,xc,xd,xe,xf,xg,xh,xi,xj,xk,xl,xm⟩
def A14{a b c d e f g h i j k l m n:Prop}(xa:a)(xb:b)(xc:c)(xd:d)(xe:e)(xf:f)(xg:g)(xh:h)(xi:i)(xj:j)(xk:k)(xl:l)(xm:m)(xn:n):a/\b/\c/\d/\e/\f/\g/\h/\i/\j/\k/\l/\m/\n:=⟨xa,xb,xc,xd,xe,xf,xg,xh,xi,xj,xk,xl,xm,xn⟩
def A15{a b c d e f g h i j k l m n o:Prop}(xa:a)(xb:b)(xc:c)(xd:d)(xe:e)(xf:f)(xg:g)(xh:h)(xi:i)(xj:j)(xk:k)(xl:l)(xm:m)(xn:n)(xo:o):a/\b/\c/\d/\e/\f/\g/\h/\i/\j/\k/\l/\m/\n/\o:=⟨xa,xb,xc,xd,xe,xf,xg,xh,xi,xj,xk,xl,xm,xn,xo⟩
def A16{a b c d e f g h i j k l m n o p:Prop}(xa:a)(xb:b)(xc:c)(xd:d)(xe:e)(xf:f)(xg:g)(xh:h)(xi:i)(xj:j)(xk:k)(xl:l)(xm:m)(xn:n)(xo:o)(xp:p):a/\b/\c/\d/\e/\f/\g/\h/\i/\j/\k/\l/\m/\n/\o/\p:=⟨xa,xb,xc,xd,xe,xf,xg,xh,xi,xj,xk,xl,xm,xn,xo,xp⟩
def A17{a b c d e f g h i j k l m n o p q:Prop}(xa:a)(xb:b)(xc:c)(xd:d)(xe:e)(xf:f)(xg:g)(xh:h)(xi:i)(xj:j)(xk:k)(xl:l)(xm:m)(xn:n)(xo:o)(xp:p)(xq:q):a/\b/\c/\d/\e/\f/\g/\h/\i/\j/\k/\l/\m/\n/\o/\p/\q:=⟨xa,xb,xc,xd,xe,xf,xg,xh,xi,xj,xk,xl,xm,xn,xo,xp,xq⟩
def A18{a b c d e f g h i j k l m n o p q r:Prop}(xa:a)(xb:b)(xc:c)(xd:d)(xe:e)(xf:f)(xg:g)(xh:h)(xi:i)(xj:j)(xk:k)(xl:l)(xm:m)(xn:n)(xo:o)(xp:p)(xq:q)(xr:r):a/\b/\c/\d/\e/\f/\g/\h/\i/\j/\k/\l/\m/\n/\o/\p/\q/\r:=⟨xa,xb,xc,xd,xe,xf,xg,xh,xi,xj,xk,xl,xm,xn,xo,xp,xq,xr⟩
def A20{a b c d e f g h i j k l m n o p q r s t:Prop}(xa:a)(xb:b)(xc:c)(xd:d)(xe:e)(xf:f)(xg:g)(xh:h)(xi:i)(xj:j)(xk:k)(xl:l)(xm:m)(xn:n)(xo:o)(xp:p)(xq:q)(xr:r)(xs:s)(xt:t):a/\b/\c/\d/\e/\f/\g/\h/\i/\j/\k/\l/\m/\n/\o/\p/\q/\r/\s/\t:=⟨xa,xb,xc,xd,xe,xf,xg,xh,xi,xj,xk,xl,xm,xn,xo,xp,xq,xr,xs,xt⟩
def A21{a b c d e f g h i j k l m n o p q r s t u:Prop}(xa:a)(xb:b)(xc:c)(xd:d)(xe:e)(xf:f)(xg:g)(xh:h)(xi:i)(xj:j)(xk:k)(xl:l)(xm:m)(xn:n)(xo:o)(xp:p)(xq:q)(xr:r)(xs:s)(xt:t)(xu:u):a/\b/\c/\d/\e/\f/\g/\h/\i/\j/\k/\l/\m/\n/\o/\p/\q/\r/\s/\t/\u:=⟨xa,xb,xc,xd,xe,xf,xg,xh,xi,xj,xk,xl,xm,xn,xo,xp,xq,xr,xs,xt,xu⟩
def A22{a b c d e f g h i j k l m n o p q r s t u v:Prop}(xa:a)(xb:b)(xc:c)(xd:d)(xe:e)(xf:f)(xg:g)(xh:h)(xi:i)(xj:j)(xk:k)(xl:l)(xm:m)(xn:n)(xo:o)(xp:p)(xq:q)(xr:r)(xs:s)(xt:t)(xu:u)(xv:v):a/\b/\c/\d/\e/\f/\g/\h/\i/\j/\k/\l/\m/\n/\o/\p/\q/\r/\s/\t/\u/\v:=⟨xa,xb,xc,xd,xe,xf,xg,xh,xi,xj,xk,xl,xm,xn,xo,xp,xq,xr,xs,xt,xu,xv⟩
def A24{a b c d e f g h i j k l m n o p q r s t u v w x:Prop}(xa:a)(xb:b)(xc:c)(xd:d)(xe:e)(xf:f)(xg:g)(xh:h)(xi:i)(xj:j)(xk:k)(xl:l)(xm:m)(xn:n)(xo:o)(xp:p)(xq:q)(xr:r)(xs:s)(xt:t)(xu:u)(xv:v)(xw:w)(xx:x):a/\b/\c/\d/\e/\f/\g/\h/\i/\j/\k/\l/\m/\n/\o/\p/\q/\r/\s/\t/\u/\v/\w/\x:=⟨xa,xb,xc,xd,xe,xf,xg,xh,xi,xj,xk,xl,xm,xn,xo,xp,xq,xr,xs,xt,xu,xv,xw,xx⟩
section
variable {P:Program}{ro:Option Nat->Prop}{ks:List Kt}{ts:TS}{h:AHeap}{Q:Ex->TS->AHeap->Prop}{d:Option Nat}{q:Bool}{l:List IOp}
def WG_decT{k}{p:Prop}[Decidable p] :WG P ro (.bool (decide p)) true q k d l ks ts h Q=((p->WP P ro ({dst:=d,k:=k,gd:=none,q:=q} ::l) ks ts h Q)/\(¬p->WP P ro l ks (put ts d undefA) h Q)):=by
 by_cases hp:p
 ·simp only[hp,decide_true,WG_yes];simp
 ·simp only[hp,decide_false];rw[WG_no false (by simp)];simp
def WG_decF{k}{p:Prop}[Decidable p] :WG P ro (.bool (decide p)) false q k d l ks ts h Q=((p->WP P ro l ks (put ts d undefA) h Q)/\(¬p->WP P ro ({dst:=d,k:=k,gd:=none,q:=q} ::l) ks ts h Q)):=by
 by_cases hp:p
 ·simp only[hp,decide_true];rw[WG_no true (by simp)];simp
 ·simp only[hp,decide_false,WG_yes];simp
def WG_TF{k}:WG P ro (.bool true) false q k d l ks ts h Q=WP P ro l ks (put ts d undefA) h Q:=WG_no true (by simp)
def WG_FT{k}:WG P ro (.bool false) true q k d l ks ts h Q=WP P ro l ks (put ts d undefA) h Q:=WG_no false (by simp)
def WB_dec{a b}{p:Prop}[Decidable p] :WB P ro (.bool (decide p)) a b ks ts h Q=((p->WC P ro a ks ts h Q)/\(¬p->WC P ro b ks ts h Q)):=by
 by_cases hp:p
 ·simp only[hp,decide_true,WB_true];simp
 ·simp only[hp,decide_false,WB_false];simp
def pick_T{a b}:pickF (.bool true) a b=some a:=rfl
def pick_F{a b}:pickF (.bool false) a b=some b:=rfl
def slot(ts:TS)(i:Nat):AV:=ts.getD i undefA
def val_t{i}:val ts (.t i)=slot ts i:=rfl
def val_c{v}:val ts (.c v)=v:=rfl
def val_g{i}:val ts (.g i)=.ptr i 0:=rfl
def val_f{i}:val ts (.f i)=.func (.func i) [] []:=rfl
def put_s{i v}:put ts (some i) v=ts.set i v:=rfl
def put_n{v}:put ts none v=ts:=rfl
def slot_0{a l}:slot (a::l) 0=a:=rfl
def slot_s{a l n}:slot (a::l) (n+1)=slot l n:=rfl
def l_lenc{a:AV}{l:List AV}:(a::l).length=l.length+1:=rfl
def l_len0:([] :List AV).length=0:=rfl
def l_rep0{a:AV}:List.replicate 0 a=[]:=rfl
def l_appc{a:AV}{l m:List AV}:(a::l)++m=a:: (l++m):=rfl
def l_app0{m:List AV}:[]++m=m:=rfl
def l_set0{a b:AV}{l:List AV}:(a::l).set 0 b=b::l:=rfl
def l_sets{a b:AV}{l:List AV}{n:Nat}:(a::l).set (n+1) b=a::l.set n b:=rfl
def l_map0{f:Opd->AV}:List.map f []=[]:=rfl
def l_mapc{f:Opd->AV}{a:Opd}{l:List Opd}:List.map f (a::l)=f a::l.map f:=rfl
def o_mapn{f:Opd->AV}:Option.map f none=none:=rfl
def o_maps{f:Opd->AV}{a:Opd}:Option.map f (some a)=some (f a):=rfl
def fadr_p{off b o}:fadrF off (.ptr b o)=some (.ptr b (o+off)):=rfl
def lenF_s{n}:lenF (some n)=some (.int .i64 n):=rfl
def lenG_st{G s}:lenG .st G (.str s)=some s.length:=rfl
def nil_p{b o}:nilF (.ptr b o)=some (.ptr b o):=rfl
def nil_f{f a c}:nilF (.func (.func f) a c)=some (.func (.func f) a c):=rfl
def nil_y{f a c}:nilF (.func (.yield f) a c)=some (.func (.yield f) a c):=rfl
def ext_t{l i}:extF (.tup l) i=l[i]? :=rfl
def part_n{cs off}:partF none off (.agg cs)=cs[off]? :=rfl
def part_s{cs off n}:partF (some n) off (.agg cs)=some (.agg ((cs.drop off).take n)):=rfl
def buildF_s{c}:buildF (some c)=some (.agg c):=rfl
def resAll_1{r}:resAll [(r,none)] ts h=some (slot ts r):=rfl
def resAll_2{r s}:resAll [(r,none),(s,none)] ts h=some (.tup [slot ts r,slot ts s]):=rfl
def resAll_3{r s t}:resAll [(r,none),(s,none),(t,none)] ts h=some (.tup [slot ts r,slot ts s,slot ts t]):=rfl
def startTS_eq{n args}:startTS n args=args++List.replicate (n-args.length) undefA:=rfl
def rep_s{n:Nat}{a:AV}:List.replicate (n+1) a=a::List.replicate n a:=rfl
def conv_ii{k k' n G N}:convT (.i2i k) (.int k' n) G N=some (.int k (k.wrap n),.keep):=rfl
def conv_ifc{u:TypeId}{x G N}:convT (.ifc u) x G N=some (.ifc u x,.keep):=rfl
def conv_same{s G N}:convT .same (.str s) G N=some (.str s,.keep):=rfl
def box_int{k n N}:boxF (.int k n) N=some (.ptr N 0,.push (.cells [.int k n] true false)):=rfl
def box_bool{b N}:boxF (.bool b) N=some (.ptr N 0,.push (.cells [.bool b] true false)):=rfl
def box_str{s N}:boxF (.str s) N=some (.ptr N 0,.push (.cells [.str s] true false)):=rfl
def box_agg{l N}(hl:l.all AV.one=true):boxF (.agg l) N=some (.ptr N 0,.push (.cells l true false)):=by
 show(if l.all AV.one then _ else none)=_;rw[if_pos hl];rfl
end
def WG_U{P ro ks ts h Q d q l k b}:WG P ro undefA b q k d l ks ts h Q=WP P ro l ks (put ts d undefA) h Q:=rfl
def ext_0{h}:Ext h h=True:=eq_true (Ext.refl h)
def ext_1{h a}:Ext h (h++a)=True:=eq_true (by repeat first|exact Ext.refl _|refine Ext.app _ ?_)
def ext_2{h a b}:Ext h (h++a++b)=True:=eq_true (by repeat first|exact Ext.refl _|refine Ext.app _ ?_)
def ext_3{h a b c}:Ext h (h++a++b++c)=True:=eq_true (by repeat first|exact Ext.refl _|refine Ext.app _ ?_)
def ext_4{h a b c d}:Ext h (h++a++b++c++d)=True:=eq_true (by repeat first|exact Ext.refl _|refine Ext.app _ ?_)
def ext_5{h a b c d e}:Ext h (h++a++b++c++d++e)=True:=eq_true (by repeat first|exact Ext.refl _|refine Ext.app _ ?_)
def ext_6{h a b c d e f}:Ext h (h++a++b++c++d++e++f)=True:=eq_true (by repeat first|exact Ext.refl _|refine Ext.app _ ?_)
def ext_7{h a b c d e f g}:Ext h (h++a++b++c++d++e++f++g)=True:=eq_true (by repeat first|exact Ext.refl _|refine Ext.app _ ?_)
def ext_8{h a b c d e f g i}:Ext h (h++a++b++c++d++e++f++g++i)=True:=eq_true (by repeat first|exact Ext.refl _|refine Ext.app _ ?_)
def ext_9{h a b c d e f g i j}:Ext h (h++a++b++c++d++e++f++g++i++j)=True:=eq_true (by repeat first|exact Ext.refl _|refine Ext.app _ ?_)
def and_T{p:Prop}:(True/\p)=p:=true_and p
def lst(f:Nat->AV):Nat->Nat->TS
 | 0,_=>[]
 |n+1,i=>f i::lst f n (i+1)
def lst_0{f i}:lst f 0 i=[]:=rfl
def lst_s{f n i}:lst f (n+1) i=f i::lst f n (i+1):=rfl
theorem lst_eq(f:Nat->AV):∀(n i:Nat) (ts:TS),ts.length=n->(∀k,k<n->f (i+k)=slot ts k)->ts=lst f n i
 | 0,_,ts,h,_=>List.length_eq_zero_iff.1 h
 |n+1,i,[],h,_=>by simp at h
 |n+1,i,x::xs,h,hf=>by
  rw[lst_s,<-lst_eq f n (i+1) xs (by simpa using h) λk hk=>by have:=hf (k+1) (by omega);rw[show i+1+k=i+(k+1) by omega,this];rfl];rw[<-Nat.add_zero i,hf 0 (by omega)];rfl
def expl(ts:TS)(n:Nat)(h:ts.length=n):ts=lst (λi=>slot ts i) n 0:=lst_eq _ n 0 ts h λk _=>by rw[Nat.zero_add]
def wset:=A6 (A24 @WC_skip @WC_ops @WC_seq @WC_cond @WC_block @WC_loop @WC_exit @WC_ret @WE_seqN @WE_seqX @WE_seqR @WE_blockN @WE_blockX @WE_blockR @WE_nil @WP_nil @WP_call @WP_gd @WG_yes @WG_TF @WG_FT @WR_keep @WR_push @WR_set) (A24 @WR_setPush @WV_some @WB_true @WB_false @LQ_N @LQ_X @LQ_R @FQ_N @FQ_R @FR_some @WP_mov @WP_pick @WP_box @WP_build @WP_bslice @WP_load @WP_store @WP_nilchk @WP_bin @WP_eqv @WP_un @WP_conv @WP_mkfn @WP_mkmap) (A24 @WP_mksl @WP_sl @WP_sls @WP_fadr @WP_iadr @WP_iada @WP_part @WP_ixa @WP_ixs @WP_look @WP_mupd @WP_nexts @WP_ext @WP_len @WP_lenc @WP_app @WP_cpy @WP_mx @WP_mn @bin_add @bin_sub @bin_mul @bin_eql @bin_neq) (A24 @bin_lss @bin_leq @bin_gtr @bin_geq @bin_seql @bin_sneq @un_not @un_neg @mx_2 @mn_2 @pick_T @pick_F @val_t @val_c @val_g @val_f @put_s @put_n @slot_0 @slot_s @fadr_p @lenF_s @lenG_st @nil_p) (A24 @nil_f @nil_y @ext_t @part_n @part_s @buildF_s @resAll_1 @resAll_2 @resAll_3 @startTS_eq @rep_s @l_lenc @l_len0 @l_rep0 @l_appc @l_app0 @l_set0 @l_sets @l_map0 @l_mapc @o_mapn @o_maps @conv_ii @conv_same) (A17 @WG_U @ext_0 @ext_1 @ext_2 @ext_3 @ext_4 @ext_5 @ext_6 @ext_7 @ext_8 @ext_9 @and_T @lst_0 @lst_s @box_int @box_bool @box_str)
def wsplit:
  (∀{P}{ro}{ks}{ts}{h}{Q}{d}{q}{l}{k}{p:Prop} [Decidable p],WG P ro (.bool (decide p)) true q k d l ks ts h Q=((p->WP P ro ({dst:=d,k:=k,gd:=none,q:=q} ::l) ks ts h Q)/\(¬p->WP P ro l ks (put ts d undefA) h Q)))/\
  (∀{P:Program}{ro:Option Nat->Prop}{ks:List Kt}{ts:TS}{h:AHeap}{Q:Ex->TS->AHeap->Prop}{d:Option Nat}{q:Bool}{l:List IOp}{k:OpK}{p:Prop} [Decidable p],WG P ro (.bool (decide p)) false q k d l ks ts h Q=((p->WP P ro l ks (put ts d undefA) h Q)/\(¬p->WP P ro ({dst:=d,k:=k,gd:=none,q:=q} ::l) ks ts h Q)))/\
  (∀{P:Program}{ro:Option Nat->Prop}{ks:List Kt}{ts:TS}{h:AHeap}{Q:Ex->TS->AHeap->Prop}{a b:ICode}{p:Prop} [Decidable p],WB P ro (.bool (decide p)) a b ks ts h Q=((p->WC P ro a ks ts h Q)/\(¬p->WC P ro b ks ts h Q))):=
 ⟨@WG_decT,@WG_decF,@WB_dec⟩
end Go.Abs
namespace Go.Abs
def at_app{h:AHeap}{b:Nat}(a:AHeap)(hb:b<h.length):(h++a)[b]? =h[b]? :=List.getElem?_append_left hb
def set_app{h:AHeap}{b:Nat}(a:AHeap)(k:ABlk)(hb:b<h.length):(h++a).set b k=h.set b k++a:=List.set_append_left _ _ hb
def set_new{X:AHeap}{k k':ABlk}:(X++[k]).set X.length k' =X++[k']:=by
 rw[List.set_append_right _ _ (Nat.le_refl _)];simp
def at_new{X:AHeap}{k:ABlk}:(X++[k])[X.length]? =some k:=by simp
def ldB(n:Option Nat)(o:Nat):ABlk->Option (AV×Eff)
 |.cells c _ _=>
  match n with
  |none=>
   match c[o]? with
   |some x=>some (x,.keep)
   |none=>none
  |some n=>if o+n<=c.length then some (.agg ((c.drop o).take n),.keep)else none
 |_=>none
def stB(n o:Nat)(v:AV)(b:Nat):ABlk->Option (AV×Eff)
 |.cells c true tl=>if v.cells.length=n/\v.cells.all AV.one=true/\o+n<=c.length then some (undefA,.set b (.cells (setL c o v.cells) true tl))else none
 |_=>none
def loadF_at{n:Option Nat}{b o:Nat}{G:Nat->Option ABlk}{k:ABlk}(hb:G b=some k):loadF n (.ptr b o) G=ldB n o k:=by
 simp only[loadF,hb];cases k<;>rfl
def storeF_at{n b o:Nat}{v:AV}{G:Nat->Option ABlk}{k:ABlk}(hb:G b=some k):storeF n (.ptr b o) v G=stB n o v b k:=by
 simp only[storeF,hb];cases k with
 |cells c mu tl=>cases mu<;>rfl
 |_=>rfl
def nextB(b:Nat)(s:List UInt8)(pos:Nat):Option (AV×Eff):=
 if pos<s.length then some (.tup [.bool true,.int .i64 pos,.int .i32 (Utf8.decode ⟨⟨s⟩⟩ pos).1],.set b (.iter s (pos+(Utf8.decode ⟨⟨s⟩⟩ pos).2)))else some (.tup [.bool false],.keep)
def nextF(x:AV)(G:Nat->Option ABlk):Option (AV×Eff):=
 match x with
 |.ptr b 0=>
  match G b with
  |some (.iter s pos)=>nextB b s pos
  |_=>none
 |_=>none
def nextF_at{b pos:Nat}{s:List UInt8}{G:Nat->Option ABlk}(hb:G b=some (.iter s pos)):nextF (.ptr b 0) G=nextB b s pos:=by
 simp only[nextF,hb]
def stepT_nexts{x:Opd}{ρ:Opd->AV}{G:Nat->Option ABlk}{N:Nat}:stepT (.nexts x) ρ G N=nextF (ρ x) G:=by
 simp only[stepT,fnT,nextF,nextB];cases ρ x with
 |ptr b o=>
  cases o with
  |zero=>
   simp only;cases G b with
   |none=>rfl
   |some k=>cases k<;>rfl
  |succ o=>rfl
 |_=>rfl
def rstrF(x:AV)(N:Nat):Option (AV×Eff):=
 match x with
 |.str s=>some (.ptr N 0,.push (.iter s 0))
 |_=>none
def WP_rstrF{P:Program}{ro:Option Nat->Prop}{ks:List Kt}{ts:TS}{h:AHeap}{Q:Ex->TS->AHeap->Prop}{d:Option Nat}{q:Bool}{l:List IOp}{x:Opd}:WP P ro ({dst:=d,k:=.rstr x,gd:=none,q:=q} ::l) ks ts h Q=WR P ro (rstrF (val ts x) h.length) q d l ks ts h Q:=rfl
def rstr_s{s:List UInt8}{N:Nat}:rstrF (.str s) N=some (.ptr N 0,.push (.iter s 0)):=rfl
def at_0{X:AHeap}{K}:(X++[K])[X.length]? =some K:=by
 exact at_new
def ld_0{n o X K}:loadF n (.ptr X.length o) (λz=>(X++[K])[z]?)=ldB n o K:=loadF_at at_0
def st_0{y o v X K}:storeF y (.ptr X.length o) v (λz=>(X++[K])[z]?)=stB y o v X.length K:=storeF_at at_0
def nx_0{pos s X}:nextF (.ptr X.length 0) (λz=>(X++[.iter s pos])[z]?)=nextB X.length s pos:=nextF_at at_0
def set_0{X:AHeap}{K K'}:(X++[K]).set X.length K' =X++[K']:=by
 exact set_new
def at_1{X:AHeap}{K a}:(X++[K]++a)[X.length]? =some K:=by
 rw[at_app,at_0];simp
def ld_1{n o X K a}:loadF n (.ptr X.length o) (λz=>(X++[K]++a)[z]?)=ldB n o K:=loadF_at at_1
def st_1{y o v X K a}:storeF y (.ptr X.length o) v (λz=>(X++[K]++a)[z]?)=stB y o v X.length K:=storeF_at at_1
def nx_1{pos s X a}:nextF (.ptr X.length 0) (λz=>(X++[.iter s pos]++a)[z]?)=nextB X.length s pos:=nextF_at at_1
def set_1{X:AHeap}{K K' a}:(X++[K]++a).set X.length K' =X++[K']++a:=by
 rw[set_app,set_0];simp
def at_2{X:AHeap}{K a b}:(X++[K]++a++b)[X.length]? =some K:=by
 rw[at_app,at_1];simp
def ld_2{n o X K a b}:loadF n (.ptr X.length o) (λz=>(X++[K]++a++b)[z]?)=ldB n o K:=loadF_at at_2
def st_2{y o v X K a b}:storeF y (.ptr X.length o) v (λz=>(X++[K]++a++b)[z]?)=stB y o v X.length K:=storeF_at at_2
def nx_2{pos s X a b}:nextF (.ptr X.length 0) (λz=>(X++[.iter s pos]++a++b)[z]?)=nextB X.length s pos:=nextF_at at_2
def set_2{X:AHeap}{K K' a b}:(X++[K]++a++b).set X.length K' =X++[K']++a++b:=by
 rw[set_app,set_1];simp
def at_3{X:AHeap}{K a b c}:(X++[K]++a++b++c)[X.length]? =some K:=by
 rw[at_app,at_2];simp
def ld_3{n o X K a b c}:loadF n (.ptr X.length o) (λz=>(X++[K]++a++b++c)[z]?)=ldB n o K:=loadF_at at_3
def st_3{y o v X K a b c}:storeF y (.ptr X.length o) v (λz=>(X++[K]++a++b++c)[z]?)=stB y o v X.length K:=storeF_at at_3
def nx_3{pos s X a b c}:nextF (.ptr X.length 0) (λz=>(X++[.iter s pos]++a++b++c)[z]?)=nextB X.length s pos:=nextF_at at_3
def set_3{X:AHeap}{K K' a b c}:(X++[K]++a++b++c).set X.length K' =X++[K']++a++b++c:=by
 rw[set_app,set_2];simp
def at_4{X:AHeap}{K a b c d}:(X++[K]++a++b++c++d)[X.length]? =some K:=by
 rw[at_app,at_3];simp
def ld_4{n o X K a b c d}:loadF n (.ptr X.length o) (λz=>(X++[K]++a++b++c++d)[z]?)=ldB n o K:=loadF_at at_4
def st_4{y o v X K a b c d}:storeF y (.ptr X.length o) v (λz=>(X++[K]++a++b++c++d)[z]?)=stB y o v X.length K:=storeF_at at_4
def nx_4{pos s X a b c d}:nextF (.ptr X.length 0) (λz=>(X++[.iter s pos]++a++b++c++d)[z]?)=nextB X.length s pos:=nextF_at at_4
def set_4{X:AHeap}{K K' a b c d}:(X++[K]++a++b++c++d).set X.length K' =X++[K']++a++b++c++d:=by
 rw[set_app,set_3];simp
def at_5{X:AHeap}{K a b c d e}:(X++[K]++a++b++c++d++e)[X.length]? =some K:=by
 rw[at_app,at_4];simp
def ld_5{n o X K a b c d e}:loadF n (.ptr X.length o) (λz=>(X++[K]++a++b++c++d++e)[z]?)=ldB n o K:=loadF_at at_5
def st_5{y o v X K a b c d e}:storeF y (.ptr X.length o) v (λz=>(X++[K]++a++b++c++d++e)[z]?)=stB y o v X.length K:=storeF_at at_5
def nx_5{pos s X a b c d e}:nextF (.ptr X.length 0) (λz=>(X++[.iter s pos]++a++b++c++d++e)[z]?)=nextB X.length s pos:=nextF_at at_5
def set_5{X:AHeap}{K K' a b c d e}:(X++[K]++a++b++c++d++e).set X.length K' =X++[K']++a++b++c++d++e:=by
 rw[set_app,set_4];simp
def at_6{X:AHeap}{K a b c d e f}:(X++[K]++a++b++c++d++e++f)[X.length]? =some K:=by
 rw[at_app,at_5];simp
def ld_6{n o X K a b c d e f}:loadF n (.ptr X.length o) (λz=>(X++[K]++a++b++c++d++e++f)[z]?)=ldB n o K:=loadF_at at_6
def st_6{y o v X K a b c d e f}:storeF y (.ptr X.length o) v (λz=>(X++[K]++a++b++c++d++e++f)[z]?)=stB y o v X.length K:=storeF_at at_6
def nx_6{pos s X a b c d e f}:nextF (.ptr X.length 0) (λz=>(X++[.iter s pos]++a++b++c++d++e++f)[z]?)=nextB X.length s pos:=nextF_at at_6
def set_6{X:AHeap}{K K' a b c d e f}:(X++[K]++a++b++c++d++e++f).set X.length K' =X++[K']++a++b++c++d++e++f:=by
 rw[set_app,set_5];simp
def at_7{X:AHeap}{K a b c d e f g}:(X++[K]++a++b++c++d++e++f++g)[X.length]? =some K:=by
 rw[at_app,at_6];simp
def ld_7{n o X K a b c d e f g}:loadF n (.ptr X.length o) (λz=>(X++[K]++a++b++c++d++e++f++g)[z]?)=ldB n o K:=loadF_at at_7
def st_7{y o v X K a b c d e f g}:storeF y (.ptr X.length o) v (λz=>(X++[K]++a++b++c++d++e++f++g)[z]?)=stB y o v X.length K:=storeF_at at_7
def nx_7{pos s X a b c d e f g}:nextF (.ptr X.length 0) (λz=>(X++[.iter s pos]++a++b++c++d++e++f++g)[z]?)=nextB X.length s pos:=nextF_at at_7
def set_7{X:AHeap}{K K' a b c d e f g}:(X++[K]++a++b++c++d++e++f++g).set X.length K' =X++[K']++a++b++c++d++e++f++g:=by
 rw[set_app,set_6];simp
def at_8{X:AHeap}{K a b c d e f g i}:(X++[K]++a++b++c++d++e++f++g++i)[X.length]? =some K:=by
 rw[at_app,at_7];simp
def ld_8{n o X K a b c d e f g i}:loadF n (.ptr X.length o) (λz=>(X++[K]++a++b++c++d++e++f++g++i)[z]?)=ldB n o K:=loadF_at at_8
def st_8{y o v X K a b c d e f g i}:storeF y (.ptr X.length o) v (λz=>(X++[K]++a++b++c++d++e++f++g++i)[z]?)=stB y o v X.length K:=storeF_at at_8
def nx_8{pos s X a b c d e f g i}:nextF (.ptr X.length 0) (λz=>(X++[.iter s pos]++a++b++c++d++e++f++g++i)[z]?)=nextB X.length s pos:=nextF_at at_8
def set_8{X:AHeap}{K K' a b c d e f g i}:(X++[K]++a++b++c++d++e++f++g++i).set X.length K' =X++[K']++a++b++c++d++e++f++g++i:=by
 rw[set_app,set_7];simp
def at_9{X:AHeap}{K a b c d e f g i j}:(X++[K]++a++b++c++d++e++f++g++i++j)[X.length]? =some K:=by
 rw[at_app,at_8];simp
def ld_9{n o X K a b c d e f g i j}:loadF n (.ptr X.length o) (λz=>(X++[K]++a++b++c++d++e++f++g++i++j)[z]?)=ldB n o K:=loadF_at at_9
def st_9{y o v X K a b c d e f g i j}:storeF y (.ptr X.length o) v (λz=>(X++[K]++a++b++c++d++e++f++g++i++j)[z]?)=stB y o v X.length K:=storeF_at at_9
def nx_9{pos s X a b c d e f g i j}:nextF (.ptr X.length 0) (λz=>(X++[.iter s pos]++a++b++c++d++e++f++g++i++j)[z]?)=nextB X.length s pos:=nextF_at at_9
def set_9{X:AHeap}{K K' a b c d e f g i j}:(X++[K]++a++b++c++d++e++f++g++i++j).set X.length K' =X++[K']++a++b++c++d++e++f++g++i++j:=by
 rw[set_app,set_8];simp
def at_10{X:AHeap}{K a b c d e f g i j m}:(X++[K]++a++b++c++d++e++f++g++i++j++m)[X.length]? =some K:=by
 rw[at_app,at_9];simp
def ld_10{n o X K a b c d e f g i j m}:loadF n (.ptr X.length o) (λz=>(X++[K]++a++b++c++d++e++f++g++i++j++m)[z]?)=ldB n o K:=loadF_at at_10
def st_10{y o v X K a b c d e f g i j m}:storeF y (.ptr X.length o) v (λz=>(X++[K]++a++b++c++d++e++f++g++i++j++m)[z]?)=stB y o v X.length K:=storeF_at at_10
def nx_10{pos s X a b c d e f g i j m}:nextF (.ptr X.length 0) (λz=>(X++[.iter s pos]++a++b++c++d++e++f++g++i++j++m)[z]?)=nextB X.length s pos:=nextF_at at_10
def set_10{X:AHeap}{K K' a b c d e f g i j m}:(X++[K]++a++b++c++d++e++f++g++i++j++m).set X.length K' =X++[K']++a++b++c++d++e++f++g++i++j++m:=by
 rw[set_app,set_9];simp
def at_11{X:AHeap}{K a b c d e f g i j m p}:(X++[K]++a++b++c++d++e++f++g++i++j++m++p)[X.length]? =some K:=by
 rw[at_app,at_10];simp
def ld_11{n o X K a b c d e f g i j m p}:loadF n (.ptr X.length o) (λz=>(X++[K]++a++b++c++d++e++f++g++i++j++m++p)[z]?)=ldB n o K:=loadF_at at_11
def st_11{y o v X K a b c d e f g i j m p}:storeF y (.ptr X.length o) v (λz=>(X++[K]++a++b++c++d++e++f++g++i++j++m++p)[z]?)=stB y o v X.length K:=storeF_at at_11
def nx_11{pos s X a b c d e f g i j m p}:nextF (.ptr X.length 0) (λz=>(X++[.iter s pos]++a++b++c++d++e++f++g++i++j++m++p)[z]?)=nextB X.length s pos:=nextF_at at_11
def set_11{X:AHeap}{K K' a b c d e f g i j m p}:(X++[K]++a++b++c++d++e++f++g++i++j++m++p).set X.length K' =X++[K']++a++b++c++d++e++f++g++i++j++m++p:=by
 rw[set_app,set_10];simp
def at_12{X:AHeap}{K a b c d e f g i j m p q}:(X++[K]++a++b++c++d++e++f++g++i++j++m++p++q)[X.length]? =some K:=by
 rw[at_app,at_11];simp
def ld_12{n o X K a b c d e f g i j m p q}:loadF n (.ptr X.length o) (λz=>(X++[K]++a++b++c++d++e++f++g++i++j++m++p++q)[z]?)=ldB n o K:=loadF_at at_12
def st_12{y o v X K a b c d e f g i j m p q}:storeF y (.ptr X.length o) v (λz=>(X++[K]++a++b++c++d++e++f++g++i++j++m++p++q)[z]?)=stB y o v X.length K:=storeF_at at_12
def nx_12{pos s X a b c d e f g i j m p q}:nextF (.ptr X.length 0) (λz=>(X++[.iter s pos]++a++b++c++d++e++f++g++i++j++m++p++q)[z]?)=nextB X.length s pos:=nextF_at at_12
def set_12{X:AHeap}{K K' a b c d e f g i j m p q}:(X++[K]++a++b++c++d++e++f++g++i++j++m++p++q).set X.length K' =X++[K']++a++b++c++d++e++f++g++i++j++m++p++q:=by
 rw[set_app,set_11];simp
def at_13{X:AHeap}{K a b c d e f g i j m p q r}:(X++[K]++a++b++c++d++e++f++g++i++j++m++p++q++r)[X.length]? =some K:=by
 rw[at_app,at_12];simp
def ld_13{n o X K a b c d e f g i j m p q r}:loadF n (.ptr X.length o) (λz=>(X++[K]++a++b++c++d++e++f++g++i++j++m++p++q++r)[z]?)=ldB n o K:=loadF_at at_13
def st_13{y o v X K a b c d e f g i j m p q r}:storeF y (.ptr X.length o) v (λz=>(X++[K]++a++b++c++d++e++f++g++i++j++m++p++q++r)[z]?)=stB y o v X.length K:=storeF_at at_13
def nx_13{pos s X a b c d e f g i j m p q r}:nextF (.ptr X.length 0) (λz=>(X++[.iter s pos]++a++b++c++d++e++f++g++i++j++m++p++q++r)[z]?)=nextB X.length s pos:=nextF_at at_13
def set_13{X:AHeap}{K K' a b c d e f g i j m p q r}:(X++[K]++a++b++c++d++e++f++g++i++j++m++p++q++r).set X.length K' =X++[K']++a++b++c++d++e++f++g++i++j++m++p++q++r:=by
 rw[set_app,set_12];simp
def at_14{X:AHeap}{K a b c d e f g i j m p q r t}:(X++[K]++a++b++c++d++e++f++g++i++j++m++p++q++r++t)[X.length]? =some K:=by
 rw[at_app,at_13];simp
def ld_14{n o X K a b c d e f g i j m p q r t}:loadF n (.ptr X.length o) (λz=>(X++[K]++a++b++c++d++e++f++g++i++j++m++p++q++r++t)[z]?)=ldB n o K:=loadF_at at_14
def st_14{y o v X K a b c d e f g i j m p q r t}:storeF y (.ptr X.length o) v (λz=>(X++[K]++a++b++c++d++e++f++g++i++j++m++p++q++r++t)[z]?)=stB y o v X.length K:=storeF_at at_14
def nx_14{pos s X a b c d e f g i j m p q r t}:nextF (.ptr X.length 0) (λz=>(X++[.iter s pos]++a++b++c++d++e++f++g++i++j++m++p++q++r++t)[z]?)=nextB X.length s pos:=nextF_at at_14
def set_14{X:AHeap}{K K' a b c d e f g i j m p q r t}:(X++[K]++a++b++c++d++e++f++g++i++j++m++p++q++r++t).set X.length K' =X++[K']++a++b++c++d++e++f++g++i++j++m++p++q++r++t:=by
 rw[set_app,set_13];simp
def ldB_n{o:Nat}{c:List AV}{mu tl:Bool}{x:AV}(hx:c[o]? =some x):ldB none o (.cells c mu tl)=some (x,.keep):=by simp only[ldB,hx]
def ldB_s{o n:Nat}{c:List AV}{mu tl:Bool}(hx:o+n<=c.length):ldB (some n) o (.cells c mu tl)=some (.agg ((c.drop o).take n),.keep):=by simp only[ldB];rw[if_pos hx]
def stB_agg{n o b:Nat}{c l:List AV}{tl:Bool}(h1:l.length=n)(h2:l.all AV.one=true)(h3:o+n<=c.length):stB n o (.agg l) b (.cells c true tl)=some (undefA,.set b (.cells (setL c o l) true tl)):=by
 show(if l.length=n/\l.all AV.one=true/\o+n<=c.length then _ else none)=_;rw[if_pos ⟨h1,h2,h3⟩];rfl
def AV.cells_one{v:AV}(hv:v.one=true):v.cells=[v]:=by cases v<;>first|rfl|cases hv
def stB_one{o b:Nat}{c:List AV}{v:AV}{tl:Bool}(h2:v.one=true)(h3:o+1<=c.length):stB 1 o v b (.cells c true tl)=some (undefA,.set b (.cells (c.set o v) true tl)):=by
 simp only[stB,AV.cells_one h2];rw[if_pos ⟨rfl,by simp[h2],h3⟩];rfl
def setL_nil{c:List AV}{o:Nat}:setL c o []=c:=rfl
def setL_cons{c:List AV}{o:Nat}{x:AV}{xs:List AV}:setL c o (x::xs)=setL (c.set o x) (o+1) xs:=rfl
def zrep_0{z:List AV}:zrep 0 z=[]:=rfl
def zrep_s{n:Nat}{z:List AV}:zrep (n+1) z=z++zrep n z:=rfl
def fill_nil{c:List AV}:fillA c []=some c:=rfl
def fill_one{c:List AV}{off:Nat}{v:AV}{r:List (Nat×Nat×AV)}(h2:v.one=true)(h3:off+1<=c.length):fillA c ((off,1,v)::r)=fillA (c.set off v) r:=by
 simp only[fillA,AV.cells_one h2];rw[if_pos ⟨rfl,h3⟩];rfl
def fill_agg{c l:List AV}{off n:Nat}{r:List (Nat×Nat×AV)}(h2:l.length=n)(h3:off+n<=c.length):fillA c ((off,n,.agg l)::r)=fillA (setL c off l) r:=by
 show(if l.length=n/\off+n<=c.length then fillA (setL c off l) r else none)=_;rw[if_pos ⟨h2,h3⟩]
def bsl_ok{es n N:Nat}{c:List AV}(h1:c.all AV.one=true)(h2:c.length=n*es)(h3:1<=n):bslF es n (some c) N=some (.slice N 0 n es,.push (.cells c true true)):=by
 have:Nat.beq n 0=false:=by cases n with|zero=>omega|succ n=>rfl
 simp only[bslF];rw[if_pos ⟨h1,h2⟩,this];rfl
def bsl_z{es N:Nat}:bslF es 0 (some []) N=some (.slice N 0 0 es,.push (.cells [] true false)):=by
 simp only[bslF];rw[if_pos ⟨rfl,by simp⟩];rfl
def m_map0{f:Nat×Opd->Nat×Nat×AV}:List.map f []=[]:=rfl
def m_mapc{f:Nat×Opd->Nat×Nat×AV}{a:Nat×Opd}{l:List (Nat×Opd)}:List.map f (a::l)=f a::l.map f:=rfl
def n_map0{f:Nat×Nat×Opd->Nat×Nat×AV}:List.map f []=[]:=rfl
def n_mapc{f:Nat×Nat×Opd->Nat×Nat×AV}{a:Nat×Nat×Opd}{l:List (Nat×Nat×Opd)}:List.map f (a::l)=f a::l.map f:=rfl
def l_drop0{l:List AV}:l.drop 0=l:=rfl
def l_drops{a:AV}{l:List AV}{n:Nat}:(a::l).drop (n+1)=l.drop n:=rfl
def l_take0{l:List AV}:l.take 0=[]:=by simp
def l_takes{a:AV}{l:List AV}{n:Nat}:(a::l).take (n+1)=a::l.take n:=rfl
def l_get0{a:AV}{l:List AV}:(a::l)[0]? =some a:=rfl
def l_gets{a:AV}{l:List AV}{n:Nat}:(a::l)[n+1]? =l[n]? :=rfl
abbrev intRow(x:Int):List AV:=[.int .i64 x]
def isSl_ints{X:AHeap}(l:List Int):IsSl (X++[.cells (l.map (AV.int .i64)) true true]) (.slice X.length 0 l.length 1) 1 (l.map intRow):=by
 have hf:(l.map intRow).flatten=l.map (AV.int .i64):=by induction l with
  |nil=>rfl
  |cons x xs ih=>simp[intRow]at ih ⊢;exact ih
 have h1:(l.map intRow).length=l.length:=by simp
 rw[<-h1];exact .mk (by simp;exact⟨rfl,rfl,rfl⟩) (by rw[hf,Nat.mul_one,h1,List.drop_zero];exact List.take_of_length_le (by simp)) (by simp) (by simp[intRow])
section
variable {h:AHeap}{s:AV}{es:Nat}{cs:List (List AV)}
def IsSl.loadE(hs:IsSl h s es cs){k:AHeap}{i:Nat}(e:Ext h k)(hi:i<cs.length):loadF (some es) (.ptr s.sb (s.so+i*es)) (λb=>k[b]?)=some (.agg cs[i],.keep):=(hs.ext e).load hi
def IsSl.loadfE(hs:IsSl h s es cs){k:AHeap}{i off:Nat}(e:Ext h k)(hi:i<cs.length){x:AV}(hx:cs[i][off]? =some x):loadF none (.ptr s.sb (s.so+i*es+off)) (λb=>k[b]?)=some (x,.keep):=(hs.ext e).loadf hi hx
def IsSl.load0E(hs:IsSl h s es cs){k:AHeap}{i:Nat}(e:Ext h k)(hi:i<cs.length){x:AV}(hx:cs[i][0]? =some x):loadF none (.ptr s.sb (s.so+i*es)) (λb=>k[b]?)=some (x,.keep):=(hs.ext e).loadf (off:=0) hi hx
end
def hset:=A4 (A24 @ld_0 @st_0 @nx_0 @set_0 @ld_1 @st_1 @nx_1 @set_1 @ld_2 @st_2 @nx_2 @set_2 @ld_3 @st_3 @nx_3 @set_3 @ld_4 @st_4 @nx_4 @set_4 @ld_5 @st_5 @nx_5 @set_5) (A24 @ld_6 @st_6 @nx_6 @set_6 @ld_7 @st_7 @nx_7 @set_7 @ld_8 @st_8 @nx_8 @set_8 @ld_9 @st_9 @nx_9 @set_9 @ld_10 @st_10 @nx_10 @set_10 @ld_11 @st_11 @nx_11 @set_11) (A24 @ld_12 @st_12 @nx_12 @set_12 @ld_13 @st_13 @nx_13 @set_13 @ld_14 @st_14 @nx_14 @set_14 @stepT_nexts @WP_rstrF @rstr_s @ldB_n @ldB_s @stB_agg @stB_one @setL_nil @setL_cons @zrep_0 @zrep_s @fill_nil) (A14 @fill_one @fill_agg @bsl_ok @bsl_z @m_map0 @m_mapc @n_map0 @n_mapc @l_drop0 @l_drops @l_take0 @l_takes @l_get0 @l_gets)
def eset:
  (∀{h:AHeap},Ext h (h)=True)/\
  (∀{h a:AHeap},Ext h (h++a)=True)/\
  (∀{h a b:AHeap},Ext h (h++a++b)=True)/\
  (∀{h a b c:AHeap},Ext h (h++a++b++c)=True)/\
  (∀{h a b c d:AHeap},Ext h (h++a++b++c++d)=True)/\
  (∀{h a b c d e:AHeap},Ext h (h++a++b++c++d++e)=True)/\
  (∀{h a b c d e f:AHeap},Ext h (h++a++b++c++d++e++f)=True)/\
  (∀{h a b c d e f g:AHeap},Ext h (h++a++b++c++d++e++f++g)=True)/\
  (∀{h a b c d e f g i:AHeap},Ext h (h++a++b++c++d++e++f++g++i)=True)/\
  (∀{h a b c d e f g i j:AHeap},Ext h (h++a++b++c++d++e++f++g++i++j)=True):=
 ⟨@ext_0,@ext_1,@ext_2,@ext_3,@ext_4,@ext_5,@ext_6,@ext_7,@ext_8,@ext_9⟩
end Go.Abs
namespace Go.Abs
def ldV:Option AV->Option (AV×Eff)
 |some x=>some (x,.keep)
 |none=>none
def ldV_s{x}:ldV (some x)=some (x,.keep):=rfl
def ldB_v{o c mu tl}:ldB none o (.cells c mu tl)=ldV c[o]? :=rfl
def elp(s:AV)(es i:Nat):AV:=.ptr s.sb (s.so+i*es)
def elf(s:AV)(es i off:Nat):AV:=.ptr s.sb (s.so+i*es+off)
def fadr_el{s es i off}:fadrF off (elp s es i)=some (elf s es i off):=rfl
section
variable {α:Type}{row:α->List AV}{L:List α}{h k:AHeap}{s:AV}{es:Nat}
def IsSl.lenm(hs:IsSl h s es (L.map row))(G:Nat->Option ABlk):Go.Abs.lenG .sl G s=some L.length:=by
 rw[hs.lenG G,List.length_map]
def IsSl.ixm(hs:IsSl h s es (L.map row)){i:Nat}{kk}(hi:i<L.length):iadrF es s (.int kk (i:Int))=some (elp s es i,.keep):=by
 rw[hs.iadr (by omega) (by rw[List.length_map];omega),Int.toNat_natCast];rfl
def IsSl.ix0(hs:IsSl h s es (L.map row)){kk}(hi:0<L.length):iadrF es s (.int kk 0)=some (elp s es 0,.keep):=hs.ixm hi
def IsSl.ldm(hs:IsSl h s es (L.map row)){i}(hi:i<L.length)(e:Ext h k):loadF (some es) (elp s es i) (λb=>k[b]?)=some (.agg (row L[i]),.keep):=by
 rw[elp,hs.loadE e (by rw[List.length_map];exact hi),List.getElem_map]
def IsSl.lfm(hs:IsSl h s es (L.map row)){i off x}(hi:i<L.length)(hx:(row L[i])[off]? =some x)(e:Ext h k):loadF none (elf s es i off) (λb=>k[b]?)=some (x,.keep):=
 hs.loadfE e (by rw[List.length_map];exact hi) (by rw[List.getElem_map];exact hx)
def IsSl.l1m(hs:IsSl h s es (L.map row)){i x}(hi:i<L.length)(hx:(row L[i])[0]? =some x)(e:Ext h k):loadF none (elp s es i) (λb=>k[b]?)=some (x,.keep):=
 hs.load0E e (by rw[List.length_map];exact hi) (by rw[List.getElem_map];exact hx)
def IsSl.slm(hs:IsSl h s es (L.map row)){lo hi l u}(hb:bnds lo hi L.length=some (l,u)):∃s',slF es s lo hi=some (s',.keep)/\IsSl h s' es (((L.drop l).take (u-l)).map row):=by
 obtain⟨s',h1,h2⟩:=hs.sl (lo:=lo) (hi:=hi) (by rw[List.length_map];exact hb);exact⟨s',h1,by rw[List.map_take,List.map_drop];exact h2⟩
end
def bnds_hi{n k:Nat}{kk}(hk:k<=n):bnds none (some (.int kk (k:Int))) n=some (0,k):=by
 simp only[bnds,loN,hiN];rw[if_pos (by omega)];simp
def bnds_lo{n k:Nat}{kk}(hk:k<=n):bnds (some (.int kk (k:Int))) none n=some (k,n):=by
 simp only[bnds,loN,hiN];rw[if_pos (by omega)];simp
def wrapN{n:Nat}(h:n+1<2^63):IntKind.i64.wrap ((n:Int)+1)=((n+1:Nat):Int):=by rw[wrap_in (by omega) (by omega)];rfl
def lv:Option (AV×Eff)->Option AV
 |some (v,_)=>some v
 |none=>none
def lv_s{v e}:lv (some (v,e))=some v:=rfl
def resVal_l{ts h a n}:resVal ts h (a,some n)=lv (loadF n (slot ts a) (λb=>h[b]?)):=by
 simp only[resVal,fnK,val,slot];cases ts.getD a undefA with
 |ptr b o=>
  simp only[loadF];cases h[b]? with
  |none=>rfl
  |some k=>
   cases k with
   |cells c mu tl=>
    cases n with
    |none=>simp only;cases c[o]? <;>rfl
    |some n=>simp only;by_cases hc:o+n<=c.length
             ·rw[if_pos hc,if_pos hc];rfl
             ·rw[if_neg hc,if_neg hc];rfl
   |_=>rfl
 |_=>rfl
def tup2:Option AV->Option AV->Option AV
 |some a,some b=>some (.tup [a,b])
 |_,_=>none
def tup3:Option AV->Option AV->Option AV->Option AV
 |some a,some b,some c=>some (.tup [a,b,c])
 |_,_,_=>none
def tup2_s{a b}:tup2 (some a) (some b)=some (.tup [a,b]):=rfl
def tup3_s{a b c}:tup3 (some a) (some b) (some c)=some (.tup [a,b,c]):=rfl
def resAll_v1{ts h r}:resAll [r] ts h=resVal ts h r:=by
 simp only[resAll,resVals];cases resVal ts h r<;>rfl
def resAll_v2{ts h r s}:resAll [r,s] ts h=tup2 (resVal ts h r) (resVal ts h s):=by
 simp only[resAll,resVals];cases resVal ts h r<;>cases resVal ts h s<;>rfl
def resAll_v3{ts h r s t}:resAll [r,s,t] ts h=tup3 (resVal ts h r) (resVal ts h s) (resVal ts h t):=by
 simp only[resAll,resVals];cases resVal ts h r<;>cases resVal ts h s<;>cases resVal ts h t<;>rfl
def resVal_n{ts h a}:resVal ts h (a,none)=some (slot ts a):=rfl
def resAll_L:∀{ts}{h}{x}{nx},resAll [(x,some nx)] ts h=lv (loadF nx (slot ts x) (λb=>h[b]?)):=by
 intros;rw[resAll_v1];simp only[resVal_l,resVal_n]
def resAll_NL:∀{ts}{h}{x y}{ny},resAll [(x,none),(y,some ny)] ts h=tup2 (some (slot ts x)) (lv (loadF ny (slot ts y) (λb=>h[b]?))):=by
 intros;rw[resAll_v2];simp only[resVal_l,resVal_n]
def resAll_LN:∀{ts}{h}{x y}{nx},resAll [(x,some nx),(y,none)] ts h=tup2 (lv (loadF nx (slot ts x) (λb=>h[b]?))) (some (slot ts y)):=by
 intros;rw[resAll_v2];simp only[resVal_l,resVal_n]
def resAll_LL:∀{ts}{h}{x y}{nx ny},resAll [(x,some nx),(y,some ny)] ts h=tup2 (lv (loadF nx (slot ts x) (λb=>h[b]?))) (lv (loadF ny (slot ts y) (λb=>h[b]?))):=by
 intros;rw[resAll_v2];simp only[resVal_l,resVal_n]
def resAll_NNL:∀{ts}{h}{x y z}{nz},resAll [(x,none),(y,none),(z,some nz)] ts h=tup3 (some (slot ts x)) (some (slot ts y)) (lv (loadF nz (slot ts z) (λb=>h[b]?))):=by
 intros;rw[resAll_v3];simp only[resVal_l,resVal_n]
def resAll_NLN:∀{ts}{h}{x y z}{ny},resAll [(x,none),(y,some ny),(z,none)] ts h=tup3 (some (slot ts x)) (lv (loadF ny (slot ts y) (λb=>h[b]?))) (some (slot ts z)):=by
 intros;rw[resAll_v3];simp only[resVal_l,resVal_n]
def resAll_NLL:∀{ts}{h}{x y z}{ny nz},resAll [(x,none),(y,some ny),(z,some nz)] ts h=tup3 (some (slot ts x)) (lv (loadF ny (slot ts y) (λb=>h[b]?))) (lv (loadF nz (slot ts z) (λb=>h[b]?))):=by
 intros;rw[resAll_v3];simp only[resVal_l,resVal_n]
def resAll_LNN:∀{ts}{h}{x y z}{nx},resAll [(x,some nx),(y,none),(z,none)] ts h=tup3 (lv (loadF nx (slot ts x) (λb=>h[b]?))) (some (slot ts y)) (some (slot ts z)):=by
 intros;rw[resAll_v3];simp only[resVal_l,resVal_n]
def resAll_LNL:∀{ts}{h}{x y z}{nx nz},resAll [(x,some nx),(y,none),(z,some nz)] ts h=tup3 (lv (loadF nx (slot ts x) (λb=>h[b]?))) (some (slot ts y)) (lv (loadF nz (slot ts z) (λb=>h[b]?))):=by
 intros;rw[resAll_v3];simp only[resVal_l,resVal_n]
def resAll_LLN:∀{ts}{h}{x y z}{nx ny},resAll [(x,some nx),(y,some ny),(z,none)] ts h=tup3 (lv (loadF nx (slot ts x) (λb=>h[b]?))) (lv (loadF ny (slot ts y) (λb=>h[b]?))) (some (slot ts z)):=by
 intros;rw[resAll_v3];simp only[resVal_l,resVal_n]
def resAll_LLL:∀{ts}{h}{x y z}{nx ny nz},resAll [(x,some nx),(y,some ny),(z,some nz)] ts h=tup3 (lv (loadF nx (slot ts x) (λb=>h[b]?))) (lv (loadF ny (slot ts y) (λb=>h[b]?))) (lv (loadF nz (slot ts z) (λb=>h[b]?))):=by
 intros;rw[resAll_v3];simp only[resVal_l,resVal_n]
def eqvF_f{b}:eqvF false (some b)=some (.bool b):=rfl
def eqvF_t{b}:eqvF true (some b)=some (.bool !b):=rfl
def andO(b:Bool)(o:Option Bool):Option Bool:=
 match b with
 |true=>o
 |false=>some false
def andO_s{b c}:andO b (some c)=some (b&&c):=by cases b<;>rfl
def eqc_i{k a b ks xs ys}:eqCells (.i::ks) (.int k a::xs) (.int k b::ys)=andO (decide (a=b)) (eqCells ks xs ys):=by
 by_cases hab:a=b
 ·simp[eqCells,eqQ,eqCell,hab,andO]
 ·have:(a==b)=false:=by simp[hab]
  simp[eqCells,eqQ,eqCell,hab,andO,this]
def eqc_s{a b ks xs ys}:eqCells (.s::ks) (.str a::xs) (.str b::ys)=andO (decide (a=b)) (eqCells ks xs ys):=by
 by_cases hab:a=b
 ·simp[eqCells,eqQ,eqCell,hab,andO]
 ·have:(a==b)=false:=by simp[hab]
  simp[eqCells,eqQ,eqCell,hab,andO,this]
def eqc_b{a b ks xs ys}:eqCells (.b::ks) (.bool a::xs) (.bool b::ys)=andO (a==b) (eqCells ks xs ys):=by
 cases a<;>cases b<;>rfl
def eqc_n:eqCells [] [] []=some true:=rfl
def eqA{ks xs ys}(h1:xs.length=ks.length)(h2:ys.length=ks.length):eqvK (.agg ks) (.agg xs) (.agg ys)=eqCells ks xs ys:=by
 simp only[eqvK,eqAgg];rw[if_pos ⟨h1,h2⟩]
def eq_1b{a b}:eqvK (.one .b) (.bool a) (.bool b)=some (a==b):=rfl
def ck_lenc{a:CK}{l:List CK}:(a::l).length=l.length+1:=rfl
def ck_len0:([] :List CK).length=0:=rfl
def Fr.lt{N h s es cs}(hs:Fr N h s es cs){b o n e}(hb:s=.slice b o n e):N<=b/\b<h.length:=by
 cases hs with
 |nil=>cases hb
 |mk hN h1 he=>cases hb;exact⟨hN,(List.getElem?_eq_some_iff.1 h1).1⟩
def IsSl.lt{h s es cs}(hs:IsSl h s es cs){b o n e}(hb:s=.slice b o n e):b<h.length:=by
 cases hs with
 |nil=>cases hb
 |mk h1 hf ho he=>cases hb;exact(List.getElem?_eq_some_iff.1 h1).1
def Fr.swap{A B g s es cs}(hs:Fr A.length (A++g) s es cs)(hl:B.length=A.length):Fr A.length (B++g) s es cs:=by
 cases hs with
 |nil=>exact .nil
 | @mk _ _ _ tl hN h1 he'=>
  refine .mk (tl:=tl) hN ?_ he';rw[List.getElem?_append_right (by omega)]at h1 ⊢;rw[hl];exact h1
def WR.app1{P ro ks ts Q h s y es cs ys h0 w d l}
  (hs:Fr h0.length h s es cs) (hy:IsSl h y es ys) (hes:0<es) (hne:0<ys.length) (hsz:(cs.length+ys.length)*w<=2^46) (he:Ext h0 h)
  (K:∀g,(h0++g).length=h.length+1->Fr h0.length (h0++g) (.slice h.length 0 (cs++ys).length es) es (cs++ys)->(∀b,b<h.length->(∀b0 o n e,s=.slice b0 o n e->b≠b0)->(h0++g)[b]? =h[b]?)->WP P ro l ks (put ts d (.slice h.length 0 (cs++ys).length es)) (h0++g) Q):
  WR P ro (appT es w s y (λb=>h[b]?) h.length) false d l ks ts h Q:=by
 have hrows:∀x∈cs++ys,x.length=es:=λx hx=>by
  rcases List.mem_append.1 hx with hx|hx
  ·exact hs.isSl.rows x hx
  ·exact hy.rows x hx
 have hk:¬ys.length=0:=by omega
 simp only[appT,hy.cellsG];cases hs with
 |nil=>
  simp only[List.length_nil,Nat.zero_add]at hsz;simp only[if_neg hk,if_pos hsz];rw[WR_push];have hx:=Fr.push (N:=h0.length) he.len ys hy.rows;obtain⟨g,rfl⟩:=he;have hK:=K (g++[.cells ys.flatten true true]) (by simp;omega);simp only[<-List.append_assoc,List.nil_append]at hK;exact hK hx λb hb _=>List.getElem?_append_left hb
 | @mk b _ _ tl hN hb hre=>
  have hcl:=flatten_len hre;cases tl with
  |false=>
   simp only[if_true,if_neg hk,if_pos hsz,hb,Nat.zero_add];rw[if_pos (by omega),WR_push,List.drop_zero];have hx:=Fr.push (h:=h) (N:=h0.length) (es:=es) he.len (cs++ys) hrows;simp only[List.length_append,List.flatten_append]at hx ⊢;obtain⟨g,rfl⟩:=he;have hK:=K (g++[.cells (cs.flatten++ys.flatten) true true]) (by simp;omega);simp only[<-List.append_assoc,List.length_append,List.flatten_append]at hK hx ⊢;exact hK hx λb hb _=>List.getElem?_append_left (by simpa using hb)
  |true=>
  simp only[if_true,if_neg hk,if_pos hsz,hb,Nat.zero_add];rw[if_pos (by omega),WR_setPush];have hbl:b<h.length:=(List.getElem?_eq_some_iff.1 hb).1;have hx:=Fr.push (h:=h.set b .dead) (N:=h0.length) (es:=es) (by simpa using he.len) (cs++ys) hrows;have hc:List.take (cs.length*es) (List.drop 0 cs.flatten)=cs.flatten:=by rw[List.drop_zero,<-hcl,List.take_length]
  rw[hc];obtain⟨g,rfl⟩:=he;have hset:(h0++g).set b .dead++[ABlk.cells (cs.flatten++ys.flatten) true true]=h0++(g.set (b-h0.length) .dead++[ABlk.cells (cs.flatten++ys.flatten) true true]):=by
   rw[List.set_append_right _ _ hN,List.append_assoc]
  have hK:=K (g.set (b-h0.length) .dead++[.cells (cs.flatten++ys.flatten) true true]) (by simp;omega);rw[<-hset]at hK;simp only[List.length_set,List.flatten_append,List.length_append]at hx hK ⊢;refine hK hx ?_;intro i hi hne;have:=hne b 0 _ _ rfl;rw[List.getElem?_append_left (by simpa using hi),List.getElem?_set_ne (Ne.symm this)]
def one_i{k n}:AV.one (.int k n)=true:=rfl
def one_b{b}:AV.one (.bool b)=true:=rfl
def one_s{b}:AV.one (.str b)=true:=rfl
def one_p{b o}:AV.one (.ptr b o)=true:=rfl
def one_l{b o n e}:AV.one (.slice b o n e)=true:=rfl
def one_n:AV.one .nilSlice=true:=rfl
def one_f{f a c}:AV.one (.func f a c)=true:=rfl
def all_c{a l}:(a::l).all AV.one=(a.one&&l.all AV.one):=rfl
def all_n:([] :List AV).all AV.one=true:=rfl
def IOp.o(n:Nat)(k:OpK):IOp:=⟨some n,k,none,false⟩
def IOp.x(k:OpK):IOp:=⟨none,k,none,false⟩
def IOp.m(n i:Nat):IOp:=⟨some n,.mov (.t i),none,false⟩
def IOp.y(n:Nat)(k:OpK):IOp:=⟨some n,k,none,true⟩
def IOp.l(n i:Nat):IOp:=⟨some n,.load none (.t i),none,false⟩
def IOp.a(n o i:Nat):IOp:=⟨some n,.fadr o (.t i),none,false⟩
def IOp.c(n f:Nat)(l:List Opd):IOp:=⟨some n,.call (.f f) l,none,false⟩
def IOp.b(n:Nat)(k:BinOp)(x y:Opd):IOp:=⟨some n,.bin k x y,none,false⟩
def IOp.e(n i j:Nat):IOp:=⟨some n,.ext (.t i) j,none,false⟩
def IOp.s(w i j:Nat):IOp:=⟨none,.store w (.t i) (.t j),none,false⟩
def IOp.r(n w i:Nat):IOp:=⟨some n,.load (some w) (.t i),none,false⟩
def IOp.p(n i:Nat):IOp:=⟨some n,.box (.t i),none,false⟩
def IOp.u(n:Nat)(k:BinOp)(i j:Nat):IOp:=⟨some n,.bin k (.t i) (.t j),none,false⟩
def IOp.h(n w i j:Nat):IOp:=⟨some n,.iadr w (.t i) (.t j),none,false⟩
def IOp.d(n i j:Nat):IOp:=⟨some n,.pick (.t i) (.t j) (.c (.bool false)),none,false⟩
def IOp.f(n i j:Nat):IOp:=⟨some n,.pick (.t i) (.c (.bool true)) (.t j),none,false⟩
def IOp.n(n i:Nat):IOp:=⟨some n,.len .sl (.t i),none,false⟩
def Opd.n(k:Int):Opd:=.c (.int .i64 k)
def ICode.s(l:List IOp)(b:ICode):ICode:=.seq (.ops l) b
def ICode.r(l:List IOp):ICode:=.seq (.ops l) .ret
def IOp.j(n i:Nat):IOp:=⟨some n,.load none (.t i),none,true⟩
def IOp.w(n i:Nat):IOp:=⟨some n,.mov (.t i),none,true⟩
def IOp.t(n c:Nat)(b:Bool)(i:Nat):IOp:=⟨some n,.mov (.t i),some (c,b),false⟩
def IOp.v(n:Nat)(k:BinOp)(i:Nat)(y:Opd):IOp:=⟨some n,.bin k (.t i) y,none,false⟩
def Opd.T:Opd:=.c (.bool true)
def Opd.F:Opd:=.c (.bool false)
def ICode.j(n:Nat)(l:List IOp):ICode:=.cond (.t n) (.seq (.ops l) .ret) .skip
def ICode.i(n:Nat)(a b:ICode):ICode:=.cond (.t n) a b
def IOp.g(n c:Nat)(b:Bool)(k:OpK):IOp:=⟨some n,k,some (c,b),false⟩
def Opd.z:Opd:=.c (.int .i64 0)
def Opd.w:Opd:=.c (.int .i64 1)
def ds_0:∀{n i},IOp.m n i=⟨some n,.mov (.t i),none,false⟩:=rfl
def ds_1:∀{n c}{b}{k},IOp.g n c b k=⟨some n,k,some (c,b),false⟩:=rfl
def ds_2:∀{n}{k},IOp.o n k=⟨some n,k,none,false⟩:=rfl
def ds_3:∀{k},IOp.x k=⟨none,k,none,false⟩:=rfl
def ds_4:(Opd.z=.c (.int .i64 0)):=rfl
def ds_5:(Opd.w=.c (.int .i64 1)):=rfl
def dt_q:∀{n}{k},IOp.y n k=⟨some n,k,none,true⟩:=rfl
def dt_l:∀{n i},IOp.l n i=⟨some n,.load none (.t i),none,false⟩:=rfl
def dt_a:∀{n o i},IOp.a n o i=⟨some n,.fadr o (.t i),none,false⟩:=rfl
def dt_c:∀{n f}{l},IOp.c n f l=⟨some n,.call (.f f) l,none,false⟩:=rfl
def dt_b:∀{n}{k}{x y},IOp.b n k x y=⟨some n,.bin k x y,none,false⟩:=rfl
def dt_e:∀{n i j},IOp.e n i j=⟨some n,.ext (.t i) j,none,false⟩:=rfl
def dt_s:∀{w i j},IOp.s w i j=⟨none,.store w (.t i) (.t j),none,false⟩:=rfl
def dt_r:∀{n w i},IOp.r n w i=⟨some n,.load (some w) (.t i),none,false⟩:=rfl
def dt_p:∀{n i},IOp.p n i=⟨some n,.box (.t i),none,false⟩:=rfl
def dt_u:∀{n}{k}{i j},IOp.u n k i j=⟨some n,.bin k (.t i) (.t j),none,false⟩:=rfl
def dt_i:∀{n}{a b},ICode.i n a b=.cond (.t n) a b:=rfl
def du_IOh:∀{n w i j:Nat},IOp.h n w i j=⟨some n,.iadr w (.t i) (.t j),none,false⟩:=rfl
def du_IOd:∀{n i j:Nat},IOp.d n i j=⟨some n,.pick (.t i) (.t j) (.c (.bool false)),none,false⟩:=rfl
def du_IOf:∀{n i j:Nat},IOp.f n i j=⟨some n,.pick (.t i) (.c (.bool true)) (.t j),none,false⟩:=rfl
def du_IOn:∀{n i:Nat},IOp.n n i=⟨some n,.len .sl (.t i),none,false⟩:=rfl
def du_Opn:∀{k:Int},Opd.n k=.c (.int .i64 k):=rfl
def du_ICs:∀{l:List IOp}{b:ICode},ICode.s l b=.seq (.ops l) b:=rfl
def du_ICr:∀{l:List IOp},ICode.r l=.seq (.ops l) .ret:=rfl
def du_ICj:∀{n:Nat}{l:List IOp},ICode.j n l=.cond (.t n) (.seq (.ops l) .ret) .skip:=rfl
def dv_IOj:∀{n i:Nat},IOp.j n i=⟨some n,.load none (.t i),none,true⟩:=rfl
def dv_IOw:∀{n i:Nat},IOp.w n i=⟨some n,.mov (.t i),none,true⟩:=rfl
def dv_IOt:∀{n c:Nat}{b:Bool}{i:Nat},IOp.t n c b i=⟨some n,.mov (.t i),some (c,b),false⟩:=rfl
def dv_IOv:∀{n:Nat}{k:BinOp}{i:Nat}{y:Opd},IOp.v n k i y=⟨some n,.bin k (.t i) y,none,false⟩:=rfl
def dv_T:Opd.T=.c (.bool true):=rfl
def dv_F:Opd.F=.c (.bool false):=rfl
def uset:=A8 @dv_T @dv_F @dv_IOj @dv_IOw @dv_IOt @dv_IOv @du_ICj (A24 @du_IOh @du_IOd @du_IOf @du_IOn @du_Opn @du_ICs @du_ICr @dt_q @dt_l @dt_a @dt_c @dt_b @dt_e @dt_s @dt_r @dt_p @dt_u @dt_i @ds_0 @ds_1 @ds_2 @ds_3 @ds_4 @ds_5)
def dset:=A3 uset (A18 @Nat.zero_add @ldV_s @ldB_v @lv_s @tup2_s @tup3_s @resAll_L @resAll_NL @resAll_LN @resAll_LL @resAll_NNL @resAll_NLN @resAll_NLL @resAll_LNN @resAll_LNL @resAll_LLN @resAll_LLL @eqvF_f) (A22 @eqvF_t @andO_s @eqc_i @eqc_s @eqc_b @eqc_n @eqA @eq_1b @ck_lenc @ck_len0 @fadr_el @one_i @one_b @one_s @one_p @one_l @one_n @one_f @all_c @all_n @Bool.true_and @box_agg)
def inS(o:Option AV)(X:Prop):Prop:=
 match o with
 |some _=>X
 |none=>False
def bset:
  (∀{P}{ro}{ks}{ts}{h}{Q}{q}{l}{n i}{x},WP P ro ({dst:=some i,k:=.boxn n x,gd:=none,q:=q} ::l) ks ts h Q=inS ts[i]? (WR P ro (boxnF n (val ts x) h.length) q (some i) l ks ts h Q))/\
  (∀{a:AV}{X:Prop},inS (some a) X=X)/\
  (∀{k:IntKind}{z:Int}{N:Nat},boxnF 1 (.int k z) N=some (.ptr N 0,.push (.cells [.int k z] true false)))/\
  (∀{b:Bool}{N:Nat},boxnF 1 (.bool b) N=some (.ptr N 0,.push (.cells [.bool b] true false)))/\
  (∀{b:List UInt8}{N:Nat},boxnF 1 (.str b) N=some (.ptr N 0,.push (.cells [.str b] true false)))/\
  (∀{N:Nat},boxF .nilSlice N=some (.ptr N 0,.push (.cells [.nilSlice] true false)))/\
  (∀{v:AV}{N:Nat}(_:v.one=true),boxF v N=some (.ptr N 0,.push (.cells [v] true false)))/\
  (∀{v:AV}{N:Nat}(_:v.one=true),boxnF 1 v N=some (.ptr N 0,.push (.cells [v] true false)))/\
  (∀{l:List AV}{n N:Nat}(_:l.all AV.one=true) (_:l.length=n),boxnF n (.agg l) N=some (.ptr N 0,.push (.cells l true false))):=by
 refine⟨?_,rfl,rfl,rfl,rfl,rfl,?_,?_,?_⟩
 ·intro P ro ks ts h Q q l n i x;rw[WP_boxn];by_cases hi:i<ts.length
  ·rw[List.getElem?_eq_getElem hi];simp[inS,hi]
  ·rw[List.getElem?_eq_none (by omega)];simp[inS,hi]
 ·intro v N h;simp only[boxF,AV.cells_one h];rw[if_pos (by simp[h])]
 ·intro v N h;simp only[boxnF,AV.cells_one h];rw[if_pos ⟨by simp[h],rfl⟩]
 ·intro l n N h1 h2;unfold boxnF;exact if_pos ⟨h1,h2⟩
end Go.Abs
namespace Go.Abs
def fn2:AFunc:=⟨1,0,[],(.ops [.c 0 1 []])⟩
def fn3:AFunc:=⟨230,1,[(2,none)],(.s [.p 1 0,.o 2 (.mov .F)] (.s [.y 23 (.iada 4 1 (.t 1) .z),.j 24 23,.y 25 (.conv (.i2i .i64) (.t 24)),.y 26 (.bin .rem (.t 25) (.n 8)),.y 27 (.bin .add .w (.t 26)),.y 28 (.iada 4 1 (.t 1) .w),.j 29 28,.y 30 (.conv (.i2i .i64) (.t 29)),.y 31 (.bin .rem (.t 30) (.n 20)),.y 32 (.bin .add .w (.t 31)),.w 3 27,.m 4 32] (.s [.m 33 4,.o 34 (.iada 4 1 (.t 1) (.n 2)),.l 35 34,.o 36 (.conv (.i2i .i64) (.t 35)),.v 37 .rem 36 (.n 10),.u 38 .add 33 37,.m 5 38] (.s [.o 39 (.iada 4 1 (.t 1) (.n 3)),.l 40 39,.o 41 (.conv (.i2i .i64) (.t 40)),.m 42 3,.u 43 .rem 41 42,.m 6 43] (.s [.o 44 (.build [.str [],.str [],.str [],.str [],.str [],.str [],.str [],.str []] [(0,1,(.c (.str [97]))),(1,1,(.c (.str [98]))),(2,1,(.c (.str [99]))),(3,1,(.c (.str [100]))),(4,1,(.c (.str [101]))),(5,1,(.c (.str [102]))),(6,1,(.c (.str [103]))),(7,1,(.c (.str [104])))]),.o 7 (.box (.c (.agg [.str [],.str [],.str [],.str [],.str [],.str [],.str [],.str []]))),.s 8 7 44] (.s [.o 8 (.box (.c .nilSlice)),.o 9 (.box (.c .nilSlice))] (.seq (.s [.m 45 3,.o 46 (.mov .z)] (.block 0 (.loop (.s [.u 47 .lss 46 45] (.seq (.i 47 .skip (.exit 0)) (.seq (.block 1 (.s [.m 48 46,.m 10 48] (.s [.o 49 (.bslice 1 2 [.nilPtr] [(0,.t 8),(1,.t 9)]),.n 50 49,.o 51 (.mov .z)] (.block 2 (.loop (.s [.u 52 .lss 51 50] (.seq (.i 52 .skip (.exit 2)) (.seq (.block 3 (.s [.h 53 1 49 51,.l 54 53,.m 12 54] (.seq (.s [.m 55 12,.m 56 10,.m 57 4,.u 58 .mul 56 57,.m 59 5,.o 60 (.bslice 1 2 [.int .i64 0] [(0,.t 58),(1,.t 59)]),.m 61 10,.o 62 (.iada 8 1 (.t 7) (.t 61)),.l 63 62,.o 64 (.bslice 1 1 [.str []] [(0,.t 63)]),.o 65 (.call (.f 5) [.t 55,(.c (.str [116,97,112,101])),.t 60,.t 64]),.o 66 (.un .not (.t 65))] (.j 66 [.o 2 (.mov .F)])) (.seq (.s [.m 67 10,.v 68 .eql 67 .z] (.i 68 (.seq (.s [.m 69 12,.o 70 (.bslice 1 2 [.int .i64 0] [(0,.z),(1,.w)]),.o 71 (.bslice 1 1 [.str []] [(0,(.c (.str [108])))]),.o 72 (.call (.f 5) [.t 69,(.c (.str [108,105,110,101])),.t 70,.t 71]),.o 73 (.un .not (.t 72)),.m 74 73,.t 75 74 false 12,.g 76 74 false (.bslice 1 1 [.int .i64 0] [(0,.z)]),.g 77 74 false (.bslice 1 3 [.str []] [(0,(.c (.str [115]))),(1,(.c (.str [108]))),(2,(.c (.str [97])))]),.g 78 74 false (.call (.f 5) [.t 75,(.c (.str [115,104,111,116])),.t 76,.t 77]),.g 79 74 false (.un .not (.t 78)),.f 80 74 79] (.j 80 [.o 2 (.mov .F)])) (.exit 3)) .skip)) (.seq (.s [.m 81 12,.o 82 (.eqp false (.t 81) (.t 9)),.m 83 82,.t 84 83 true 10,.t 85 83 true 6,.g 86 83 true (.bin .eql (.t 84) (.t 85)),.d 87 83 86] (.i 87 (.exit 3) .skip)) (.s [.w 88 12,.w 89 10,.w 90 4,.y 91 (.bin .mul (.t 89) (.t 90)),.y 92 (.bslice 1 1 [.int .i64 0] [(0,.t 91)]),.w 93 10,.y 94 (.bin .sub (.t 93) .w),.y 95 (.iada 8 1 (.t 7) (.t 94)),.j 96 95,.w 97 10,.y 98 (.iada 8 1 (.t 7) (.t 97)),.j 99 98,.y 100 (.bslice 1 2 [.str []] [(0,.t 96),(1,.t 99)]),.o 101 (.call (.f 5) [.t 88,(.c (.str [99,111,112,121])),.t 92,.t 100]),.o 102 (.un .not (.t 101))] (.j 102 [.o 2 (.mov .F)]))))))) (.ops [.v 103 .add 51 .w,.m 51 103]))))))))) (.ops [.v 104 .add 46 .w,.m 46 104]))))))) (.s [.m 105 3,.v 106 .sub 105 .w,.m 107 4,.u 108 .mul 106 107,.m 109 5,.u 110 .add 108 109,.m 13 110] (.seq (.s [.l 111 8,.m 112 13,.o 113 (.build [.nilSlice,.int .i64 0] [(0,1,.t 111),(1,1,.t 112)]),.l 114 9,.o 115 (.mkmap),.m 116 13,.x (.mupd .b (.t 115) .T (.t 116)),.m 117 6,.v 118 .sub 117 .w,.m 119 4,.u 120 .mul 118 119,.m 121 5,.u 122 .add 120 121,.x (.mupd .b (.t 115) .F (.t 122)),.m 123 115,.m 124 6,.v 125 .eql 124 .z,.o 126 (.look .b (.int .i64 0) false (.t 123) (.t 125)),.o 127 (.build [.nilSlice,.int .i64 0] [(0,1,.t 114),(1,1,.t 126)]),.o 128 (.bslice 2 2 [.nilSlice,.int .i64 0] [(0,.t 113),(2,.t 127)]),.n 129 128,.o 130 (.mov .z)] (.block 4 (.loop (.s [.u 131 .lss 130 129] (.seq (.i 131 .skip (.exit 4)) (.seq (.block 5 (.s [.h 132 2 128 130,.r 133 2 132,.o 15 (.box (.c (.agg [.nilSlice,.int .i64 0]))),.s 2 15 133] (.seq (.opsM [.o 135 (.bslice 5 0 [.int .i64 0,.str [],.nilSlice,.nilSlice,.str []] []),.a 136 0 15,.j 137 136,.o 138 (.app 5 88 (.t 135) (.t 137)),.a 139 1 15,.j 140 139,.y 141 (.call (.f 6) [.t 138,(.c (.str [115])),.t 140]),.m 134 141,.e 142 134 0,.e 143 134 1,.m 16 142,.m 17 143]) (.seq (.opsM [.o 145 (.bslice 5 0 [.int .i64 0,.str [],.nilSlice,.nilSlice,.str []] []),.a 146 0 15,.j 147 146,.o 148 (.app 5 88 (.t 145) (.t 147)),.a 149 1 15,.j 150 149,.v 151 .add 150 .w,.y 152 (.call (.f 6) [.t 148,(.c (.str [115])),.t 151]),.m 144 152,.e 153 144 0,.e 154 144 1,.m 18 153,.m 19 154]) (.seq (.opsM [.o 156 (.bslice 5 0 [.int .i64 0,.str [],.nilSlice,.nilSlice,.str []] []),.a 157 0 15,.j 158 157,.o 159 (.app 5 88 (.t 156) (.t 158)),.a 160 1 15,.j 161 160,.v 162 .add 161 .w,.y 163 (.call (.f 7) [.t 159,.t 162]),.m 155 163,.e 164 155 0,.e 165 155 1,.m 20 164,.m 21 165]) (.s [.m 166 17,.v 167 .neq 166 .z,.m 168 167,.t 169 168 false 19,.g 170 168 false (.bin .neq (.t 169) .z),.f 171 168 170,.m 172 171,.t 173 172 false 21,.g 174 172 false (.bin .neq (.t 173) .z),.f 175 172 174,.m 176 175,.t 177 176 false 16,.g 178 176 false (.un .not (.t 177)),.f 179 176 178,.m 180 179,.t 181 180 false 18,.f 182 180 181,.m 183 182,.t 184 183 false 20,.g 185 183 false (.bslice 1 1 [.str []] [(0,(.c (.str [115])))]),.g 186 183 false (.call (.f 8) [.t 184,.t 185]),.g 187 183 false (.un .not (.t 186)),.f 188 183 187] (.j 188 [.o 2 (.mov .F)]))))))) (.ops [.v 189 .add 130 .w,.m 130 189]))))))) (.seq (.s [.m 190 3,.v 191 .lss 190 (.n 2)] (.j 191 [.c 192 9 [],.m 2 192])) (.s [.j 193 8,.y 194 (.len .sl (.t 193)),.y 195 (.bin .add (.t 194) .w),.w 196 3,.y 197 (.bin .sub (.t 196) (.n 2)),.y 198 (.iada 8 1 (.t 7) (.t 197)),.j 199 198,.w 200 3,.y 201 (.bin .sub (.t 200) .w),.y 202 (.iada 8 1 (.t 7) (.t 201)),.j 203 202,.y 204 (.bslice 1 2 [.str []] [(0,.t 199),(1,.t 203)]),.w 205 3,.y 206 (.bin .sub (.t 205) (.n 2)),.w 207 4,.y 208 (.bin .mul (.t 206) (.t 207)),.w 209 5,.y 210 (.bin .add (.t 208) (.t 209)),.y 211 (.bin .add (.t 210) .w),.y 212 (.bslice 1 1 [.int .i64 0] [(0,.t 211)]),.y 213 (.build [.int .i64 0,.str [],.nilSlice,.nilSlice,.str []] [(0,1,.t 195),(1,1,(.c (.str [99,111,112,121]))),(2,1,.t 204),(3,1,.t 212)]),.y 22 (.box (.c (.agg [.int .i64 0,.str [],.nilSlice,.nilSlice,.str []]))),.s 5 22 213] (.seq (.s [.a 214 3 22,.l 215 214,.o 216 (.iadr 1 (.t 215) .z),.l 217 216,.m 218 3,.v 219 .sub 218 .w,.m 220 4,.u 221 .mul 219 220,.u 222 .lss 217 221] (.j 222 [.o 2 (.mov .F)])) (.r [.l 223 8,.r 224 5 22,.c 225 10 [.t 223,.t 224],.v 226 .eql 225 (.n 30),.m 227 226,.g 228 227 true (.call (.f 9) []),.d 229 227 228,.m 2 229])))))))))))))⟩
def fn4:AFunc:=⟨180,2,[(4,none)],(.s [.o 4 (.mov .F)] (.seq (.s [.m 29 0,.c 30 11 [.t 29,.n 20],.o 31 (.un .not (.t 30))] (.j 31 [.c 32 9 [],.m 4 32])) (.s [.m 34 0,.c 35 12 [.t 34],.m 33 35,.e 36 33 0,.e 37 33 1,.e 38 33 2,.e 39 33 3,.o 6 (.box (.c (.agg [.int .i64 0,.nilSlice,.nilSlice,.nilSlice,.nilSlice,.nilSlice,.nilSlice]))),.m 5 36,.s 7 6 37,.m 7 38,.m 8 39] (.seq (.s [.m 40 8,.v 41 .neq 40 .z] (.j 41 [.c 42 9 [],.m 4 42])) (.s [.o 9 (.mov (.c .nilSlice))] (.seq (.s [.m 43 5,.n 44 43,.o 45 (.mov .z)] (.block 0 (.loop (.s [.u 46 .lss 45 44] (.seq (.i 46 .skip (.exit 0)) (.seq (.block 1 (.s [.m 47 45,.h 48 5 43 45,.r 49 5 48,.o 11 (.box (.c (.agg [.int .i64 0,.str [],.nilSlice,.nilSlice,.str []]))),.m 10 47,.s 5 11 49] (.ops [.w 50 9,.w 51 10,.y 52 (.bin .add (.t 51) .w),.y 53 (.fadr 1 (.t 11)),.j 54 53,.y 55 (.bslice 1 0 [.str []] []),.y 56 (.fadr 2 (.t 11)),.j 57 56,.y 58 (.app 1 16 (.t 55) (.t 57)),.y 59 (.bslice 1 0 [.int .i64 0] []),.y 60 (.fadr 3 (.t 11)),.j 61 60,.y 62 (.app 1 8 (.t 59) (.t 61)),.y 63 (.build [.int .i64 0,.str [],.nilSlice,.nilSlice,.str []] [(0,1,.t 52),(1,1,.t 54),(2,1,.t 58),(3,1,.t 62)]),.y 64 (.bslice 5 1 [.int .i64 0,.str [],.nilSlice,.nilSlice,.str []] [(0,.t 63)]),.o 65 (.app 5 88 (.t 50) (.t 64)),.m 9 65]))) (.ops [.v 66 .add 45 .w,.m 45 66]))))))) (.s [.o 12 (.mov (.c (.str [])))] (.seq (.s [.m 67 9,.n 68 67,.o 69 (.mov .z)] (.block 2 (.loop (.s [.u 70 .lss 69 68] (.seq (.i 70 .skip (.exit 2)) (.seq (.block 3 (.s [.m 71 69,.h 72 5 67 69,.r 73 5 72,.o 14 (.box (.c (.agg [.int .i64 0,.str [],.nilSlice,.nilSlice,.str []]))),.m 13 71,.s 5 14 73] (.seq (.s [.w 74 9,.w 75 13,.y 76 (.sl 5 (.t 74) none (some (.t 75))),.y 77 (.load (some 5) (.t 14)),.c 78 10 [.t 76,.t 77],.v 79 .neq 78 .z] (.j 79 [.o 4 (.mov .F)])) (.s [.m 81 12,.r 82 5 14,.c 83 13 [.t 81,.t 82],.m 80 83,.e 84 80 0,.e 85 80 1,.m 15 84,.m 16 85] (.seq (.s [.m 86 16,.v 87 .neq 86 .z] (.j 87 [.o 4 (.mov .F)])) (.ops [.m 88 15,.m 12 88])))))) (.ops [.v 89 .add 69 .w,.m 69 89]))))))) (.s [.m 91 0,.c 92 14 [.t 91],.m 90 92,.e 93 90 0,.e 94 90 1,.e 95 90 2,.o 17 (.box (.c (.agg [.int .i64 0,.nilSlice,.nilSlice,.nilSlice,.nilSlice,.nilSlice,.nilSlice]))),.s 7 17 93,.m 18 94,.m 19 95] (.s [.m 97 9,.c 98 14 [.t 97],.m 96 98,.e 99 96 0,.e 100 96 1,.e 101 96 2,.o 20 (.box (.c (.agg [.int .i64 0,.nilSlice,.nilSlice,.nilSlice,.nilSlice,.nilSlice,.nilSlice]))),.s 7 20 99,.m 21 100,.m 22 101] (.s [.m 103 0,.m 104 1,.o 105 (.conv (.i2i .i64) (.t 104)),.c 106 15 [.t 103,.t 105],.m 102 106,.e 107 102 0,.e 108 102 1,.o 23 (.box (.c (.agg [.int .i64 0,.nilSlice,.nilSlice,.nilSlice,.nilSlice,.nilSlice,.nilSlice]))),.s 7 23 107,.m 24 108] (.s [.m 110 9,.m 111 1,.o 112 (.conv (.i2i .i64) (.t 111)),.c 113 15 [.t 110,.t 112],.m 109 113,.e 114 109 0,.e 115 109 1,.o 25 (.box (.c (.agg [.int .i64 0,.nilSlice,.nilSlice,.nilSlice,.nilSlice,.nilSlice,.nilSlice]))),.s 7 25 114,.m 26 115] (.s [.m 117 12,.c 118 16 [.t 117],.m 116 118,.e 119 116 0,.e 120 116 1,.m 27 119,.m 28 120] (.seq (.s [.m 121 19,.v 122 .neq 121 .z,.m 123 122,.t 124 123 false 22,.g 125 123 false (.bin .neq (.t 124) .z),.f 126 123 125,.m 127 126,.t 128 127 false 24,.g 129 127 false (.bin .neq (.t 128) .z),.f 130 127 129,.m 131 130,.t 132 131 false 26,.g 133 131 false (.bin .neq (.t 132) .z),.f 134 131 133,.m 135 134,.t 136 135 false 28,.g 137 135 false (.bin .neq (.t 136) .z),.f 138 135 137,.m 139 138,.t 140 139 false 27,.g 141 139 false (.eqv false .nilP (.t 140) (.c .nilPtr)),.f 142 139 141,.m 143 142,⟨(some 144),.load (some 7) (.t 17),(some (143,false)),true⟩,⟨(some 145),.call (.f 18) [.t 144],(some (143,false)),true⟩,⟨(some 146),.load (some 7) (.t 6),(some (143,false)),true⟩,.g 147 143 false (.call (.f 17) [.t 145,.t 146]),.g 148 143 false (.un .not (.t 147)),.f 149 143 148,.m 150 149,⟨(some 151),.load (some 7) (.t 20),(some (150,false)),true⟩,⟨(some 152),.call (.f 18) [.t 151],(some (150,false)),true⟩,⟨(some 153),.load (some 7) (.t 6),(some (150,false)),true⟩,.g 154 150 false (.call (.f 17) [.t 152,.t 153]),.g 155 150 false (.un .not (.t 154)),.f 156 150 155,.m 157 156,⟨(some 158),.load (some 7) (.t 23),(some (157,false)),true⟩,⟨(some 159),.call (.f 18) [.t 158],(some (157,false)),true⟩,⟨(some 160),.load (some 7) (.t 25),(some (157,false)),true⟩,.g 161 157 false (.call (.f 18) [.t 160]),.g 162 157 false (.call (.f 17) [.t 159,.t 161]),.g 163 157 false (.un .not (.t 162)),.f 164 157 163,.m 165 164,⟨(some 166),.mov (.t 12),(some (165,false)),true⟩,⟨(some 167),.len .st (.t 166),(some (165,false)),true⟩,⟨(some 168),.mov (.t 0),(some (165,false)),true⟩,⟨(some 169),.call (.f 19) [.t 168],(some (165,false)),true⟩,⟨(some 170),.len .st (.t 169),(some (165,false)),true⟩,.g 171 165 false (.bin .gtr (.t 167) (.t 170)),.f 172 165 171] (.j 172 [.o 4 (.mov .F)])) (.r [.m 173 27,.c 174 21 [.t 173],.m 175 9,.c 176 20 [.t 174,.t 175],.m 177 176,.g 178 177 true (.call (.f 9) []),.d 179 177 178,.m 4 179])))))))))))))))⟩
def fn5:AFunc:=⟨35,4,[(8,none)],(.s [.o 8 (.mov .F)] (.s [.m 10 0,.o 11 (.nilchk (.t 10)),.l 12 11,.n 13 12,.v 14 .add 13 .w,.m 15 1,.m 16 3,.m 17 2,.o 18 (.build [.int .i64 0,.str [],.nilSlice,.nilSlice,.str []] [(0,1,.t 14),(1,1,.t 15),(2,1,.t 16),(3,1,.t 17)]),.o 9 (.box (.c (.agg [.int .i64 0,.str [],.nilSlice,.nilSlice,.str []]))),.s 5 9 18] (.seq (.seq (.opsM [.o 19 (.bslice 5 0 [.int .i64 0,.str [],.nilSlice,.nilSlice,.str []] []),.m 20 0,.o 21 (.nilchk (.t 20)),.j 22 21,.o 23 (.app 5 88 (.t 19) (.t 22)),.y 24 (.load (some 5) (.t 9)),.y 25 (.call (.f 10) [.t 23,.t 24]),.v 26 .neq 25 .z]) (.j 26 [.o 8 (.mov .F)])) (.s [.m 27 0,.m 28 0,.o 29 (.nilchk (.t 28)),.l 30 29,.r 31 5 9,.o 32 (.bslice 5 1 [.int .i64 0,.str [],.nilSlice,.nilSlice,.str []] [(0,.t 31)]),.o 33 (.app 5 88 (.t 30) (.t 32)),.o 34 (.nilchk (.t 27)),.s 1 34 33] (.r [.o 8 (.mov .T)])))))⟩
def fn6:AFunc:=⟨31,3,[(6,none),(7,none)],(.s [.o 6 (.mov .F),.o 7 (.mov .z)] (.s [.m 12 0,.m 13 1,.c 14 22 [.t 12,.n 2,.t 13],.m 11 14,.e 15 11 0,.e 16 11 1,.o 8 (.box (.c (.agg [.int .i64 0,.nilSlice,.nilSlice,.nilSlice,.nilSlice,.nilSlice,.nilSlice]))),.s 7 8 15,.m 9 16] (.seq (.s [.m 17 9,.m 18 2,.c 19 24 [.t 18],.o 20 (.bslice 1 2 [.int .i64 0] [(0,.t 17),(1,.t 19)]),.c 21 23 [.t 20],.m 10 21] (.s [.m 22 10,.v 23 .neq 22 .z] (.j 23 [.m 24 10,.o 6 (.mov .F),.m 7 24]))) (.r [.y 25 (.load (some 7) (.t 8)),.y 26 (.load (some 7) (.t 8)),.w 27 1,.y 28 (.call (.f 26) [.t 26,.t 27]),.w 29 2,.c 30 25 [.t 25,.t 28,.t 29],.m 6 30,.o 7 (.mov .z)]))))⟩
def fn7:AFunc:=⟨28,2,[(4,none),(5,none)],(.s [.o 4 (.mov (.c .nilSlice)),.o 5 (.mov .z)] (.s [.m 11 0,.c 12 27 [.t 11],.m 10 12,.e 13 10 0,.e 14 10 1,.e 15 10 2,.m 6 13,.m 7 14,.m 8 15] (.seq (.s [.m 16 8,.m 17 1,.c 18 24 [.t 17],.o 19 (.bslice 1 2 [.int .i64 0] [(0,.t 16),(1,.t 18)]),.c 20 23 [.t 19],.m 9 20] (.s [.m 21 9,.v 22 .neq 21 .z] (.j 22 [.m 23 9,.o 4 (.mov (.c .nilSlice)),.m 5 23]))) (.r [.m 24 6,.c 25 28 [.t 24],.m 26 1,.c 27 29 [.t 25,.t 26],.m 4 27,.o 5 (.mov .z)]))))⟩
def fn8:AFunc:=⟨26,2,[(4,none)],(.s [.o 4 (.mov .F)] (.seq (.s [.m 6 0,.n 7 6,.m 8 1,.n 9 8,.u 10 .neq 7 9] (.j 10 [.o 4 (.mov .F)])) (.seq (.s [.o 5 (.mov .z)] (.block 0 (.loop (.seq (.s [.m 11 5,.m 12 0,.n 13 12,.u 14 .lss 11 13] (.i 14 .skip (.exit 0))) (.seq (.block 1 (.s [.w 17 0,.w 18 5,.y 19 (.iadr 1 (.t 17) (.t 18)),.j 20 19,.w 21 1,.w 22 5,.y 23 (.iadr 1 (.t 21) (.t 22)),.j 24 23,.u 25 .neq 20 24] (.j 25 [.o 4 (.mov .F)]))) (.ops [.m 15 5,.v 16 .add 15 .w,.m 5 16])))))) (.r [.o 4 (.mov .T)]))))⟩
def fn9:AFunc:=⟨90,0,[(0,none)],(.s [.o 0 (.mov .F)] (.s [.o 9 (.bslice 1 3 [.flt .f32 0] [(0,(.c (.flt .f32 1065353216))),(1,(.c (.flt .f32 1073741824))),(2,(.c (.flt .f32 1082130432)))]),.o 10 (.build [.int .i64 0,.int .i64 0,.int .i64 0,.int .i64 0,.int .i64 0,.int .i64 0,.int .i64 0,.int .i64 0,.bool false,.nilSlice] [(9,1,.t 9)]),.o 11 (.build [.int .i64 0,.int .i64 0,.int .i64 0,.int .i64 0,.int .i64 0,.int .i64 0,.int .i64 0,.int .i64 0,.bool false,.nilSlice] [(8,1,.T)]),.o 12 (.bslice 10 2 [.int .i64 0,.int .i64 0,.int .i64 0,.int .i64 0,.int .i64 0,.int .i64 0,.int .i64 0,.int .i64 0,.bool false,.nilSlice] [(0,.t 10),(10,.t 11)]),.o 13 (.build [.str [],.nilSlice] [(0,1,(.c (.str [115]))),(1,1,.t 12)]),.o 14 (.bslice 1 2 [.int .i64 0] [(0,.w),(1,(.n (-1)))]),.c 15 30 [.t 13,.t 14],.m 8 15,.e 16 8 0,.e 17 8 1,.o 1 (.box (.c (.agg [.str [],.nilSlice]))),.s 2 1 16,.m 2 17] (.s [.c 19 31 [.n 2],.m 18 19,.e 20 18 0,.e 21 18 1,.o 3 (.box (.c .nilSlice)),.s 1 3 20,.m 4 21] (.seq (.s [.m 22 2,.v 23 .neq 22 .z,.m 24 23,.t 25 24 false 4,.g 26 24 false (.un .not (.t 25)),.f 27 24 26,.m 28 27,.g 29 28 false (.fadr 1 (.t 1)),.g 30 28 false (.load none (.t 29)),.g 31 28 false (.len .sl (.t 30)),.g 32 28 false (.bin .neq (.t 31) (.n 2)),.f 33 28 32,.m 34 33,.g 35 34 false (.fadr 1 (.t 1)),.g 36 34 false (.load none (.t 35)),.g 37 34 false (.iadr 10 (.t 36) .w),.g 38 34 false (.fadr 8 (.t 37)),.g 39 34 false (.load none (.t 38)),.g 40 34 false (.un .not (.t 39)),.f 41 34 40,.m 42 41,.g 43 42 false (.fadr 1 (.t 1)),.g 44 42 false (.load none (.t 43)),.g 45 42 false (.iadr 10 (.t 44) .z),.g 46 42 false (.fadr 9 (.t 45)),.g 47 42 false (.load none (.t 46)),.g 48 42 false (.bslice 1 3 [.flt .f32 0] [(0,(.c (.flt .f32 1065353216))),(1,(.c (.flt .f32 1065353216))),(2,(.c (.flt .f32 1073741824)))]),.g 49 42 false (.call (.f 32) [.t 47,.t 48]),.g 50 42 false (.un .not (.t 49)),.f 51 42 50] (.j 51 [.o 0 (.mov .F)])) (.seq (.s [.o 52 (.bslice 1 3 [.int .i64 0] [(0,(.n 3)),(1,.w),(2,(.n 4))]),.o 53 (.bslice 1 1 [.str []] [(0,(.c (.str [106])))]),.o 54 (.call (.f 5) [.t 3,(.c (.str [116,105,108,101])),.t 52,.t 53]),.o 55 (.un .not (.t 54)),.m 56 55,.g 57 56 false (.bslice 1 3 [.int .i64 0] [(0,(.n 3)),(1,.z),(2,(.n 3))]),.g 58 56 false (.bslice 1 1 [.str []] [(0,(.c (.str [106])))]),.g 59 56 false (.call (.f 5) [.t 3,(.c (.str [116,105,108,101])),.t 57,.t 58]),.g 60 56 false (.un .not (.t 59)),.f 61 56 60,.m 62 61,.g 63 62 false (.bslice 1 1 [.int .i64 0] [(0,(.n 3))]),.g 64 62 false (.bslice 1 2 [.str []] [(0,(.c (.str [112]))),(1,(.c (.str [106])))]),.g 65 62 false (.call (.f 5) [.t 3,(.c (.str [112,105,99,116,117,114,101])),.t 63,.t 64]),.g 66 62 false (.un .not (.t 65)),.f 67 62 66] (.j 67 [.o 0 (.mov .F)])) (.s [.l 69 3,.c 70 14 [.t 69],.m 68 70,.e 71 68 0,.e 72 68 1,.e 73 68 2,.o 5 (.box (.c (.agg [.int .i64 0,.nilSlice,.nilSlice,.nilSlice,.nilSlice,.nilSlice,.nilSlice]))),.s 7 5 71,.m 6 72,.m 7 73] (.r [.m 74 7,.v 75 .eql 74 .z,.m 76 75,.g 77 76 true (.fadr 6 (.t 5)),.g 78 76 true (.load none (.t 77)),.g 79 76 true (.len .sl (.t 78)),.g 80 76 true (.bin .eql (.t 79) .w),.d 81 76 80,.m 82 81,.g 83 82 true (.fadr 6 (.t 5)),.g 84 82 true (.load none (.t 83)),.g 85 82 true (.iadr 4 (.t 84) .z),.g 86 82 true (.fadr 2 (.t 85)),.g 87 82 true (.load none (.t 86)),.g 88 82 true (.bin .eql (.t 87) (.n 66824)),.d 89 82 88,.m 0 89])))))))⟩
def fn10:AFunc:=⟨29,2,[(4,none)],(.s [.p 3 1,.o 4 (.mov .z)] (.s [.m 9 0,.c 10 27 [.t 9],.m 8 10,.e 11 8 0,.e 12 8 1,.e 13 8 2,.m 5 11,.m 6 12,.m 7 13] (.seq (.s [.m 14 7,.r 15 5 3,.c 16 33 [.t 15],.m 17 0,.n 18 17,.v 19 .geq 18 (.n 1000),.c 20 34 [.t 19,.n 5],.o 21 (.bslice 1 3 [.int .i64 0] [(0,.t 14),(1,.t 16),(2,.t 20)]),.c 22 23 [.t 21],.m 7 22] (.s [.m 23 7,.v 24 .neq 23 .z] (.j 24 [.m 25 7,.m 4 25]))) (.r [.m 26 5,.r 27 5 3,.c 28 35 [.t 26,.t 27],.m 4 28]))))⟩
def fn14:AFunc:=⟨22,1,[(2,some (some 7)),(3,none),(4,none)],(.s [.o 2 (.box (.c (.agg [.int .i64 0,.nilSlice,.nilSlice,.nilSlice,.nilSlice,.nilSlice,.nilSlice]))),.o 3 (.mov .z),.o 4 (.mov .z)] (.s [.m 9 0,.c 10 27 [.t 9],.m 8 10,.e 11 8 0,.e 12 8 1,.e 13 8 2,.m 5 11,.m 6 12,.m 7 13] (.seq (.s [.m 14 7,.v 15 .neq 14 .z] (.j 15 [.o 16 (.build [.int .i64 0,.nilSlice,.nilSlice,.nilSlice,.nilSlice,.nilSlice,.nilSlice] []),.m 17 6,.m 18 7,.s 7 2 16,.m 3 17,.m 4 18])) (.r [.m 19 5,.c 20 28 [.t 19],.c 21 40 [.t 20],.s 7 2 21,.o 3 (.mov .z),.o 4 (.mov .z)]))))⟩
def fn15:AFunc:=⟨45,2,[(4,some (some 7)),(5,none)],(.s [.o 4 (.box (.c (.agg [.int .i64 0,.nilSlice,.nilSlice,.nilSlice,.nilSlice,.nilSlice,.nilSlice]))),.o 5 (.mov .z)] (.s [.m 14 0,.c 15 27 [.t 14],.m 13 15,.e 16 13 0,.e 17 13 1,.e 18 13 2,.m 6 16,.m 7 17,.m 8 18] (.seq (.s [.m 19 8,.m 20 1,.c 21 24 [.t 20],.o 22 (.bslice 1 2 [.int .i64 0] [(0,.t 19),(1,.t 21)]),.c 23 23 [.t 22],.m 9 23] (.s [.m 24 9,.v 25 .neq 24 .z] (.j 25 [.o 26 (.build [.int .i64 0,.nilSlice,.nilSlice,.nilSlice,.nilSlice,.nilSlice,.nilSlice] []),.m 27 9,.s 7 4 26,.m 5 27]))) (.s [.o 10 (.box (.c (.agg [.int .i64 0,.nilSlice,.nilSlice,.nilSlice,.nilSlice,.nilSlice,.nilSlice])))] (.seq (.s [.m 28 6,.o 29 (.nilchk (.t 28)),.a 30 2 29,.l 31 30,.n 32 31,.o 33 (.mov .z)] (.block 0 (.loop (.s [.u 34 .lss 33 32] (.seq (.i 34 .skip (.exit 0)) (.seq (.block 1 (.s [.h 35 7 31 33,.r 36 7 35,.o 12 (.box (.c (.agg [.int .i64 0,.nilSlice,.nilSlice,.nilSlice,.nilSlice,.nilSlice,.nilSlice]))),.s 7 12 36] (.s [.a 37 0 12,.l 38 37,.m 39 1,.u 40 .leq 38 39] (.i 40 (.ops [.r 41 7 12,.s 7 10 41]) .skip)))) (.ops [.v 42 .add 33 .w,.m 33 42]))))))) (.r [.r 43 7 10,.c 44 40 [.t 43],.s 7 4 44,.o 5 (.mov .z)]))))))⟩
def fn22:AFunc:=⟨31,3,[(6,some (some 7)),(7,none)],(.s [.o 6 (.box (.c (.agg [.int .i64 0,.nilSlice,.nilSlice,.nilSlice,.nilSlice,.nilSlice,.nilSlice]))),.o 7 (.mov .z)] (.s [.m 13 0,.c 14 27 [.t 13],.m 12 14,.e 15 12 0,.e 16 12 1,.e 17 12 2,.m 8 15,.m 9 16,.m 10 17] (.seq (.s [.m 18 10,.v 19 .neq 18 .z] (.j 19 [.o 20 (.build [.int .i64 0,.nilSlice,.nilSlice,.nilSlice,.nilSlice,.nilSlice,.nilSlice] []),.m 21 10,.s 7 6 20,.m 7 21])) (.s [.m 22 8,.c 23 28 [.t 22],.o 11 (.box (.c (.agg [.int .i64 0,.nilSlice,.nilSlice,.nilSlice,.nilSlice,.nilSlice,.nilSlice]))),.s 7 11 23] (.r [.y 24 (.load (some 7) (.t 11)),.y 25 (.load (some 7) (.t 11)),.w 26 1,.w 27 2,.y 28 (.call (.f 46) [.t 25,.t 26,.t 27]),.y 29 (.un .not (.t 28)),.y 30 (.call (.f 34) [.t 29,.n 10]),.s 7 6 24,.m 7 30])))))⟩
def fn23:AFunc:=⟨15,1,[(2,none)],(.s [.o 2 (.mov .z)] (.seq (.s [.m 5 0,.n 6 5,.o 7 (.mov .z)] (.block 0 (.loop (.s [.u 8 .lss 7 6] (.seq (.i 8 .skip (.exit 0)) (.seq (.block 1 (.s [.h 9 1 5 7,.l 10 9,.m 4 10] (.s [.m 11 4,.v 12 .neq 11 .z] (.j 12 [.m 13 4,.m 2 13])))) (.ops [.v 14 .add 7 .w,.m 7 14]))))))) (.r [.o 2 (.mov .z)])))⟩
def fn24:AFunc:=⟨5,1,[(2,none)],(.s [.o 2 (.mov .z)] (.r [.m 3 0,.c 4 47 [.t 3,.z,.n 999999999],.m 2 4]))⟩
def fn25:AFunc:=⟨24,3,[(6,none)],(.s [.p 3 0,.p 4 1,.o 6 (.mov .F)] (.s [.o 7 (.mov .F)] (.seq .skip (.seq (.s [.a 10 2 4,.l 11 10,.n 12 11,.o 13 (.mov .z)] (.block 0 (.loop (.s [.u 14 .lss 13 12] (.seq (.i 14 .skip (.exit 0)) (.seq (.block 1 (.s [.h 15 1 11 13,.l 16 15,.m 9 16] (.s [.r 17 7 3,.m 18 9,.c 19 48 [.t 17,.t 18],.m 20 2,.c 21 49 [.t 19,.t 20]] (.i 21 (.s [.o 7 (.mov .T)] (.exit 0)) .skip)))) (.ops [.v 22 .add 13 .w,.m 13 22]))))))) (.r [.m 23 7,.m 6 23])))))⟩
def fn26:AFunc:=⟨13,2,[(4,some (some 3))],(.s [.p 2 0,.o 4 (.box (.c (.agg [.str [],.str [],.nilSlice])))] (.r [.y 5 (.fadr 3 (.t 2)),.j 6 5,.y 7 (.fadr 3 (.t 2)),.j 8 7,.w 9 1,.y 10 (.call (.f 50) [.t 8,.t 9]),.h 11 3 6 10,.r 12 3 11,.s 3 4 12]))⟩
def fn27:AFunc:=⟨31,1,[(2,none),(3,none),(4,none)],(.s [.o 2 (.mov (.c .nilPtr)),.o 3 (.mov .z),.o 4 (.mov .z)] (.seq (.s [.m 9 0,.n 10 9,.v 11 .gtr 10 (.n 1000)] (.j 11 [.o 2 (.mov (.c .nilPtr)),.o 3 (.mov .z),.o 4 (.mov (.n 5))])) (.s [.o 12 (.build [.nilSlice,.nilSlice,.nilSlice] []),.p 13 12,.m 5 13] (.seq (.s [.m 14 0,.n 15 14,.o 16 (.mov .z)] (.block 0 (.loop (.s [.u 17 .lss 16 15] (.seq (.i 17 .skip (.exit 0)) (.seq (.block 1 (.s [.m 18 16,.h 19 5 14 16,.r 20 5 19,.o 7 (.box (.c (.agg [.int .i64 0,.str [],.nilSlice,.nilSlice,.str []]))),.m 6 18,.s 5 7 20] (.s [.m 21 5,.r 22 5 7,.c 23 51 [.t 21,.t 22],.m 8 23] (.s [.m 24 8,.v 25 .neq 24 .z] (.j 25 [.m 26 6,.v 27 .add 26 .w,.m 28 8,.o 2 (.mov (.c .nilPtr)),.m 3 27,.m 4 28]))))) (.ops [.v 29 .add 16 .w,.m 16 29]))))))) (.r [.m 30 5,.m 2 30,.o 3 (.mov .z),.o 4 (.mov .z)])))))⟩
def fn28:AFunc:=⟨20,1,[(2,some (some 7))],(.s [.o 2 (.box (.c (.agg [.int .i64 0,.nilSlice,.nilSlice,.nilSlice,.nilSlice,.nilSlice,.nilSlice])))] (.seq (.s [.m 4 0,.o 5 (.nilchk (.t 4)),.a 6 2 5,.l 7 6,.n 8 7,.m 3 8] (.s [.m 9 3,.v 10 .gtr 9 .z] (.j 10 [.m 11 0,.o 12 (.nilchk (.t 11)),.a 13 2 12,.l 14 13,.m 15 3,.v 16 .sub 15 .w,.h 17 7 14 16,.r 18 7 17,.s 7 2 18]))) (.r [.o 19 (.build [.int .i64 0,.nilSlice,.nilSlice,.nilSlice,.nilSlice,.nilSlice,.nilSlice] []),.s 7 2 19])))⟩
def fn29:AFunc:=⟨10,2,[(4,none)],(.s [.p 2 0,.p 3 1,.o 4 (.mov (.c .nilSlice))] (.r [.a 5 3 2,.l 6 5,.o 7 (.mkfn (.func 54) [] [.t 2,.t 3]),.c 8 53 [.t 6,.t 7],.c 9 52 [.t 8,(.f 55)],.m 4 9]))⟩
def fn30:AFunc:=⟨22,2,[(4,some (some 2)),(5,none)],(.s [.p 2 0,.p 3 1,.o 4 (.box (.c (.agg [.str [],.nilSlice]))),.o 5 (.mov .z)] (.seq (.s [.y 7 (.load (some 2) (.t 2)),.y 8 (.call (.f 57) [.t 7]),.j 9 3,.c 10 58 [.t 9],.o 11 (.bslice 1 2 [.int .i64 0] [(0,.t 8),(1,.t 10)]),.c 12 56 [.t 11],.m 6 12] (.s [.m 13 6,.v 14 .neq 13 .z] (.j 14 [.o 15 (.build [.str [],.nilSlice] []),.m 16 6,.s 2 4 15,.m 5 16]))) (.r [.r 17 2 2,.o 18 (.mkfn (.func 60) [] [.t 3]),.c 19 59 [.t 17,.t 18],.e 20 19 0,.e 21 19 1,.s 2 4 20,.m 5 21])))⟩
def fn31:AFunc:=⟨42,1,[(2,none),(3,none)],(.s [.o 2 (.mov (.c .nilSlice)),.o 3 (.mov .F)] (.s [.o 4 (.box (.c .nilSlice))] (.s [.o 6 (.bslice 1 2 [.int .i64 0] [(0,.z),(1,(.n 50))]),.o 7 (.bslice 1 1 [.str []] [(0,(.c (.str [116])))]),.o 8 (.call (.f 5) [.t 4,(.c (.str [116,97,112,101])),.t 6,.t 7]),.m 9 8,.g 10 9 true (.bslice 1 2 [.int .i64 0] [(0,.z),(1,.w)]),.g 11 9 true (.bslice 1 1 [.str []] [(0,(.c (.str [108])))]),.g 12 9 true (.call (.f 5) [.t 4,(.c (.str [108,105,110,101])),.t 10,.t 11]),.d 13 9 12,.m 14 13,.g 15 14 true (.bslice 1 1 [.int .i64 0] [(0,.w)]),.g 16 14 true (.bslice 1 3 [.str []] [(0,(.c (.str [115]))),(1,(.c (.str [108]))),(2,(.c (.str [116])))]),.g 17 14 true (.call (.f 5) [.t 4,(.c (.str [115,104,111,116])),.t 15,.t 16]),.d 18 14 17,.m 19 18,.g 20 19 true (.bslice 1 1 [.int .i64 0] [(0,.w)]),.g 21 19 true (.bslice 1 1 [.str []] [(0,(.c (.str [108])))]),.g 22 19 true (.call (.f 5) [.t 4,(.c (.str [97,99,99,101,112,116])),.t 20,.t 21]),.d 23 19 22,.m 24 23,.g 25 24 true (.bslice 1 1 [.int .i64 0] [(0,.w)]),.g 26 24 true (.bslice 1 2 [.str []] [(0,(.c (.str [109]))),(1,(.c (.str [108])))]),.g 27 24 true (.call (.f 5) [.t 4,(.c (.str [115,111,117,114,99,101])),.t 25,.t 26]),.d 28 24 27,.m 29 28,.g 30 29 true (.bslice 1 2 [.int .i64 0] [(0,.w),(1,.w)]),.g 31 29 true (.bslice 1 2 [.str []] [(0,(.c (.str [102]))),(1,(.c (.str [109])))]),.g 32 29 true (.call (.f 5) [.t 4,(.c (.str [109,111,100,117,108,101])),.t 30,.t 31]),.d 33 29 32,.m 34 33,.t 35 34 true 0,.g 36 34 true (.bslice 1 2 [.int .i64 0] [(0,(.n 2)),(1,.t 35)]),.g 37 34 true (.bslice 1 2 [.str []] [(0,(.c (.str [106]))),(1,(.c (.str [102])))]),.g 38 34 true (.call (.f 5) [.t 4,(.c (.str [114,117,110])),.t 36,.t 37]),.d 39 34 38,.m 5 39] (.r [.l 40 4,.m 41 5,.m 2 40,.m 3 41]))))⟩
def fn32:AFunc:=⟨26,2,[(4,none)],(.s [.o 4 (.mov .F)] (.seq (.s [.m 6 0,.n 7 6,.m 8 1,.n 9 8,.u 10 .neq 7 9] (.j 10 [.o 4 (.mov .F)])) (.seq (.s [.o 5 (.mov .z)] (.block 0 (.loop (.seq (.s [.m 11 5,.m 12 0,.n 13 12,.u 14 .lss 11 13] (.i 14 .skip (.exit 0))) (.seq (.block 1 (.s [.w 17 0,.w 18 5,.y 19 (.iadr 1 (.t 17) (.t 18)),.j 20 19,.w 21 1,.w 22 5,.y 23 (.iadr 1 (.t 21) (.t 22)),.j 24 23,.u 25 .neq 20 24] (.j 25 [.o 4 (.mov .F)]))) (.ops [.m 15 5,.v 16 .add 15 .w,.m 5 16])))))) (.r [.o 4 (.mov .T)]))))⟩
def fn33:AFunc:=⟨53,1,[(2,none)],(.s [.p 1 0,.o 2 (.mov .z)] (.seq (.s [.a 8 0 1,.l 9 8,.c 10 47 [.t 9,.w,.n 1000],.m 3 10] (.s [.m 11 3,.v 12 .neq 11 .z] (.j 12 [.m 13 3,.m 2 13]))) (.s [.y 15 (.call (.f 65) []),.y 16 (.fadr 1 (.t 1)),.j 17 16,.y 18 (.look .s (.agg [.nilSlice,.int .i64 0,.nilFunc,.nilFunc,.nilFunc]) true (.t 15) (.t 17)),.w 14 18,.y 19 (.ext (.t 14) 0),.y 20 (.ext (.t 14) 1),⟨none,.mov .F,none,true⟩,.y 4 (.boxn 5 (.t 19)),.m 5 20] (.seq (.s [.m 21 5,.o 22 (.un .not (.t 21))] (.j 22 [.o 2 (.mov (.n 13))])) (.seq (.s [.a 23 2 1,.l 24 23,.n 25 24,.a 26 3 1,.l 27 26,.n 28 27,.o 29 (.build [.int .i64 0,.int .i64 0] [(0,1,.t 25),(1,1,.t 28)]),.a 30 0 4,.l 31 30,.n 32 31,.a 33 1 4,.l 34 33,.o 35 (.build [.int .i64 0,.int .i64 0] [(0,1,.t 32),(1,1,.t 34)]),.o 36 (.eqv true (.agg [.i,.i]) (.t 29) (.t 35))] (.j 36 [.o 2 (.mov (.n 2))])) (.s [.a 37 2 1,.l 38 37,.c 39 66 [.t 38,(.f 67)],.m 6 39] (.s [.a 40 3 1,.l 41 40,.c 42 69 [.t 41,(.f 70)],.m 7 42] (.r [.w 43 6,.y 44 (.call (.f 23) [.t 43]),.w 45 7,.y 46 (.call (.f 23) [.t 45]),.y 47 (.fadr 4 (.t 1)),.j 48 47,.y 49 (.bin .neq (.t 48) (.c (.str []))),.c 50 34 [.t 49,.w],.o 51 (.bslice 1 3 [.int .i64 0] [(0,.t 44),(1,.t 46),(2,.t 50)]),.c 52 23 [.t 51],.m 2 52]))))))))⟩
def fn34:AFunc:=⟨7,2,[(4,none)],(.s [.o 4 (.mov .z)] (.seq (.s [.m 5 0] (.j 5 [.m 6 1,.m 4 6])) (.r [.o 4 (.mov .z)])))⟩
def fn35:AFunc:=⟨106,2,[(4,none)],(.s [.p 3 1,.o 4 (.mov .z)] (.seq (.s [.y 12 (.fadr 0 (.t 3)),.j 13 12,.w 14 0,.y 15 (.nilchk (.t 14)),.y 16 (.fadr 0 (.t 15)),.j 17 16,.y 18 (.len .sl (.t 17)),.y 19 (.bin .add (.t 18) .w),.u 20 .neq 13 19] (.j 20 [.o 4 (.mov (.n 11))])) (.s [.m 21 0,.o 22 (.nilchk (.t 21)),.a 23 1 22,.l 24 23,.n 25 24,.m 5 25] (.seq (.s [.a 26 1 3,.l 27 26,.v 28 .eql 27 (.c (.str [117,110,100,111]))] (.i 28 (.seq (.s [.m 29 5,.v 30 .eql 29 .z] (.j 30 [.o 4 (.mov (.n 12))])) (.r [.m 31 0,.o 32 (.nilchk (.t 31)),.a 33 1 32,.l 34 33,.m 35 5,.v 36 .sub 35 .w,.h 37 5 34 36,.a 38 1 37,.l 39 38,.v 40 .eql 39 (.c (.str [114,101,108,101,97,115,101])),.c 41 34 [.t 40,.n 21],.m 4 41])) .skip)) (.s [.m 42 0,.c 43 28 [.t 42],.o 6 (.box (.c (.agg [.int .i64 0,.nilSlice,.nilSlice,.nilSlice,.nilSlice,.nilSlice,.nilSlice]))),.s 7 6 43] (.seq (.s [.y 44 (.fadr 3 (.t 3)),.j 45 44,.y 46 (.iadr 1 (.t 45) .z),.j 47 46,.y 48 (.fadr 0 (.t 6)),.j 49 48,.u 50 .lss 47 49] (.j 50 [.o 4 (.mov (.n 22))])) (.s [.y 51 (.call (.f 65) []),.y 52 (.fadr 1 (.t 3)),.j 53 52,.y 54 (.look .s (.agg [.nilSlice,.int .i64 0,.nilFunc,.nilFunc,.nilFunc]) false (.t 51) (.t 53)),.y 7 (.box (.c (.agg [.nilSlice,.int .i64 0,.nilFunc,.nilFunc,.nilFunc]))),.s 5 7 54] (.seq (.s [.a 55 0 7,.l 56 55,.n 57 56,.o 58 (.mov .z)] (.block 0 (.loop (.s [.u 59 .lss 58 57] (.seq (.i 59 .skip (.exit 0)) (.seq (.block 1 (.s [.m 60 58,.h 61 2 56 58,.r 62 2 61,.o 9 (.box (.c (.agg [.int .i64 0,.bool false]))),.m 8 60,.s 2 9 62] (.s [.a 63 1 9,.l 64 63,.m 65 64,⟨(some 66),.load (some 7) (.t 6),(some (65,true)),true⟩,⟨(some 67),.fadr 0 (.t 9),(some (65,true)),true⟩,⟨(some 68),.load none (.t 67),(some (65,true)),true⟩,⟨(some 69),.fadr 2 (.t 3),(some (65,true)),true⟩,⟨(some 70),.load none (.t 69),(some (65,true)),true⟩,⟨(some 71),.mov (.t 8),(some (65,true)),true⟩,⟨(some 72),.iadr 1 (.t 70) (.t 71),(some (65,true)),true⟩,⟨(some 73),.load none (.t 72),(some (65,true)),true⟩,.g 74 65 true (.call (.f 46) [.t 66,.t 68,.t 73]),.g 75 65 true (.un .not (.t 74)),.d 76 65 75] (.j 76 [.o 4 (.mov (.n 10))])))) (.ops [.v 77 .add 58 .w,.m 58 77]))))))) (.seq (.s [.a 78 0 7,.l 79 78,.n 80 79,.o 81 (.mov .z)] (.block 2 (.loop (.s [.u 82 .lss 81 80] (.seq (.i 82 .skip (.exit 2)) (.seq (.block 3 (.s [.m 83 81,.h 84 2 79 81,.r 85 2 84,.o 11 (.box (.c (.agg [.int .i64 0,.bool false]))),.m 10 83,.s 2 11 85] (.s [.a 86 1 11,.l 87 86,.o 88 (.un .not (.t 87)),.m 89 88,⟨(some 90),.load (some 7) (.t 6),(some (89,true)),true⟩,⟨(some 91),.fadr 0 (.t 11),(some (89,true)),true⟩,⟨(some 92),.load none (.t 91),(some (89,true)),true⟩,⟨(some 93),.fadr 2 (.t 3),(some (89,true)),true⟩,⟨(some 94),.load none (.t 93),(some (89,true)),true⟩,⟨(some 95),.mov (.t 10),(some (89,true)),true⟩,⟨(some 96),.iadr 1 (.t 94) (.t 95),(some (89,true)),true⟩,⟨(some 97),.load none (.t 96),(some (89,true)),true⟩,.g 98 89 true (.call (.f 46) [.t 90,.t 92,.t 97]),.d 99 89 98] (.j 99 [.o 4 (.mov (.n 9))])))) (.ops [.v 100 .add 81 .w,.m 81 100]))))))) (.r [.a 101 2 7,.l 102 101,.r 103 7 6,.r 104 5 3,.o 105 (.call (.t 102) [.t 103,.t 104]),.m 4 105]))))))))))⟩
def fn40:AFunc:=⟨38,1,[(2,some (some 7))],(.s [.p 1 0,.o 2 (.box (.c (.agg [.int .i64 0,.nilSlice,.nilSlice,.nilSlice,.nilSlice,.nilSlice,.nilSlice])))] (.s [.y 5 (.fadr 1 (.t 1)),.j 6 5,.y 7 (.len .sl (.t 6)),.y 8 (.mksl 3 32 [.str [],.int .i64 0,.bool false] (.t 7) (.t 7)),.y 9 (.fadr 6 (.t 1)),.j 10 9,.y 11 (.len .sl (.t 10)),.y 12 (.mksl 4 48 [.str [],.str [],.int .i64 0,.bool false] (.t 11) (.t 11)),.w 3 8,.m 4 12] (.s [.m 13 3,.a 14 1 1,.l 15 14,.o 16 (.cpy 3 (.t 13) (.t 15))] (.s [.m 17 4,.a 18 6 1,.l 19 18,.o 20 (.cpy 4 (.t 17) (.t 19))] (.r [.y 21 (.fadr 0 (.t 1)),.j 22 21,.w 23 3,.y 24 (.fadr 2 (.t 1)),.j 25 24,.y 26 (.call (.f 83) [.t 25]),.y 27 (.fadr 3 (.t 1)),.j 28 27,.y 29 (.call (.f 84) [.t 28,(.f 85)]),.y 30 (.fadr 4 (.t 1)),.j 31 30,.y 32 (.call (.f 86) [.t 31,(.f 87)]),.y 33 (.fadr 5 (.t 1)),.j 34 33,.y 35 (.call (.f 88) [.t 34,(.f 89)]),.w 36 4,.o 37 (.build [.int .i64 0,.nilSlice,.nilSlice,.nilSlice,.nilSlice,.nilSlice,.nilSlice] [(0,1,.t 22),(1,1,.t 23),(2,1,.t 26),(3,1,.t 29),(4,1,.t 32),(5,1,.t 35),(6,1,.t 36)]),.s 7 2 37])))))⟩
def fn41:AFunc:=⟨26,2,[(4,none)],(.s [.o 4 (.mov .F)] (.seq (.s [.m 6 0,.n 7 6,.m 8 1,.n 9 8,.u 10 .neq 7 9] (.j 10 [.o 4 (.mov .F)])) (.seq (.s [.o 5 (.mov .z)] (.block 0 (.loop (.seq (.s [.m 11 5,.m 12 0,.n 13 12,.u 14 .lss 11 13] (.i 14 .skip (.exit 0))) (.seq (.block 1 (.s [.w 17 0,.w 18 5,.y 19 (.iadr 1 (.t 17) (.t 18)),.j 20 19,.w 21 1,.w 22 5,.y 23 (.iadr 1 (.t 21) (.t 22)),.j 24 23,.u 25 .neq 20 24] (.j 25 [.o 4 (.mov .F)]))) (.ops [.m 15 5,.v 16 .add 15 .w,.m 5 16])))))) (.r [.o 4 (.mov .T)]))))⟩
def fn44:AFunc:=⟨22,2,[(4,none)],(.s [.o 4 (.mov (.c .nilSlice))] (.s [.o 5 (.mov (.c .nilSlice))] (.seq (.s [.m 8 0,.n 9 8,.o 10 (.mov .z)] (.block 0 (.loop (.s [.u 11 .lss 10 9] (.seq (.i 11 .skip (.exit 0)) (.seq (.block 1 (.s [.h 12 5 8 10,.r 13 5 12,.o 7 (.box (.c (.agg [.int .i64 0,.str [],.nilSlice,.nilSlice,.str []]))),.s 5 7 13] (.ops [.m 14 5,.m 15 1,.r 16 5 7,.o 17 (.call (.t 15) [.t 16]),.o 18 (.bslice 5 1 [.int .i64 0,.str [],.nilSlice,.nilSlice,.str []] [(0,.t 17)]),.o 19 (.app 5 88 (.t 14) (.t 18)),.m 5 19]))) (.ops [.v 20 .add 10 .w,.m 10 20]))))))) (.r [.m 21 5,.m 4 21]))))⟩
def fn45:AFunc:=⟨12,1,[(2,some (some 5))],(.s [.p 1 0,.o 2 (.box (.c (.agg [.int .i64 0,.str [],.nilSlice,.nilSlice,.str []])))] (.s [.y 3 (.fadr 2 (.t 1)),.j 4 3,.y 5 (.call (.f 91) [.t 4]),.y 6 (.fadr 3 (.t 1)),.j 7 6,.y 8 (.call (.f 92) [.t 7]),.y 9 (.fadr 2 (.t 1)),.s 1 9 5,.a 10 3 1,.s 1 10 8] (.r [.r 11 5 1,.s 5 2 11])))⟩
def fn46:AFunc:=⟨47,3,[(6,none)],(.s [.p 3 0,.o 6 (.mov .F)] (.s [.o 7 (.mov .z)] (.seq (.s [.m 8 1] (.block 0 (.s [.v 10 .eql 8 .z,.m 9 10] (.i 9 (.ops [.a 11 1 3,.l 12 11,.m 13 2,.c 14 93 [.t 12,.t 13],.m 7 14]) (.s [.v 16 .eql 8 .w,.m 15 16] (.i 15 (.ops [.a 17 2 3,.l 18 17,.m 19 2,.c 20 94 [.t 18,.t 19],.m 7 20]) (.s [.v 22 .eql 8 (.n 2),.m 21 22] (.i 21 (.ops [.a 23 3 3,.l 24 23,.m 25 2,.c 26 50 [.t 24,.t 25],.m 7 26]) (.s [.v 28 .eql 8 (.n 3),.m 27 28] (.i 27 (.ops [.a 29 4 3,.l 30 29,.m 31 2,.c 32 95 [.t 30,.t 31],.m 7 32]) (.s [.v 34 .eql 8 (.n 4),.m 33 34] (.i 33 (.ops [.a 35 5 3,.l 36 35,.m 37 2,.c 38 96 [.t 36,.t 37],.m 7 38]) (.s [.v 40 .eql 8 (.n 5),.m 39 40] (.i 39 (.ops [.a 41 6 3,.l 42 41,.m 43 2,.c 44 97 [.t 42,.t 43],.m 7 44]) .skip)))))))))))))) (.r [.m 45 7,.v 46 .geq 45 .z,.m 6 46]))))⟩
def fn47:AFunc:=⟨16,3,[(6,none)],(.s [.o 6 (.mov .z)] (.r [.m 7 0,.m 8 1,.u 9 .lss 7 8,.m 10 9,.t 11 10 false 0,.t 12 10 false 2,.g 13 10 false (.bin .gtr (.t 11) (.t 12)),.f 14 10 13,.c 15 34 [.t 14,.n 3],.m 6 15]))⟩
def fn48:AFunc:=⟨13,2,[(4,some (some 2))],(.s [.p 2 0,.o 4 (.box (.c (.agg [.str [],.int .i64 0])))] (.r [.y 5 (.fadr 2 (.t 2)),.j 6 5,.y 7 (.fadr 2 (.t 2)),.j 8 7,.w 9 1,.y 10 (.call (.f 94) [.t 8,.t 9]),.h 11 2 6 10,.r 12 2 11,.s 2 4 12]))⟩
def fn49:AFunc:=⟨9,2,[(4,none)],(.s [.p 2 0,.o 4 (.mov .F)] (.r [.m 5 1,.a 6 1 2,.l 7 6,.u 8 .leq 5 7,.m 4 8]))⟩
def fn50:AFunc:=⟨8,2,[(4,none)],(.s [.p 3 1,.o 4 (.mov .z)] (.r [.m 5 0,.o 6 (.mkfn (.func 99) [] [.t 3]),.c 7 98 [.t 5,.t 6],.m 4 7]))⟩
def fn51:AFunc:=⟨94,2,[(4,none)],(.s [.p 3 1,.o 4 (.mov .z)] (.seq (.s [.r 9 5 3,.c 10 33 [.t 9],.m 5 10] (.s [.m 11 5,.v 12 .neq 11 .z] (.j 12 [.m 13 5,.m 4 13]))) (.seq (.s [.m 14 0,.r 15 5 3,.c 16 35 [.t 14,.t 15],.m 6 16] (.s [.m 17 6,.v 18 .neq 17 .z] (.j 18 [.m 19 6,.m 4 19]))) (.s [.r 20 5 3,.c 21 45 [.t 20],.s 5 3 21] (.s [.m 22 0,.m 23 0,.o 24 (.nilchk (.t 23)),.a 25 0 24,.l 26 25,.r 27 5 3,.o 28 (.bslice 5 1 [.int .i64 0,.str [],.nilSlice,.nilSlice,.str []] [(0,.t 27)]),.o 29 (.app 5 88 (.t 26) (.t 28)),.o 30 (.nilchk (.t 22)),.a 31 0 30,.s 1 31 29] (.seq (.s [.a 32 1 3,.l 33 32,.v 34 .eql 33 (.c (.str [117,110,100,111]))] (.i 34 (.s [.m 35 0,.o 36 (.nilchk (.t 35)),.a 37 1 36,.l 38 37,.n 39 38,.v 40 .sub 39 .w,.m 7 40] (.s [.m 41 0,.m 42 0,.m 43 0,.o 44 (.nilchk (.t 43)),.a 45 1 44,.l 46 45,.m 47 7,.o 48 (.sl 5 (.t 46) none (some (.t 47))),.m 49 0,.o 50 (.nilchk (.t 49)),.a 51 2 50,.l 52 51,.m 53 7,.o 54 (.sl 7 (.t 52) none (some (.t 53))),.o 55 (.nilchk (.t 41)),.a 56 1 55,.s 1 56 48,.o 57 (.nilchk (.t 42)),.a 58 2 57,.s 1 58 54] (.r [.o 4 (.mov .z)]))) .skip)) (.s [.m 59 0,.c 60 28 [.t 59],.c 61 40 [.t 60],.o 8 (.box (.c (.agg [.int .i64 0,.nilSlice,.nilSlice,.nilSlice,.nilSlice,.nilSlice,.nilSlice]))),.s 7 8 61] (.s [.y 62 (.call (.f 65) []),.y 63 (.fadr 1 (.t 3)),.j 64 63,.y 65 (.look .s (.agg [.nilSlice,.int .i64 0,.nilFunc,.nilFunc,.nilFunc]) false (.t 62) (.t 64)),.y 66 (.part none 3 (.t 65)),.y 67 (.load (some 5) (.t 3)),.o 68 (.call (.t 66) [.t 8,.t 67])] (.s [.a 69 3 3,.l 70 69,.o 71 (.iadr 1 (.t 70) .z),.l 72 71,.a 73 0 8,.s 1 73 72] (.seq (.opsM [.m 74 0,.m 75 0,.m 76 0,.o 77 (.nilchk (.t 76)),.a 78 1 77,.j 79 78,.y 80 (.load (some 5) (.t 3)),.o 81 (.bslice 5 1 [.int .i64 0,.str [],.nilSlice,.nilSlice,.str []] [(0,.t 80)]),.o 82 (.app 5 88 (.t 79) (.t 81)),.m 83 0,.o 84 (.nilchk (.t 83)),.a 85 2 84,.j 86 85,.y 87 (.load (some 7) (.t 8)),.o 88 (.bslice 7 1 [.int .i64 0,.nilSlice,.nilSlice,.nilSlice,.nilSlice,.nilSlice,.nilSlice] [(0,.t 87)]),.o 89 (.app 7 152 (.t 86) (.t 88)),.o 90 (.nilchk (.t 74)),.a 91 1 90,.s 1 91 82,.o 92 (.nilchk (.t 75)),.a 93 2 92,.s 1 93 89]) (.r [.o 4 (.mov .z)])))))))))))⟩
def fn52:AFunc:=⟨22,2,[(4,none)],(.s [.o 4 (.mov (.c .nilSlice))] (.s [.o 5 (.mov (.c .nilSlice))] (.seq (.s [.m 8 0,.n 9 8,.o 10 (.mov .z)] (.block 0 (.loop (.s [.u 11 .lss 10 9] (.seq (.i 11 .skip (.exit 0)) (.seq (.block 1 (.s [.h 12 3 8 10,.r 13 3 12,.o 7 (.box (.c (.agg [.str [],.str [],.nilSlice]))),.s 3 7 13] (.ops [.m 14 5,.m 15 1,.r 16 3 7,.o 17 (.call (.t 15) [.t 16]),.o 18 (.bslice 1 1 [.str []] [(0,.t 17)]),.o 19 (.app 1 16 (.t 14) (.t 18)),.m 5 19]))) (.ops [.v 20 .add 10 .w,.m 10 20]))))))) (.r [.m 21 5,.m 4 21]))))⟩
def fn53:AFunc:=⟨23,2,[(4,none)],(.s [.o 4 (.mov (.c .nilSlice))] (.s [.o 5 (.mov (.c .nilSlice))] (.seq (.s [.m 8 0,.n 9 8,.o 10 (.mov .z)] (.block 0 (.loop (.s [.u 11 .lss 10 9] (.seq (.i 11 .skip (.exit 0)) (.seq (.block 1 (.s [.h 12 3 8 10,.r 13 3 12,.o 7 (.box (.c (.agg [.str [],.str [],.nilSlice]))),.s 3 7 13] (.s [.m 14 1,.r 15 3 7,.o 16 (.call (.t 14) [.t 15])] (.i 16 (.ops [.m 17 5,.r 18 3 7,.o 19 (.bslice 3 1 [.str [],.str [],.nilSlice] [(0,.t 18)]),.o 20 (.app 3 56 (.t 17) (.t 19)),.m 5 20]) .skip)))) (.ops [.v 21 .add 10 .w,.m 10 21]))))))) (.r [.m 22 5,.m 4 22]))))⟩
def fn54:AFunc:=⟨10,1,[(4,none)],(.s [.p 3 0,.o 4 (.mov .F)] (.r [.r 5 7 1,.r 6 3 3,.l 7 2,.c 8 25 [.t 5,.t 6,.t 7],.o 9 (.un .not (.t 8)),.m 4 9]))⟩
def fn55:AFunc:=⟨5,1,[(2,none)],(.s [.p 1 0,.o 2 (.mov (.c (.str [])))] (.r [.a 3 0 1,.l 4 3,.m 2 4]))⟩
def fn56:AFunc:=⟨15,1,[(2,none)],(.s [.o 2 (.mov .z)] (.seq (.s [.m 5 0,.n 6 5,.o 7 (.mov .z)] (.block 0 (.loop (.s [.u 8 .lss 7 6] (.seq (.i 8 .skip (.exit 0)) (.seq (.block 1 (.s [.h 9 1 5 7,.l 10 9,.m 4 10] (.s [.m 11 4,.v 12 .neq 11 .z] (.j 12 [.m 13 4,.m 2 13])))) (.ops [.v 14 .add 7 .w,.m 7 14]))))))) (.r [.o 2 (.mov .z)])))⟩
def fn57:AFunc:=⟨50,1,[(2,some none)],(.s [.p 1 0,.o 2 (.box .z)] (.seq (.s [.y 9 (.fadr 0 (.t 1)),.j 10 9,.y 11 (.call (.f 68) [.t 10]),.y 12 (.un .not (.t 11)),.y 13 (.call (.f 101) [.t 12,.n 8]),.y 14 (.fadr 1 (.t 1)),.j 15 14,.y 16 (.len .sl (.t 15)),.y 17 (.bin .eql (.t 16) .z),.y 18 (.call (.f 101) [.t 17,.n 12]),.y 19 (.fadr 1 (.t 1)),.j 20 19,.y 21 (.len .sl (.t 20)),.y 22 (.bin .gtr (.t 21) (.n 64)),.c 23 101 [.t 22,.n 5],.o 24 (.bslice 1 3 [.int .i64 0] [(0,.t 13),(1,.t 18),(2,.t 23)]),.c 25 100 [.t 24],.m 3 25] (.s [.m 26 3,.v 27 .neq 26 .z] (.j 27 [.m 28 3,.s 1 2 28]))) (.seq (.s [.a 29 1 1,.l 30 29,.c 31 102 [.t 30,(.f 103)],.c 32 100 [.t 31],.m 4 32] (.s [.m 33 4,.v 34 .neq 33 .z] (.j 34 [.m 35 4,.s 1 2 35]))) (.s [.r 37 2 1,.c 38 104 [.t 37],.m 36 38,.e 39 36 0,.e 40 36 1,.o 5 (.box .z),.s 1 5 39,.m 6 40] (.seq (.s [.r 41 2 1,.c 42 105 [.t 41]] (.block 0 (.rangeF (.t 42) [43,44] (.ops [.o 8 (.box (.c (.agg [.int .i64 0,.int .i64 0,.int .i64 0,.int .i64 0,.int .i64 0,.int .i64 0,.int .i64 0,.int .i64 0,.bool false,.nilSlice]))),.s 10 8 44]) (.block 1 (.s [.a 45 9 8,.l 46 45,.n 47 46,.l 48 5,.u 49 .neq 47 48] (.j 49 [.x (.store 1 (.t 2) (.n 2))])))))) (.r [.x (.store 1 (.t 2) .z)]))))))⟩
def fn58:AFunc:=⟨27,1,[(2,none)],(.s [.o 2 (.mov .z)] (.seq (.s [.m 4 0,.n 5 4,.v 6 .eql 5 .z,.c 7 106 [.t 6,.n 12],.m 8 0,.n 9 8,.v 10 .gtr 9 (.n 8),.c 11 106 [.t 10,.n 5],.o 12 (.bslice 1 2 [.int .i64 0] [(0,.t 7),(1,.t 11)]),.c 13 56 [.t 12],.m 3 13] (.s [.m 14 3,.v 15 .neq 14 .z] (.j 15 [.m 16 3,.m 2 16]))) (.r [.w 17 0,.y 18 (.call (.f 107) [.t 17,(.f 108)]),.y 19 (.call (.f 56) [.t 18]),.w 20 0,.y 21 (.iadr 1 (.t 20) .z),.j 22 21,.y 23 (.bin .eql (.t 22) .z),.c 24 106 [.t 23,.n 6],.o 25 (.bslice 1 2 [.int .i64 0] [(0,.t 19),(1,.t 24)]),.c 26 56 [.t 25],.m 2 26])))⟩
def fn59:AFunc:=⟨44,2,[(4,some (some 2)),(5,none)],(.s [.p 2 0,.o 4 (.box (.c (.agg [.str [],.nilSlice]))),.o 5 (.mov .z)] (.s [.a 11 0 2,.l 12 11,.o 13 (.build [.str [],.nilSlice] [(0,1,.t 12)]),.o 6 (.box (.c (.agg [.str [],.nilSlice]))),.s 2 6 13] (.seq (.s [.a 14 1 2,.l 15 14,.n 16 15,.o 17 (.mov .z)] (.block 0 (.loop (.s [.u 18 .lss 17 16] (.seq (.i 18 .skip (.exit 0)) (.seq (.block 1 (.s [.h 19 10 15 17,.r 20 10 19,.o 8 (.box (.c (.agg [.int .i64 0,.int .i64 0,.int .i64 0,.int .i64 0,.int .i64 0,.int .i64 0,.int .i64 0,.int .i64 0,.bool false,.nilSlice]))),.s 10 8 20] (.seq (.s [.a 21 8 8,.l 22 21,.o 23 (.un .not (.t 22))] (.i 23 (.s [.m 25 1,.r 26 10 8,.o 27 (.call (.t 25) [.t 26]),.m 24 27,.e 28 24 0,.e 29 24 1,.m 9 28,.m 10 29] (.seq (.s [.m 30 10,.v 31 .neq 30 .z] (.j 31 [.o 32 (.build [.str [],.nilSlice] []),.m 33 10,.s 2 4 32,.m 5 33])) (.ops [.m 34 9,.a 35 9 8,.s 1 35 34]))) .skip)) (.ops [.a 36 1 6,.l 37 36,.r 38 10 8,.o 39 (.bslice 10 1 [.int .i64 0,.int .i64 0,.int .i64 0,.int .i64 0,.int .i64 0,.int .i64 0,.int .i64 0,.int .i64 0,.bool false,.nilSlice] [(0,.t 38)]),.o 40 (.app 10 96 (.t 37) (.t 39)),.a 41 1 6,.s 1 41 40])))) (.ops [.v 42 .add 17 .w,.m 17 42]))))))) (.r [.r 43 2 6,.s 2 4 43,.o 5 (.mov .z)]))))⟩
def fn60:AFunc:=⟨13,1,[(3,none),(4,none)],(.s [.p 2 0,.o 3 (.mov (.c .nilSlice)),.o 4 (.mov .z)] (.r [.j 5 1,.y 6 (.fadr 9 (.t 2)),.j 7 6,.y 8 (.call (.f 63) [.t 7,(.f 64)]),.c 9 62 [.t 5,.t 8,.n (-1)],.c 10 61 [.t 9],.y 11 (.ext (.t 10) 0),.y 12 (.ext (.t 10) 1),.m 3 11,.m 4 12]))⟩
def fn61:AFunc:=⟨8,1,[(2,none),(3,none)],(.s [.o 2 (.mov (.c .nilSlice)),.o 3 (.mov .z)] (.seq (.s [.m 4 0,.c 5 110 [.t 4,(.f 111)]] (.j 5 [.o 2 (.mov (.c .nilSlice)),.o 3 (.mov (.n 4))])) (.r [.m 6 0,.c 7 113 [.t 6,(.f 114)],.m 2 7,.o 3 (.mov .z)])))⟩
def fn62:AFunc:=⟨44,3,[(6,none)],(.s [.o 6 (.mov (.c .nilSlice))] (.s [.m 11 1,.n 12 11,.o 13 (.mksl 1 8 [.int .i64 0] (.t 12) (.t 12)),.m 7 13] (.seq (.s [.m 14 7,.n 15 14,.o 16 (.mov .z)] (.block 0 (.loop (.s [.u 17 .lss 16 15] (.seq (.i 17 .skip (.exit 0)) (.seq (.block 1 (.s [.m 18 16,.m 8 18] (.s [.m 19 0,.n 20 19,.o 21 (.mov .z)] (.block 2 (.loop (.s [.u 22 .lss 21 20] (.seq (.i 22 .skip (.exit 2)) (.seq (.block 3 (.s [.m 23 21,.h 24 1 19 21,.l 25 24,.m 9 23,.m 10 25] (.ops [.w 26 7,.w 27 8,.y 28 (.iadr 1 (.t 26) (.t 27)),.j 29 28,.w 30 10,.w 31 1,.w 32 8,.w 33 2,.w 34 9,.y 35 (.bin .mul (.t 33) (.t 34)),.y 36 (.bin .add (.t 32) (.t 35)),.y 37 (.call (.f 115) [.t 31,.t 36]),.y 38 (.bin .mul (.t 30) (.t 37)),.u 39 .add 29 38,.h 40 1 26 27,.s 1 40 39]))) (.ops [.v 41 .add 21 .w,.m 21 41]))))))))) (.ops [.v 42 .add 16 .w,.m 16 42]))))))) (.r [.m 43 7,.m 6 43]))))⟩
def fn63:AFunc:=⟨22,2,[(4,none)],(.s [.o 4 (.mov (.c .nilSlice))] (.s [.o 5 (.mov (.c .nilSlice))] (.seq (.s [.m 8 0,.n 9 8,.o 10 (.mov .z)] (.block 0 (.loop (.s [.u 11 .lss 10 9] (.seq (.i 11 .skip (.exit 0)) (.seq (.block 1 (.s [.h 12 1 8 10,.l 13 12,.m 7 13] (.ops [.m 14 5,.m 15 1,.m 16 7,.o 17 (.call (.t 15) [.t 16]),.o 18 (.bslice 1 1 [.int .i64 0] [(0,.t 17)]),.o 19 (.app 1 8 (.t 14) (.t 18)),.m 5 19]))) (.ops [.v 20 .add 10 .w,.m 10 20]))))))) (.r [.m 21 5,.m 4 21]))))⟩
def fn64:AFunc:=⟨6,1,[(2,none)],(.s [.o 2 (.mov .z)] (.r [.m 3 0,.b 4 .mul (.c (.flt .f32 1098907648)) (.t 3),.o 5 (.conv (.f2i .i64) (.t 4)),.m 2 5]))⟩
def fn65:AFunc:=⟨56,0,[(0,none)],(.s [.o 0 (.mov (.c .nilMap))] (.r [.o 1 (.mkmap),.o 2 (.build [.nilSlice,.int .i64 0,.nilFunc,.nilFunc,.nilFunc] []),.x (.mupd .s (.t 1) (.c (.str [117,110,100,111])) (.t 2)),.c 3 116 [.z],.o 4 (.bslice 2 1 [.int .i64 0,.bool false] [(0,.t 3)]),.c 5 119 [.z],.o 6 (.build [.nilSlice,.int .i64 0,.nilFunc,.nilFunc,.nilFunc] [(0,1,.t 4),(1,1,(.n 2)),(2,1,(.f 117)),(3,1,(.f 118)),(4,1,.t 5)]),.x (.mupd .s (.t 1) (.c (.str [108,105,110,101])) (.t 6)),.c 7 116 [.w],.o 8 (.bslice 2 1 [.int .i64 0,.bool false] [(0,.t 7)]),.o 9 (.build [.nilSlice,.int .i64 0,.nilFunc,.nilFunc,.nilFunc] [(0,1,.t 8),(1,1,(.n 2)),(2,1,(.f 120)),(3,1,(.f 121)),(4,1,(.f 122))]),.x (.mupd .s (.t 1) (.c (.str [116,97,112,101])) (.t 9)),.c 10 116 [.n 2],.c 11 123 [.z],.c 12 123 [.w],.o 13 (.bslice 2 3 [.int .i64 0,.bool false] [(0,.t 10),(2,.t 11),(4,.t 12)]),.c 14 119 [.w],.o 15 (.build [.nilSlice,.int .i64 0,.nilFunc,.nilFunc,.nilFunc] [(0,1,.t 13),(1,1,.w),(2,1,(.f 124)),(3,1,(.f 125)),(4,1,.t 14)]),.x (.mupd .s (.t 1) (.c (.str [115,104,111,116])) (.t 15)),.c 16 123 [.w],.c 17 123 [.w],.o 18 (.bslice 2 2 [.int .i64 0,.bool false] [(0,.t 16),(2,.t 17)]),.o 19 (.build [.nilSlice,.int .i64 0,.nilFunc,.nilFunc,.nilFunc] [(0,1,.t 18),(1,1,.w),(2,1,(.f 126)),(3,1,(.f 127)),(4,1,(.f 122))]),.x (.mupd .s (.t 1) (.c (.str [99,111,112,121])) (.t 19)),.c 20 123 [.z],.o 21 (.bslice 2 1 [.int .i64 0,.bool false] [(0,.t 20)]),.c 22 119 [.z],.o 23 (.build [.nilSlice,.int .i64 0,.nilFunc,.nilFunc,.nilFunc] [(0,1,.t 21),(1,1,.w),(2,1,(.f 128)),(3,1,(.f 129)),(4,1,.t 22)]),.x (.mupd .s (.t 1) (.c (.str [97,99,99,101,112,116])) (.t 23)),.c 24 116 [.n 3],.c 25 123 [.z],.o 26 (.bslice 2 2 [.int .i64 0,.bool false] [(0,.t 24),(2,.t 25)]),.c 27 119 [.w],.o 28 (.build [.nilSlice,.int .i64 0,.nilFunc,.nilFunc,.nilFunc] [(0,1,.t 26),(1,1,.w),(2,1,(.f 130)),(3,1,(.f 131)),(4,1,.t 27)]),.x (.mupd .s (.t 1) (.c (.str [115,111,117,114,99,101])) (.t 28)),.c 29 116 [.n 3],.c 30 123 [.n 3],.o 31 (.bslice 2 2 [.int .i64 0,.bool false] [(0,.t 29),(2,.t 30)]),.o 32 (.build [.nilSlice,.int .i64 0,.nilFunc,.nilFunc,.nilFunc] [(0,1,.t 31),(1,1,(.n 2)),(2,1,(.f 132)),(3,1,(.f 133)),(4,1,(.c .nilFunc))]),.x (.mupd .s (.t 1) (.c (.str [109,111,100,117,108,101])) (.t 32)),.c 33 116 [.n 3],.c 34 123 [.n 3],.c 35 123 [.n 3],.o 36 (.bslice 2 3 [.int .i64 0,.bool false] [(0,.t 33),(2,.t 34),(4,.t 35)]),.o 37 (.build [.nilSlice,.int .i64 0,.nilFunc,.nilFunc,.nilFunc] [(0,1,.t 36),(1,1,.w),(2,1,(.f 134)),(3,1,(.f 135)),(4,1,(.c .nilFunc))]),.x (.mupd .s (.t 1) (.c (.str [109,101,114,103,101])) (.t 37)),.c 38 116 [.n 4],.c 39 123 [.n 3],.o 40 (.bslice 2 2 [.int .i64 0,.bool false] [(0,.t 38),(2,.t 39)]),.o 41 (.build [.nilSlice,.int .i64 0,.nilFunc,.nilFunc,.nilFunc] [(0,1,.t 40),(1,1,(.n 2)),(2,1,(.f 136)),(3,1,(.f 137)),(4,1,(.c .nilFunc))]),.x (.mupd .s (.t 1) (.c (.str [114,117,110])) (.t 41)),.c 42 123 [.n 4],.o 43 (.bslice 2 1 [.int .i64 0,.bool false] [(0,.t 42)]),.o 44 (.build [.nilSlice,.int .i64 0,.nilFunc,.nilFunc,.nilFunc] [(0,1,.t 43),(1,1,(.n 3)),(2,1,(.f 138)),(3,1,(.f 139)),(4,1,(.c .nilFunc))]),.x (.mupd .s (.t 1) (.c (.str [116,105,108,101])) (.t 44)),.c 45 123 [.n 4],.o 46 (.bslice 2 1 [.int .i64 0,.bool false] [(0,.t 45)]),.o 47 (.build [.nilSlice,.int .i64 0,.nilFunc,.nilFunc,.nilFunc] [(0,1,.t 46),(1,1,(.n 2)),(2,1,(.f 140)),(3,1,(.f 141)),(4,1,(.c .nilFunc))]),.x (.mupd .s (.t 1) (.c (.str [102,97,105,108])) (.t 47)),.c 48 116 [.n 5],.c 49 123 [.n 4],.o 50 (.bslice 2 2 [.int .i64 0,.bool false] [(0,.t 48),(2,.t 49)]),.o 51 (.build [.nilSlice,.int .i64 0,.nilFunc,.nilFunc,.nilFunc] [(0,1,.t 50),(1,1,.w),(2,1,(.f 142)),(3,1,(.f 143)),(4,1,(.c .nilFunc))]),.x (.mupd .s (.t 1) (.c (.str [112,105,99,116,117,114,101])) (.t 51)),.c 52 123 [.n 5],.o 53 (.bslice 2 1 [.int .i64 0,.bool false] [(0,.t 52)]),.o 54 (.build [.nilSlice,.int .i64 0,.nilFunc,.nilFunc,.nilFunc] [(0,1,.t 53),(1,1,.w),(2,1,(.f 144)),(3,1,(.f 145)),(4,1,(.c .nilFunc))]),.x (.mupd .s (.t 1) (.c (.str [114,101,108,101,97,115,101])) (.t 54)),.m 55 1,.m 0 55]))⟩
def fn66:AFunc:=⟨22,2,[(4,none)],(.s [.o 4 (.mov (.c .nilSlice))] (.s [.o 5 (.mov (.c .nilSlice))] (.seq (.s [.m 8 0,.n 9 8,.o 10 (.mov .z)] (.block 0 (.loop (.s [.u 11 .lss 10 9] (.seq (.i 11 .skip (.exit 0)) (.seq (.block 1 (.s [.h 12 1 8 10,.l 13 12,.m 7 13] (.ops [.m 14 5,.m 15 1,.m 16 7,.o 17 (.call (.t 15) [.t 16]),.o 18 (.bslice 1 1 [.int .i64 0] [(0,.t 17)]),.o 19 (.app 1 8 (.t 14) (.t 18)),.m 5 19]))) (.ops [.v 20 .add 10 .w,.m 10 20]))))))) (.r [.m 21 5,.m 4 21]))))⟩
def fn67:AFunc:=⟨7,1,[(2,none)],(.s [.o 2 (.mov .z)] (.r [.m 3 0,.c 4 68 [.t 3],.o 5 (.un .not (.t 4)),.c 6 34 [.t 5,.n 8],.m 2 6]))⟩
def fn68:AFunc:=⟨54,1,[(2,none)],(.s [.o 2 (.mov .F)] (.seq (.s [.m 7 0,.o 8 (.rstr (.t 7))] (.block 0 (.loop (.s [.o 9 (.nexts (.t 8)),.e 10 9 0] (.seq (.i 10 .skip (.exit 0)) (.block 1 (.s [.e 11 9 1,.e 12 9 2,.m 3 11,.m 4 12] (.s [.m 13 4,.b 14 .leq (.c (.int .i32 65)) (.t 13),.m 15 14,.t 16 15 true 4,.g 17 15 true (.bin .leq (.t 16) (.c (.int .i32 90))),.d 18 15 17,.m 19 18,.t 20 19 false 4,.g 21 19 false (.bin .leq (.c (.int .i32 97)) (.t 20)),.t 22 19 false 21,.t 23 22 true 4,.g 24 22 true (.bin .leq (.t 23) (.c (.int .i32 122))),.g 25 19 false (.pick (.t 22) (.t 24) .F),.f 26 19 25,.m 5 26] (.s [.m 27 4,.b 28 .leq (.c (.int .i32 48)) (.t 27),.m 29 28,.t 30 29 true 4,.g 31 29 true (.bin .leq (.t 30) (.c (.int .i32 57))),.d 32 29 31,.m 33 32,.t 34 33 false 4,.g 35 33 false (.bin .eql (.t 34) (.c (.int .i32 95))),.f 36 33 35,.m 6 36] (.s [.m 37 5,.o 38 (.un .not (.t 37)),.m 39 38,.t 40 39 true 3,.g 41 39 true (.bin .eql (.t 40) .z),.t 42 39 true 41,.t 43 42 false 6,.g 44 42 false (.un .not (.t 43)),.g 45 39 true (.pick (.t 42) .T (.t 44)),.d 46 39 45] (.j 46 [.o 2 (.mov .F)]))))))))))) (.r [.m 47 0,.v 48 .neq 47 (.c (.str [])),.m 49 48,.t 50 49 true 0,.g 51 49 true (.len .st (.t 50)),.g 52 49 true (.bin .leq (.t 51) (.n 24)),.d 53 49 52,.m 2 53])))⟩
def fn69:AFunc:=⟨22,2,[(4,none)],(.s [.o 4 (.mov (.c .nilSlice))] (.s [.o 5 (.mov (.c .nilSlice))] (.seq (.s [.m 8 0,.n 9 8,.o 10 (.mov .z)] (.block 0 (.loop (.s [.u 11 .lss 10 9] (.seq (.i 11 .skip (.exit 0)) (.seq (.block 1 (.s [.h 12 1 8 10,.l 13 12,.m 7 13] (.ops [.m 14 5,.m 15 1,.m 16 7,.o 17 (.call (.t 15) [.t 16]),.o 18 (.bslice 1 1 [.int .i64 0] [(0,.t 17)]),.o 19 (.app 1 8 (.t 14) (.t 18)),.m 5 19]))) (.ops [.v 20 .add 10 .w,.m 10 20]))))))) (.r [.m 21 5,.m 4 21]))))⟩
def fn70:AFunc:=⟨5,1,[(2,none)],(.s [.o 2 (.mov .z)] (.r [.m 3 0,.c 4 47 [.t 3,.z,.n 999999999],.m 2 4]))⟩
def fn73:AFunc:=⟨42,1,[(2,none)],(.s [.o 2 (.mov .F)] (.seq (.s [.m 4 0,.o 5 (.len .st (.t 4)),.v 6 .eql 5 .z,.m 7 6,.t 8 7 false 0,.g 9 7 false (.len .st (.t 8)),.g 10 7 false (.bin .gtr (.t 9) (.n 24)),.f 11 7 10,.m 12 11,.t 13 12 false 0,.g 14 12 false (.ixs (.t 13) .z),.g 15 12 false (.call (.f 146) [.t 14]),.g 16 12 false (.un .not (.t 15)),.f 17 12 16] (.j 17 [.o 2 (.mov .F)])) (.seq (.s [.o 3 (.mov .w)] (.block 0 (.loop (.seq (.s [.m 18 3,.m 19 0,.o 20 (.len .st (.t 19)),.u 21 .lss 18 20] (.i 21 .skip (.exit 0))) (.seq (.block 1 (.s [.m 24 0,.m 25 3,.o 26 (.ixs (.t 24) (.t 25)),.c 27 146 [.t 26],.o 28 (.un .not (.t 27)),.m 29 28,.t 30 29 true 0,.t 31 29 true 3,.g 32 29 true (.ixs (.t 30) (.t 31)),.g 33 29 true (.call (.f 147) [.t 32]),.g 34 29 true (.un .not (.t 33)),.d 35 29 34,.m 36 35,.t 37 36 true 0,.t 38 36 true 3,.g 39 36 true (.ixs (.t 37) (.t 38)),.g 40 36 true (.bin .neq (.t 39) (.c (.int .u8 95))),.d 41 36 40] (.j 41 [.o 2 (.mov .F)]))) (.ops [.m 22 3,.v 23 .add 22 .w,.m 3 23])))))) (.r [.o 2 (.mov .T)]))))⟩
def fn83:AFunc:=⟨8,1,[(2,none)],(.s [.o 2 (.mov (.c .nilSlice))] (.seq (.s [.m 3 0,.o 4 (.eqv false .nilS (.t 3) (.c .nilSlice))] (.j 4 [.o 2 (.mov (.c .nilSlice))])) (.r [.o 5 (.bslice 2 0 [.str [],.int .i64 0] []),.m 6 0,.o 7 (.app 2 24 (.t 5) (.t 6)),.m 2 7])))⟩
def fn84:AFunc:=⟨22,2,[(4,none)],(.s [.o 4 (.mov (.c .nilSlice))] (.s [.o 5 (.mov (.c .nilSlice))] (.seq (.s [.m 8 0,.n 9 8,.o 10 (.mov .z)] (.block 0 (.loop (.s [.u 11 .lss 10 9] (.seq (.i 11 .skip (.exit 0)) (.seq (.block 1 (.s [.h 12 3 8 10,.r 13 3 12,.o 7 (.box (.c (.agg [.str [],.str [],.nilSlice]))),.s 3 7 13] (.ops [.m 14 5,.m 15 1,.r 16 3 7,.o 17 (.call (.t 15) [.t 16]),.o 18 (.bslice 3 1 [.str [],.str [],.nilSlice] [(0,.t 17)]),.o 19 (.app 3 56 (.t 14) (.t 18)),.m 5 19]))) (.ops [.v 20 .add 10 .w,.m 10 20]))))))) (.r [.m 21 5,.m 4 21]))))⟩
def fn85:AFunc:=⟨8,1,[(2,some (some 3))],(.s [.p 1 0,.o 2 (.box (.c (.agg [.str [],.str [],.nilSlice])))] (.s [.a 3 2 1,.l 4 3,.c 5 91 [.t 4],.a 6 2 1,.s 1 6 5] (.r [.r 7 3 1,.s 3 2 7])))⟩
def fn86:AFunc:=⟨22,2,[(4,none)],(.s [.o 4 (.mov (.c .nilSlice))] (.s [.o 5 (.mov (.c .nilSlice))] (.seq (.s [.m 8 0,.n 9 8,.o 10 (.mov .z)] (.block 0 (.loop (.s [.u 11 .lss 10 9] (.seq (.i 11 .skip (.exit 0)) (.seq (.block 1 (.s [.h 12 4 8 10,.r 13 4 12,.o 7 (.box (.c (.agg [.str [],.str [],.str [],.nilSlice]))),.s 4 7 13] (.ops [.m 14 5,.m 15 1,.r 16 4 7,.o 17 (.call (.t 15) [.t 16]),.o 18 (.bslice 4 1 [.str [],.str [],.str [],.nilSlice] [(0,.t 17)]),.o 19 (.app 4 72 (.t 14) (.t 18)),.m 5 19]))) (.ops [.v 20 .add 10 .w,.m 10 20]))))))) (.r [.m 21 5,.m 4 21]))))⟩
def fn87:AFunc:=⟨8,1,[(2,some (some 4))],(.s [.p 1 0,.o 2 (.box (.c (.agg [.str [],.str [],.str [],.nilSlice])))] (.s [.a 3 3 1,.l 4 3,.c 5 91 [.t 4],.a 6 3 1,.s 1 6 5] (.r [.r 7 4 1,.s 4 2 7])))⟩
def fn88:AFunc:=⟨22,2,[(4,none)],(.s [.o 4 (.mov (.c .nilSlice))] (.s [.o 5 (.mov (.c .nilSlice))] (.seq (.s [.m 8 0,.n 9 8,.o 10 (.mov .z)] (.block 0 (.loop (.s [.u 11 .lss 10 9] (.seq (.i 11 .skip (.exit 0)) (.seq (.block 1 (.s [.h 12 3 8 10,.r 13 3 12,.o 7 (.box (.c (.agg [.str [],.str [],.nilSlice]))),.s 3 7 13] (.ops [.m 14 5,.m 15 1,.r 16 3 7,.o 17 (.call (.t 15) [.t 16]),.o 18 (.bslice 3 1 [.str [],.str [],.nilSlice] [(0,.t 17)]),.o 19 (.app 3 56 (.t 14) (.t 18)),.m 5 19]))) (.ops [.v 20 .add 10 .w,.m 10 20]))))))) (.r [.m 21 5,.m 4 21]))))⟩
def fn89:AFunc:=⟨8,1,[(2,some (some 3))],(.s [.p 1 0,.o 2 (.box (.c (.agg [.str [],.str [],.nilSlice])))] (.s [.a 3 2 1,.l 4 3,.c 5 92 [.t 4],.a 6 2 1,.s 1 6 5] (.r [.r 7 3 1,.s 3 2 7])))⟩
def fn91:AFunc:=⟨8,1,[(2,none)],(.s [.o 2 (.mov (.c .nilSlice))] (.seq (.s [.m 3 0,.o 4 (.eqv false .nilS (.t 3) (.c .nilSlice))] (.j 4 [.o 2 (.mov (.c .nilSlice))])) (.r [.o 5 (.bslice 1 0 [.str []] []),.m 6 0,.o 7 (.app 1 16 (.t 5) (.t 6)),.m 2 7])))⟩
def fn92:AFunc:=⟨8,1,[(2,none)],(.s [.o 2 (.mov (.c .nilSlice))] (.seq (.s [.m 3 0,.o 4 (.eqv false .nilS (.t 3) (.c .nilSlice))] (.j 4 [.o 2 (.mov (.c .nilSlice))])) (.r [.o 5 (.bslice 1 0 [.int .i64 0] []),.m 6 0,.o 7 (.app 1 8 (.t 5) (.t 6)),.m 2 7])))⟩
def fn93:AFunc:=⟨8,2,[(4,none)],(.s [.p 3 1,.o 4 (.mov .z)] (.r [.m 5 0,.o 6 (.mkfn (.func 174) [] [.t 3]),.c 7 173 [.t 5,.t 6],.m 4 7]))⟩
def fn94:AFunc:=⟨8,2,[(4,none)],(.s [.p 3 1,.o 4 (.mov .z)] (.r [.m 5 0,.o 6 (.mkfn (.func 176) [] [.t 3]),.c 7 175 [.t 5,.t 6],.m 4 7]))⟩
def fn95:AFunc:=⟨8,2,[(4,none)],(.s [.p 3 1,.o 4 (.mov .z)] (.r [.m 5 0,.o 6 (.mkfn (.func 178) [] [.t 3]),.c 7 177 [.t 5,.t 6],.m 4 7]))⟩
def fn96:AFunc:=⟨8,2,[(4,none)],(.s [.p 3 1,.o 4 (.mov .z)] (.r [.m 5 0,.o 6 (.mkfn (.func 180) [] [.t 3]),.c 7 179 [.t 5,.t 6],.m 4 7]))⟩
def fn97:AFunc:=⟨8,2,[(4,none)],(.s [.p 3 1,.o 4 (.mov .z)] (.r [.m 5 0,.o 6 (.mkfn (.func 182) [] [.t 3]),.c 7 181 [.t 5,.t 6],.m 4 7]))⟩
def fn98:AFunc:=⟨19,2,[(4,none)],(.s [.o 4 (.mov .z)] (.seq (.s [.m 6 0,.n 7 6,.o 8 (.mov .z)] (.block 0 (.loop (.s [.u 9 .lss 8 7] (.seq (.i 9 .skip (.exit 0)) (.seq (.block 1 (.s [.m 10 8,.m 5 10] (.s [.m 11 1,.m 12 0,.m 13 5,.h 14 3 12 13,.r 15 3 14,.o 16 (.call (.t 11) [.t 15])] (.j 16 [.m 17 5,.m 4 17])))) (.ops [.v 18 .add 8 .w,.m 8 18]))))))) (.r [.o 4 (.mov (.n (-1)))])))⟩
def fn99:AFunc:=⟨9,1,[(3,none)],(.s [.p 2 0,.o 3 (.mov .F)] (.r [.y 4 (.load (some 3) (.t 2)),.y 5 (.conv (.ifc 84) (.t 4)),.y 6 (.call (.c (.func (.method "moveout/house.name") [] [])) [.t 5]),.j 7 1,.u 8 .eql 6 7,.m 3 8]))⟩
def fn100:AFunc:=⟨15,1,[(2,none)],(.s [.o 2 (.mov .z)] (.seq (.s [.m 5 0,.n 6 5,.o 7 (.mov .z)] (.block 0 (.loop (.s [.u 8 .lss 7 6] (.seq (.i 8 .skip (.exit 0)) (.seq (.block 1 (.s [.h 9 1 5 7,.l 10 9,.m 4 10] (.s [.m 11 4,.v 12 .neq 11 .z] (.j 12 [.m 13 4,.m 2 13])))) (.ops [.v 14 .add 7 .w,.m 7 14]))))))) (.r [.o 2 (.mov .z)])))⟩
def fn101:AFunc:=⟨7,2,[(4,none)],(.s [.o 4 (.mov .z)] (.seq (.s [.m 5 0] (.j 5 [.m 6 1,.m 4 6])) (.r [.o 4 (.mov .z)])))⟩
def fn102:AFunc:=⟨22,2,[(4,none)],(.s [.o 4 (.mov (.c .nilSlice))] (.s [.o 5 (.mov (.c .nilSlice))] (.seq (.s [.m 8 0,.n 9 8,.o 10 (.mov .z)] (.block 0 (.loop (.s [.u 11 .lss 10 9] (.seq (.i 11 .skip (.exit 0)) (.seq (.block 1 (.s [.h 12 10 8 10,.r 13 10 12,.o 7 (.box (.c (.agg [.int .i64 0,.int .i64 0,.int .i64 0,.int .i64 0,.int .i64 0,.int .i64 0,.int .i64 0,.int .i64 0,.bool false,.nilSlice]))),.s 10 7 13] (.ops [.m 14 5,.m 15 1,.r 16 10 7,.o 17 (.call (.t 15) [.t 16]),.o 18 (.bslice 1 1 [.int .i64 0] [(0,.t 17)]),.o 19 (.app 1 8 (.t 14) (.t 18)),.m 5 19]))) (.ops [.v 20 .add 10 .w,.m 10 20]))))))) (.r [.m 21 5,.m 4 21]))))⟩
def fn103:AFunc:=⟨40,1,[(2,none)],(.s [.p 1 0,.o 2 (.mov .z)] (.seq (.s [.a 6 0 1,.r 7 8 6,.o 8 (.mov .z)] (.block 0 (.loop (.s [.v 9 .lss 8 (.n 8)] (.seq (.i 9 .skip (.exit 0)) (.seq (.block 1 (.s [.m 10 8,.o 11 (.ixa 8 1 none (.t 7) (.t 8)),.m 3 10,.m 4 11] (.s [.w 12 4,.w 13 3,.y 14 (.iada 8 2 (.g 0) (.t 13)),.y 15 (.iada 2 1 (.t 14) .z),.j 16 15,.w 17 3,.y 18 (.iada 8 2 (.g 0) (.t 17)),.y 19 (.iada 2 1 (.t 18) .w),.j 20 19,.c 21 183 [.t 12,.t 16,.t 20],.m 5 21] (.s [.m 22 5,.v 23 .neq 22 .z] (.j 23 [.m 24 5,.m 2 24]))))) (.ops [.v 25 .add 8 .w,.m 8 25]))))))) (.r [.y 26 (.fadr 8 (.t 1)),.j 27 26,.w 28 27,⟨(some 29),.fadr 9 (.t 1),(some (28,true)),true⟩,⟨(some 30),.load none (.t 29),(some (28,true)),true⟩,⟨(some 31),.len .sl (.t 30),(some (28,true)),true⟩,⟨(some 32),.bin .gtr (.t 31) .z,(some (28,true)),true⟩,.y 33 (.pick (.t 28) (.t 32) .F),.y 34 (.call (.f 101) [.t 33,.n 24]),.y 35 (.fadr 9 (.t 1)),.j 36 35,.c 37 184 [.t 36],.o 38 (.bslice 1 2 [.int .i64 0] [(0,.t 34),(1,.t 37)]),.c 39 100 [.t 38],.m 2 39])))⟩
def fn104:AFunc:=⟨13,1,[(2,some none),(3,some none)],(.s [.p 1 0,.o 2 (.box .z),.o 3 (.box .F)] (.seq (.s [.r 6 2 1,.c 7 105 [.t 6]] (.block 0 (.rangeF (.t 7) [8,9] (.ops [.o 5 (.box (.c (.agg [.int .i64 0,.int .i64 0,.int .i64 0,.int .i64 0,.int .i64 0,.int .i64 0,.int .i64 0,.int .i64 0,.bool false,.nilSlice]))),.s 10 5 9]) (.block 1 (.r [.a 10 9 5,.l 11 10,.n 12 11,.s 1 2 12,.x (.store 1 (.t 3) .T)]))))) (.r [.x (.store 1 (.t 2) .z),.x (.store 1 (.t 3) .F)])))⟩
def fn105:AFunc:=⟨4,1,[(2,none)],(.s [.p 1 0,.o 2 (.mov (.c .nilFunc))] (.r [.o 3 (.mkfn (.func 185) [] [.t 1]),.m 2 3]))⟩
def fn106:AFunc:=⟨7,2,[(4,none)],(.s [.o 4 (.mov .z)] (.seq (.s [.m 5 0] (.j 5 [.m 6 1,.m 4 6])) (.r [.o 4 (.mov .z)])))⟩
def fn107:AFunc:=⟨22,2,[(4,none)],(.s [.o 4 (.mov (.c .nilSlice))] (.s [.o 5 (.mov (.c .nilSlice))] (.seq (.s [.m 8 0,.n 9 8,.o 10 (.mov .z)] (.block 0 (.loop (.s [.u 11 .lss 10 9] (.seq (.i 11 .skip (.exit 0)) (.seq (.block 1 (.s [.h 12 1 8 10,.l 13 12,.m 7 13] (.ops [.m 14 5,.m 15 1,.m 16 7,.o 17 (.call (.t 15) [.t 16]),.o 18 (.bslice 1 1 [.int .i64 0] [(0,.t 17)]),.o 19 (.app 1 8 (.t 14) (.t 18)),.m 5 19]))) (.ops [.v 20 .add 10 .w,.m 10 20]))))))) (.r [.m 21 5,.m 4 21]))))⟩
def fn108:AFunc:=⟨5,1,[(2,none)],(.s [.o 2 (.mov .z)] (.r [.m 3 0,.c 4 109 [.t 3,.n (-16),.n 16],.m 2 4]))⟩
def fn109:AFunc:=⟨16,3,[(6,none)],(.s [.o 6 (.mov .z)] (.r [.m 7 0,.m 8 1,.u 9 .lss 7 8,.m 10 9,.t 11 10 false 0,.t 12 10 false 2,.g 13 10 false (.bin .gtr (.t 11) (.t 12)),.f 14 10 13,.c 15 106 [.t 14,.n 3],.m 6 15]))⟩
def fn110:AFunc:=⟨9,2,[(4,none)],(.s [.o 4 (.mov .F)] (.r [.m 5 0,.m 6 1,.c 7 186 [.t 5,.t 6],.v 8 .geq 7 .z,.m 4 8]))⟩
def fn111:AFunc:=⟨6,1,[(2,none)],(.s [.o 2 (.mov .F)] (.r [.m 3 0,.c 4 112 [.t 3],.o 5 (.un .not (.t 4)),.m 2 5]))⟩
def fn112:AFunc:=⟨9,1,[(2,none)],(.s [.o 2 (.mov .F)] (.r [.m 3 0,.v 4 .geq 3 (.n (-16384)),.m 5 4,.t 6 5 true 0,.g 7 5 true (.bin .leq (.t 6) (.n 16384)),.d 8 5 7,.m 2 8]))⟩
def fn113:AFunc:=⟨22,2,[(4,none)],(.s [.o 4 (.mov (.c .nilSlice))] (.s [.o 5 (.mov (.c .nilSlice))] (.seq (.s [.m 8 0,.n 9 8,.o 10 (.mov .z)] (.block 0 (.loop (.s [.u 11 .lss 10 9] (.seq (.i 11 .skip (.exit 0)) (.seq (.block 1 (.s [.h 12 1 8 10,.l 13 12,.m 7 13] (.ops [.m 14 5,.m 15 1,.m 16 7,.o 17 (.call (.t 15) [.t 16]),.o 18 (.bslice 1 1 [.flt .f32 0] [(0,.t 17)]),.o 19 (.app 1 4 (.t 14) (.t 18)),.m 5 19]))) (.ops [.v 20 .add 10 .w,.m 10 20]))))))) (.r [.m 21 5,.m 4 21]))))⟩
def fn114:AFunc:=⟨6,1,[(2,none)],(.s [.o 2 (.mov (.c (.flt .f32 0)))] (.r [.m 3 0,.o 4 (.conv (.i2f .f32) (.t 3)),.v 5 .quo 4 (.c (.flt .f32 1098907648)),.m 2 5]))⟩
def fn115:AFunc:=⟨17,2,[(4,none)],(.s [.o 4 (.mov .z)] (.seq (.s [.m 5 1,.v 6 .lss 5 .z,.m 7 6,.t 8 7 false 1,.t 9 7 false 0,.g 10 7 false (.len .sl (.t 9)),.g 11 7 false (.bin .geq (.t 8) (.t 10)),.f 12 7 11] (.j 12 [.o 4 (.mov .z)])) (.r [.m 13 0,.m 14 1,.h 15 1 13 14,.l 16 15,.m 4 16])))⟩
def fn116:AFunc:=⟨5,1,[(2,some (some 2))],(.s [.o 2 (.box (.c (.agg [.int .i64 0,.bool false])))] (.r [.m 3 0,.o 4 (.build [.int .i64 0,.bool false] [(0,1,.t 3),(1,1,.F)]),.s 2 2 4]))⟩
def fn117:AFunc:=⟨17,2,[(4,none)],(.s [.p 2 0,.p 3 1,.o 4 (.mov .z)] (.r [.y 5 (.fadr 3 (.t 3)),.j 6 5,.y 7 (.iadr 1 (.t 6) .w),.j 8 7,.y 9 (.call (.f 47) [.t 8,.w,.n 64]),.y 10 (.fadr 1 (.t 2)),.j 11 10,.y 12 (.len .sl (.t 11)),.y 13 (.bin .geq (.t 12) (.n 16)),.c 14 34 [.t 13,.n 5],.o 15 (.bslice 1 2 [.int .i64 0] [(0,.t 9),(1,.t 14)]),.c 16 23 [.t 15],.m 4 16]))⟩
def fn118:AFunc:=⟨22,2,[],(.s [.p 3 1] (.ops [.m 4 0,.m 5 0,.o 6 (.nilchk (.t 5)),.a 7 1 6,.l 8 7,.a 9 2 3,.l 10 9,.o 11 (.iadr 1 (.t 10) .z),.l 12 11,.a 13 3 3,.l 14 13,.o 15 (.iadr 1 (.t 14) .w),.l 16 15,.o 17 (.build [.str [],.int .i64 0,.bool false] [(0,1,.t 12),(1,1,.t 16)]),.o 18 (.bslice 3 1 [.str [],.int .i64 0,.bool false] [(0,.t 17)]),.o 19 (.app 3 32 (.t 8) (.t 18)),.o 20 (.nilchk (.t 4)),.a 21 1 20,.s 1 21 19]))⟩
def fn119:AFunc:=⟨4,1,[(2,none)],(.s [.p 1 0,.o 2 (.mov (.c .nilFunc))] (.r [.o 3 (.mkfn (.func 187) [] [.t 1]),.m 2 3]))⟩
def fn120:AFunc:=⟨23,2,[(4,none)],(.s [.p 2 0,.p 3 1,.o 4 (.mov .z)] (.r [.y 5 (.fadr 3 (.t 3)),.j 6 5,.y 7 (.iadr 1 (.t 6) .z),.j 8 7,.y 9 (.fadr 3 (.t 3)),.j 10 9,.y 11 (.iadr 1 (.t 10) .w),.j 12 11,.y 13 (.bin .add (.t 8) (.t 12)),.y 14 (.bin .gtr (.t 13) (.n 999999999)),.y 15 (.call (.f 34) [.t 14,.n 4]),.y 16 (.fadr 2 (.t 2)),.j 17 16,.y 18 (.len .sl (.t 17)),.y 19 (.bin .geq (.t 18) (.n 16)),.c 20 34 [.t 19,.n 5],.o 21 (.bslice 1 2 [.int .i64 0] [(0,.t 15),(1,.t 20)]),.c 22 23 [.t 21],.m 4 22]))⟩
def fn121:AFunc:=⟨27,2,[],(.s [.p 3 1] (.ops [.m 4 0,.m 5 0,.o 6 (.nilchk (.t 5)),.a 7 2 6,.l 8 7,.a 9 2 3,.l 10 9,.o 11 (.iadr 1 (.t 10) .z),.l 12 11,.a 13 3 3,.l 14 13,.o 15 (.iadr 1 (.t 14) .z),.l 16 15,.a 17 3 3,.l 18 17,.o 19 (.iadr 1 (.t 18) .w),.l 20 19,.u 21 .add 16 20,.o 22 (.build [.str [],.int .i64 0] [(0,1,.t 12),(1,1,.t 21)]),.o 23 (.bslice 2 1 [.str [],.int .i64 0] [(0,.t 22)]),.o 24 (.app 2 24 (.t 8) (.t 23)),.o 25 (.nilchk (.t 4)),.a 26 2 25,.s 1 26 24]))⟩
def fn122:AFunc:=⟨5,2,[(4,none)],(.s [.p 2 0,.o 4 (.mov .F)] (.r [.o 4 (.mov .T)]))⟩
def fn123:AFunc:=⟨5,1,[(2,some (some 2))],(.s [.o 2 (.box (.c (.agg [.int .i64 0,.bool false])))] (.r [.m 3 0,.o 4 (.build [.int .i64 0,.bool false] [(0,1,.t 3),(1,1,.T)]),.s 2 2 4]))⟩
def fn124:AFunc:=⟨27,2,[(4,none)],(.s [.p 2 0,.p 3 1,.o 4 (.mov .z)] (.r [.y 5 (.load (some 7) (.t 2)),.y 6 (.fadr 2 (.t 3)),.j 7 6,.y 8 (.iadr 1 (.t 7) .w),.j 9 8,.y 10 (.call (.f 188) [.t 5,.t 9]),.y 11 (.part none 2 (.t 10)),.y 12 (.call (.f 34) [.t 11,.n 23]),.y 13 (.load (some 7) (.t 2)),.y 14 (.load (some 5) (.t 3)),.y 15 (.fadr 2 (.t 3)),.j 16 15,.y 17 (.iadr 1 (.t 16) (.n 2)),.j 18 17,.y 19 (.call (.f 189) [.t 13,.t 14,.t 18]),.y 20 (.fadr 3 (.t 2)),.j 21 20,.y 22 (.len .sl (.t 21)),.y 23 (.bin .geq (.t 22) (.n 64)),.c 24 34 [.t 23,.n 5],.o 25 (.bslice 1 3 [.int .i64 0] [(0,.t 12),(1,.t 19),(2,.t 24)]),.c 26 23 [.t 25],.m 4 26]))⟩
def fn125:AFunc:=⟨27,2,[],(.s [.p 3 1] (.ops [.m 4 0,.m 5 0,.o 6 (.nilchk (.t 5)),.a 7 3 6,.l 8 7,.a 9 2 3,.l 10 9,.o 11 (.iadr 1 (.t 10) .z),.l 12 11,.a 13 2 3,.l 14 13,.o 15 (.iadr 1 (.t 14) .w),.l 16 15,.a 17 2 3,.l 18 17,.o 19 (.iadr 1 (.t 18) (.n 2)),.l 20 19,.o 21 (.bslice 1 1 [.str []] [(0,.t 20)]),.o 22 (.build [.str [],.str [],.nilSlice] [(0,1,.t 12),(1,1,.t 16),(2,1,.t 21)]),.o 23 (.bslice 3 1 [.str [],.str [],.nilSlice] [(0,.t 22)]),.o 24 (.app 3 56 (.t 8) (.t 23)),.o 25 (.nilchk (.t 4)),.a 26 3 25,.s 1 26 24]))⟩
def fn126:AFunc:=⟨35,2,[(4,none)],(.s [.p 2 0,.p 3 1,.o 4 (.mov .z)] (.s [.y 7 (.load (some 7) (.t 2)),.y 8 (.fadr 2 (.t 3)),.j 9 8,.y 10 (.iadr 1 (.t 9) .z),.j 11 10,.y 12 (.call (.f 48) [.t 7,.t 11]),.y 13 (.load (some 7) (.t 2)),.y 14 (.fadr 2 (.t 3)),.j 15 14,.y 16 (.iadr 1 (.t 15) .w),.j 17 16,.y 18 (.call (.f 48) [.t 13,.t 17]),.y 5 (.box (.c (.agg [.str [],.int .i64 0]))),.y 6 (.box (.c (.agg [.str [],.int .i64 0]))),.s 2 5 12,.s 2 6 18] (.r [.y 19 (.load (some 2) (.t 5)),.y 20 (.load (some 2) (.t 6)),.y 21 (.eqv false (.agg [.s,.i]) (.t 19) (.t 20)),.y 22 (.call (.f 34) [.t 21,.n 24]),.y 23 (.load (some 7) (.t 2)),.y 24 (.load (some 5) (.t 3)),.y 25 (.fadr 0 (.t 5)),.j 26 25,.y 27 (.call (.f 189) [.t 23,.t 24,.t 26]),.y 28 (.load (some 7) (.t 2)),.y 29 (.load (some 5) (.t 3)),.y 30 (.fadr 0 (.t 6)),.j 31 30,.c 32 189 [.t 28,.t 29,.t 31],.o 33 (.bslice 1 3 [.int .i64 0] [(0,.t 22),(1,.t 27),(2,.t 32)]),.c 34 23 [.t 33],.m 4 34])))⟩
def fn127:AFunc:=⟨50,2,[],(.s [.p 3 1] (.s [.y 8 (.fadr 2 (.t 3)),.j 9 8,.y 10 (.iadr 1 (.t 9) .z),.j 11 10,.y 12 (.fadr 2 (.t 3)),.j 13 12,.y 14 (.iadr 1 (.t 13) .w),.j 15 14,.w 4 11,.m 5 15] (.s [.m 16 0,.o 17 (.nilchk (.t 16)),.a 18 3 17,.l 19 18,.n 20 19,.o 21 (.mov .z)] (.block 0 (.loop (.s [.u 22 .lss 21 20] (.seq (.i 22 .skip (.exit 0)) (.seq (.block 1 (.s [.m 23 21,.h 24 3 19 21,.r 25 3 24,.o 7 (.box (.c (.agg [.str [],.str [],.nilSlice]))),.m 6 23,.s 3 7 25] (.s [.a 26 2 7,.l 27 26,.m 28 4,.c 29 190 [.t 27,.t 28],.m 30 29,.g 31 30 true (.fadr 2 (.t 7)),.g 32 30 true (.load none (.t 31)),.t 33 30 true 5,.g 34 30 true (.call (.f 190) [.t 32,.t 33]),.g 35 30 true (.un .not (.t 34)),.d 36 30 35] (.i 36 (.opsM [.m 37 0,.o 38 (.nilchk (.t 37)),.a 39 3 38,.j 40 39,.m 41 6,.a 42 2 7,.j 43 42,.m 44 5,.o 45 (.bslice 1 1 [.str []] [(0,.t 44)]),.o 46 (.app 1 16 (.t 43) (.t 45)),.h 47 3 40 41,.a 48 2 47,.s 1 48 46]) .skip)))) (.ops [.v 49 .add 21 .w,.m 21 49])))))))))⟩
def fn128:AFunc:=⟨36,2,[(4,none)],(.s [.p 2 0,.p 3 1,.o 4 (.mov .z)] (.s [.y 8 (.load (some 7) (.t 2)),.y 9 (.fadr 2 (.t 3)),.j 10 9,.y 11 (.iadr 1 (.t 10) .z),.j 12 11,.y 13 (.call (.f 188) [.t 8,.t 12]),.y 14 (.load (some 7) (.t 2)),.y 15 (.fadr 2 (.t 3)),.j 16 15,.y 17 (.iadr 1 (.t 16) .z),.j 18 17,.y 19 (.call (.f 191) [.t 14,.t 18]),.y 5 (.box (.c (.agg [.str [],.int .i64 0,.bool false]))),.s 3 5 13,.m 6 19] (.s [.m 20 6,.o 21 (.mkfn (.func 193) [] [.t 2,.t 3]),.c 22 192 [.t 20,.t 21],.m 7 22] (.r [.y 23 (.fadr 2 (.t 5)),.j 24 23,.y 25 (.call (.f 34) [.t 24,.n 23]),.w 26 6,.y 27 (.len .sl (.t 26)),.y 28 (.fadr 1 (.t 5)),.j 29 28,.y 30 (.bin .lss (.t 27) (.t 29)),.y 31 (.call (.f 34) [.t 30,.n 16]),.w 32 7,.c 33 34 [.t 32,.n 30],.o 34 (.bslice 1 3 [.int .i64 0] [(0,.t 25),(1,.t 31),(2,.t 33)]),.c 35 23 [.t 34],.m 4 35]))))⟩
def fn129:AFunc:=⟨19,2,[],(.s [.p 3 1] (.ops [.w 4 0,.y 5 (.nilchk (.t 4)),.y 6 (.fadr 1 (.t 5)),.j 7 6,.w 8 0,.y 9 (.nilchk (.t 8)),.y 10 (.fadr 1 (.t 9)),.j 11 10,.y 12 (.fadr 2 (.t 3)),.j 13 12,.y 14 (.iadr 1 (.t 13) .z),.j 15 14,.y 16 (.call (.f 93) [.t 11,.t 15]),.h 17 3 7 16,.a 18 2 17,.x (.store 1 (.t 18) .T)]))⟩
def fn130:AFunc:=⟨10,2,[(4,none)],(.s [.p 2 0,.p 3 1,.o 4 (.mov .z)] (.r [.a 5 4 2,.l 6 5,.n 7 6,.v 8 .geq 7 (.n 32),.c 9 34 [.t 8,.n 5],.m 4 9]))⟩
def fn131:AFunc:=⟨22,2,[],(.s [.p 3 1] (.ops [.m 4 0,.m 5 0,.o 6 (.nilchk (.t 5)),.a 7 4 6,.l 8 7,.a 9 2 3,.l 10 9,.o 11 (.iadr 1 (.t 10) .z),.l 12 11,.a 13 2 3,.l 14 13,.o 15 (.iadr 1 (.t 14) .w),.l 16 15,.o 17 (.build [.str [],.str [],.str [],.nilSlice] [(0,1,.t 12),(1,1,(.c (.str [115,104,111,116,115]))),(2,1,.t 16)]),.o 18 (.bslice 4 1 [.str [],.str [],.str [],.nilSlice] [(0,.t 17)]),.o 19 (.app 4 72 (.t 8) (.t 18)),.o 20 (.nilchk (.t 4)),.a 21 4 20,.s 1 21 19]))⟩
def fn132:AFunc:=⟨35,2,[(4,none)],(.s [.p 2 0,.p 3 1,.o 4 (.mov .z)] (.s [.a 6 3 3,.l 7 6,.o 8 (.iadr 1 (.t 7) .w),.l 9 8,.m 5 9] (.seq (.s [.m 10 5,.v 11 .lss 10 .w,.m 12 11,.t 13 12 false 5,.g 14 12 false (.bin .gtr (.t 13) (.n 4)),.f 15 12 14] (.j 15 [.o 4 (.mov (.n 13))])) (.r [.y 16 (.load (some 7) (.t 2)),.y 17 (.fadr 2 (.t 3)),.j 18 17,.y 19 (.iadr 1 (.t 18) .w),.j 20 19,.y 21 (.call (.f 194) [.t 16,.t 20]),.y 22 (.part none 1 (.t 21)),.w 23 5,.y 24 (.bin .sub (.t 23) .w),.y 25 (.iada 4 2 (.g 1) (.t 24)),.y 26 (.iada 2 1 (.t 25) .z),.j 27 26,.y 28 (.bin .neq (.t 22) (.t 27)),.y 29 (.call (.f 34) [.t 28,.n 2]),.y 30 (.load (some 7) (.t 2)),.y 31 (.load (some 5) (.t 3)),.c 32 130 [.t 30,.t 31],.o 33 (.bslice 1 2 [.int .i64 0] [(0,.t 29),(1,.t 32)]),.c 34 23 [.t 33],.m 4 34]))))⟩
def fn133:AFunc:=⟨30,2,[],(.s [.p 3 1] (.ops [.m 4 0,.m 5 0,.o 6 (.nilchk (.t 5)),.a 7 4 6,.l 8 7,.a 9 2 3,.l 10 9,.o 11 (.iadr 1 (.t 10) .z),.l 12 11,.a 13 3 3,.l 14 13,.o 15 (.iadr 1 (.t 14) .w),.l 16 15,.v 17 .sub 16 .w,.o 18 (.iada 4 2 (.g 1) (.t 17)),.o 19 (.iada 2 1 (.t 18) .w),.l 20 19,.a 21 2 3,.l 22 21,.o 23 (.sl 1 (.t 22) (some .w) none),.y 24 (.call (.f 91) [.t 23]),.o 25 (.build [.str [],.str [],.str [],.nilSlice] [(0,1,.t 12),(1,1,.t 20),(3,1,.t 24)]),.o 26 (.bslice 4 1 [.str [],.str [],.str [],.nilSlice] [(0,.t 25)]),.o 27 (.app 4 72 (.t 8) (.t 26)),.o 28 (.nilchk (.t 4)),.a 29 4 28,.s 1 29 27]))⟩
def fn134:AFunc:=⟨36,2,[(4,none)],(.s [.p 2 0,.p 3 1,.o 4 (.mov .z)] (.r [.y 5 (.fadr 2 (.t 3)),.j 6 5,.y 7 (.iadr 1 (.t 6) .w),.j 8 7,.y 9 (.fadr 2 (.t 3)),.j 10 9,.y 11 (.iadr 1 (.t 10) (.n 2)),.j 12 11,.y 13 (.bin .eql (.t 8) (.t 12)),.y 14 (.call (.f 34) [.t 13,.n 24]),.y 15 (.load (some 7) (.t 2)),.y 16 (.fadr 2 (.t 3)),.j 17 16,.y 18 (.iadr 1 (.t 17) .w),.j 19 18,.y 20 (.call (.f 194) [.t 15,.t 19]),.y 21 (.part none 1 (.t 20)),.y 22 (.load (some 7) (.t 2)),.y 23 (.fadr 2 (.t 3)),.j 24 23,.y 25 (.iadr 1 (.t 24) (.n 2)),.j 26 25,.y 27 (.call (.f 194) [.t 22,.t 26]),.y 28 (.part none 1 (.t 27)),.y 29 (.bin .neq (.t 21) (.t 28)),.y 30 (.call (.f 34) [.t 29,.n 2]),.y 31 (.load (some 7) (.t 2)),.y 32 (.load (some 5) (.t 3)),.c 33 130 [.t 31,.t 32],.o 34 (.bslice 1 3 [.int .i64 0] [(0,.t 14),(1,.t 30),(2,.t 33)]),.c 35 23 [.t 34],.m 4 35]))⟩
def fn135:AFunc:=⟨31,2,[],(.s [.p 3 1] (.ops [.m 4 0,.m 5 0,.o 6 (.nilchk (.t 5)),.a 7 4 6,.l 8 7,.a 9 2 3,.l 10 9,.o 11 (.iadr 1 (.t 10) .z),.l 12 11,.m 13 0,.o 14 (.nilchk (.t 13)),.r 15 7 14,.a 16 2 3,.l 17 16,.o 18 (.iadr 1 (.t 17) .w),.l 19 18,.y 20 (.call (.f 194) [.t 15,.t 19]),.o 21 (.part none 1 (.t 20)),.a 22 2 3,.l 23 22,.o 24 (.sl 1 (.t 23) (some .w) none),.y 25 (.call (.f 91) [.t 24]),.o 26 (.build [.str [],.str [],.str [],.nilSlice] [(0,1,.t 12),(1,1,.t 21),(3,1,.t 25)]),.o 27 (.bslice 4 1 [.str [],.str [],.str [],.nilSlice] [(0,.t 26)]),.o 28 (.app 4 72 (.t 8) (.t 27)),.o 29 (.nilchk (.t 4)),.a 30 4 29,.s 1 30 28]))⟩
def fn136:AFunc:=⟨27,2,[(4,none)],(.s [.p 2 0,.p 3 1,.o 4 (.mov .z)] (.s [.y 6 (.load (some 7) (.t 2)),.y 7 (.fadr 2 (.t 3)),.j 8 7,.y 9 (.iadr 1 (.t 8) .w),.j 10 9,.c 11 196 [.t 6,.t 10],.c 12 195 [.t 11,(.f 197)],.m 5 12] (.r [.w 13 5,.y 14 (.call (.f 34) [.t 13,.n 32]),.y 15 (.fadr 3 (.t 3)),.j 16 15,.y 17 (.iadr 1 (.t 16) .w),.j 18 17,.y 19 (.call (.f 47) [.t 18,.w,.n 32]),.y 20 (.fadr 5 (.t 2)),.j 21 20,.y 22 (.len .sl (.t 21)),.y 23 (.bin .geq (.t 22) (.n 16)),.c 24 34 [.t 23,.n 5],.o 25 (.bslice 1 3 [.int .i64 0] [(0,.t 14),(1,.t 19),(2,.t 24)]),.c 26 23 [.t 25],.m 4 26])))⟩
def fn137:AFunc:=⟨28,2,[],(.s [.p 3 1] (.ops [.m 4 0,.m 5 0,.o 6 (.nilchk (.t 5)),.a 7 5 6,.l 8 7,.a 9 2 3,.l 10 9,.o 11 (.iadr 1 (.t 10) .z),.l 12 11,.a 13 2 3,.l 14 13,.o 15 (.iadr 1 (.t 14) .w),.l 16 15,.o 17 (.bslice 1 1 [.int .i64 0] [(0,(.n (-1)))]),.a 18 3 3,.l 19 18,.o 20 (.iadr 1 (.t 19) .w),.l 21 20,.y 22 (.call (.f 198) [.t 17,.t 21]),.o 23 (.build [.str [],.str [],.nilSlice] [(0,1,.t 12),(1,1,.t 16),(2,1,.t 22)]),.o 24 (.bslice 3 1 [.str [],.str [],.nilSlice] [(0,.t 23)]),.o 25 (.app 3 56 (.t 8) (.t 24)),.o 26 (.nilchk (.t 4)),.a 27 5 26,.s 1 27 25]))⟩
def fn138:AFunc:=⟨27,2,[(4,none)],(.s [.p 2 0,.p 3 1,.o 4 (.mov .z)] (.seq (.s [.r 6 7 2,.r 7 5 3,.c 8 199 [.t 6,.t 7],.m 5 8] (.s [.m 9 5,.v 10 .neq 9 .z] (.j 10 [.m 11 5,.m 4 11]))) (.r [.y 12 (.load (some 7) (.t 2)),.y 13 (.fadr 2 (.t 3)),.j 14 13,.y 15 (.iadr 1 (.t 14) .z),.j 16 15,.y 17 (.call (.f 200) [.t 12,.t 16]),.y 18 (.part none 2 (.t 17)),.y 19 (.fadr 3 (.t 3)),.j 20 19,.y 21 (.iadr 1 (.t 20) .w),.j 22 21,.h 23 1 18 22,.l 24 23,.v 25 .neq 24 (.n (-1)),.c 26 34 [.t 25,.n 9],.m 4 26])))⟩
def fn139:AFunc:=⟨11,2,[],(.s [.p 3 1] (.ops [.w 4 0,.y 5 (.load (some 5) (.t 3)),.y 6 (.fadr 3 (.t 3)),.j 7 6,.y 8 (.iadr 1 (.t 7) (.n 2)),.j 9 8,.c 10 201 [.t 4,.t 5,.t 9]]))⟩
def fn140:AFunc:=⟨27,2,[(4,none)],(.s [.p 2 0,.p 3 1,.o 4 (.mov .z)] (.seq (.s [.r 6 7 2,.r 7 5 3,.c 8 199 [.t 6,.t 7],.m 5 8] (.s [.m 9 5,.v 10 .neq 9 .z] (.j 10 [.m 11 5,.m 4 11]))) (.r [.y 12 (.load (some 7) (.t 2)),.y 13 (.fadr 2 (.t 3)),.j 14 13,.y 15 (.iadr 1 (.t 14) .z),.j 16 15,.y 17 (.call (.f 200) [.t 12,.t 16]),.y 18 (.part none 2 (.t 17)),.y 19 (.fadr 3 (.t 3)),.j 20 19,.y 21 (.iadr 1 (.t 20) .w),.j 22 21,.h 23 1 18 22,.l 24 23,.v 25 .eql 24 (.n (-1)),.c 26 34 [.t 25,.n 7],.m 4 26])))⟩
def fn141:AFunc:=⟨7,2,[],(.s [.p 3 1] (.ops [.m 4 0,.r 5 5 3,.c 6 201 [.t 4,.t 5,.n (-1)]]))⟩
def fn142:AFunc:=⟨31,2,[(4,none)],(.s [.p 2 0,.p 3 1,.o 4 (.mov .z)] (.s [.y 6 (.load (some 7) (.t 2)),.y 7 (.fadr 2 (.t 3)),.j 8 7,.y 9 (.iadr 1 (.t 8) .w),.j 10 9,.c 11 200 [.t 6,.t 10],.c 12 202 [.t 11],.m 5 12] (.r [.y 13 (.load (some 7) (.t 2)),.y 14 (.fadr 2 (.t 3)),.j 15 14,.y 16 (.iadr 1 (.t 15) .w),.j 17 16,.y 18 (.call (.f 203) [.t 13,.t 17]),.y 19 (.call (.f 34) [.t 18,.n 23]),.w 20 5,.y 21 (.len .sl (.t 20)),.y 22 (.bin .gtr (.t 21) .z),.y 23 (.call (.f 34) [.t 22,.n 32]),.y 24 (.fadr 6 (.t 2)),.j 25 24,.y 26 (.len .sl (.t 25)),.y 27 (.bin .geq (.t 26) (.n 16)),.c 28 34 [.t 27,.n 5],.o 29 (.bslice 1 3 [.int .i64 0] [(0,.t 19),(1,.t 23),(2,.t 28)]),.c 30 23 [.t 29],.m 4 30])))⟩
def fn143:AFunc:=⟨32,2,[],(.s [.p 3 1] (.ops [.m 4 0,.m 5 0,.o 6 (.nilchk (.t 5)),.a 7 6 6,.l 8 7,.a 9 2 3,.l 10 9,.o 11 (.iadr 1 (.t 10) .z),.l 12 11,.a 13 2 3,.l 14 13,.o 15 (.iadr 1 (.t 14) .w),.l 16 15,.m 17 0,.o 18 (.nilchk (.t 17)),.r 19 7 18,.a 20 2 3,.l 21 20,.o 22 (.iadr 1 (.t 21) .w),.l 23 22,.y 24 (.call (.f 200) [.t 19,.t 23]),.o 25 (.part none 2 (.t 24)),.y 26 (.call (.f 204) [.t 25]),.o 27 (.build [.str [],.str [],.int .i64 0,.bool false] [(0,1,.t 12),(1,1,.t 16),(2,1,.t 26)]),.o 28 (.bslice 4 1 [.str [],.str [],.int .i64 0,.bool false] [(0,.t 27)]),.o 29 (.app 4 48 (.t 8) (.t 28)),.o 30 (.nilchk (.t 4)),.a 31 6 30,.s 1 31 29]))⟩
def fn144:AFunc:=⟨13,2,[(4,none)],(.s [.p 2 0,.p 3 1,.o 4 (.mov .z)] (.r [.y 5 (.load (some 7) (.t 2)),.y 6 (.fadr 2 (.t 3)),.j 7 6,.y 8 (.iadr 1 (.t 7) .z),.j 9 8,.c 10 205 [.t 5,.t 9],.o 11 (.part none 3 (.t 10)),.c 12 34 [.t 11,.n 23],.m 4 12]))⟩
def fn145:AFunc:=⟨19,2,[],(.s [.p 3 1] (.ops [.w 4 0,.y 5 (.nilchk (.t 4)),.y 6 (.fadr 6 (.t 5)),.j 7 6,.w 8 0,.y 9 (.nilchk (.t 8)),.y 10 (.fadr 6 (.t 9)),.j 11 10,.y 12 (.fadr 2 (.t 3)),.j 13 12,.y 14 (.iadr 1 (.t 13) .z),.j 15 14,.y 16 (.call (.f 97) [.t 11,.t 15]),.h 17 4 7 16,.a 18 3 17,.x (.store 1 (.t 18) .T)]))⟩
def fn146:AFunc:=⟨17,1,[(2,none)],(.s [.o 2 (.mov .F)] (.r [.m 3 0,.b 4 .leq (.c (.int .u8 65)) (.t 3),.m 5 4,.t 6 5 true 0,.g 7 5 true (.bin .leq (.t 6) (.c (.int .u8 90))),.d 8 5 7,.m 9 8,.t 10 9 false 0,.g 11 9 false (.bin .leq (.c (.int .u8 97)) (.t 10)),.t 12 9 false 11,.t 13 12 true 0,.g 14 12 true (.bin .leq (.t 13) (.c (.int .u8 122))),.g 15 9 false (.pick (.t 12) (.t 14) .F),.f 16 9 15,.m 2 16]))⟩
def fn147:AFunc:=⟨9,1,[(2,none)],(.s [.o 2 (.mov .F)] (.r [.m 3 0,.b 4 .leq (.c (.int .u8 48)) (.t 3),.m 5 4,.t 6 5 true 0,.g 7 5 true (.bin .leq (.t 6) (.c (.int .u8 57))),.d 8 5 7,.m 2 8]))⟩
def fn170:AFunc:=⟨22,2,[(4,none)],(.s [.o 4 (.mov (.c .nilSlice))] (.s [.o 5 (.mov (.c .nilSlice))] (.seq (.s [.m 8 0,.n 9 8,.o 10 (.mov .z)] (.block 0 (.loop (.s [.u 11 .lss 10 9] (.seq (.i 11 .skip (.exit 0)) (.seq (.block 1 (.s [.h 12 1 8 10,.l 13 12,.m 7 13] (.ops [.m 14 5,.m 15 1,.m 16 7,.o 17 (.call (.t 15) [.t 16]),.o 18 (.bslice 1 1 [.str []] [(0,.t 17)]),.o 19 (.app 1 16 (.t 14) (.t 18)),.m 5 19]))) (.ops [.v 20 .add 10 .w,.m 10 20]))))))) (.r [.m 21 5,.m 4 21]))))⟩
def fn173:AFunc:=⟨19,2,[(4,none)],(.s [.o 4 (.mov .z)] (.seq (.s [.m 6 0,.n 7 6,.o 8 (.mov .z)] (.block 0 (.loop (.s [.u 9 .lss 8 7] (.seq (.i 9 .skip (.exit 0)) (.seq (.block 1 (.s [.m 10 8,.m 5 10] (.s [.m 11 1,.m 12 0,.m 13 5,.h 14 3 12 13,.r 15 3 14,.o 16 (.call (.t 11) [.t 15])] (.j 16 [.m 17 5,.m 4 17])))) (.ops [.v 18 .add 8 .w,.m 8 18]))))))) (.r [.o 4 (.mov (.n (-1)))])))⟩
def fn174:AFunc:=⟨9,1,[(3,none)],(.s [.p 2 0,.o 3 (.mov .F)] (.r [.y 4 (.load (some 3) (.t 2)),.y 5 (.conv (.ifc 131) (.t 4)),.y 6 (.call (.c (.func (.method "moveout/house.name") [] [])) [.t 5]),.j 7 1,.u 8 .eql 6 7,.m 3 8]))⟩
def fn175:AFunc:=⟨19,2,[(4,none)],(.s [.o 4 (.mov .z)] (.seq (.s [.m 6 0,.n 7 6,.o 8 (.mov .z)] (.block 0 (.loop (.s [.u 9 .lss 8 7] (.seq (.i 9 .skip (.exit 0)) (.seq (.block 1 (.s [.m 10 8,.m 5 10] (.s [.m 11 1,.m 12 0,.m 13 5,.h 14 2 12 13,.r 15 2 14,.o 16 (.call (.t 11) [.t 15])] (.j 16 [.m 17 5,.m 4 17])))) (.ops [.v 18 .add 8 .w,.m 8 18]))))))) (.r [.o 4 (.mov (.n (-1)))])))⟩
def fn176:AFunc:=⟨9,1,[(3,none)],(.s [.p 2 0,.o 3 (.mov .F)] (.r [.y 4 (.load (some 2) (.t 2)),.y 5 (.conv (.ifc 132) (.t 4)),.y 6 (.call (.c (.func (.method "moveout/house.name") [] [])) [.t 5]),.j 7 1,.u 8 .eql 6 7,.m 3 8]))⟩
def fn177:AFunc:=⟨19,2,[(4,none)],(.s [.o 4 (.mov .z)] (.seq (.s [.m 6 0,.n 7 6,.o 8 (.mov .z)] (.block 0 (.loop (.s [.u 9 .lss 8 7] (.seq (.i 9 .skip (.exit 0)) (.seq (.block 1 (.s [.m 10 8,.m 5 10] (.s [.m 11 1,.m 12 0,.m 13 5,.h 14 4 12 13,.r 15 4 14,.o 16 (.call (.t 11) [.t 15])] (.j 16 [.m 17 5,.m 4 17])))) (.ops [.v 18 .add 8 .w,.m 8 18]))))))) (.r [.o 4 (.mov (.n (-1)))])))⟩
def fn178:AFunc:=⟨9,1,[(3,none)],(.s [.p 2 0,.o 3 (.mov .F)] (.r [.y 4 (.load (some 4) (.t 2)),.y 5 (.conv (.ifc 133) (.t 4)),.y 6 (.call (.c (.func (.method "moveout/house.name") [] [])) [.t 5]),.j 7 1,.u 8 .eql 6 7,.m 3 8]))⟩
def fn179:AFunc:=⟨19,2,[(4,none)],(.s [.o 4 (.mov .z)] (.seq (.s [.m 6 0,.n 7 6,.o 8 (.mov .z)] (.block 0 (.loop (.s [.u 9 .lss 8 7] (.seq (.i 9 .skip (.exit 0)) (.seq (.block 1 (.s [.m 10 8,.m 5 10] (.s [.m 11 1,.m 12 0,.m 13 5,.h 14 3 12 13,.r 15 3 14,.o 16 (.call (.t 11) [.t 15])] (.j 16 [.m 17 5,.m 4 17])))) (.ops [.v 18 .add 8 .w,.m 8 18]))))))) (.r [.o 4 (.mov (.n (-1)))])))⟩
def fn180:AFunc:=⟨9,1,[(3,none)],(.s [.p 2 0,.o 3 (.mov .F)] (.r [.y 4 (.load (some 3) (.t 2)),.y 5 (.conv (.ifc 134) (.t 4)),.y 6 (.call (.c (.func (.method "moveout/house.name") [] [])) [.t 5]),.j 7 1,.u 8 .eql 6 7,.m 3 8]))⟩
def fn181:AFunc:=⟨19,2,[(4,none)],(.s [.o 4 (.mov .z)] (.seq (.s [.m 6 0,.n 7 6,.o 8 (.mov .z)] (.block 0 (.loop (.s [.u 9 .lss 8 7] (.seq (.i 9 .skip (.exit 0)) (.seq (.block 1 (.s [.m 10 8,.m 5 10] (.s [.m 11 1,.m 12 0,.m 13 5,.h 14 4 12 13,.r 15 4 14,.o 16 (.call (.t 11) [.t 15])] (.j 16 [.m 17 5,.m 4 17])))) (.ops [.v 18 .add 8 .w,.m 8 18]))))))) (.r [.o 4 (.mov (.n (-1)))])))⟩
def fn182:AFunc:=⟨9,1,[(3,none)],(.s [.p 2 0,.o 3 (.mov .F)] (.r [.y 4 (.load (some 4) (.t 2)),.y 5 (.conv (.ifc 105) (.t 4)),.y 6 (.call (.c (.func (.method "moveout/house.name") [] [])) [.t 5]),.j 7 1,.u 8 .eql 6 7,.m 3 8]))⟩
def fn183:AFunc:=⟨16,3,[(6,none)],(.s [.o 6 (.mov .z)] (.r [.m 7 0,.m 8 1,.u 9 .lss 7 8,.m 10 9,.t 11 10 false 0,.t 12 10 false 2,.g 13 10 false (.bin .gtr (.t 11) (.t 12)),.f 14 10 13,.c 15 101 [.t 14,.n 3],.m 6 15]))⟩
def fn184:AFunc:=⟨8,1,[(2,none)],(.s [.o 2 (.mov .z)] (.seq (.s [.m 3 0,.n 4 3,.v 5 .gtr 4 (.n 1024)] (.j 5 [.o 2 (.mov (.n 5))])) (.r [.m 6 0,.c 7 221 [.t 6],.m 2 7])))⟩
def fn185:AFunc:=⟨24,1,[],(.s [.a 5 1 1,.l 6 5,.n 7 6,.o 8 (.mov .z)] (.block 0 (.loop (.s [.u 9 .lss 8 7] (.seq (.i 9 .skip (.exit 0)) (.seq (.block 1 (.s [.m 10 8,.h 11 10 6 8,.r 12 10 11,.o 4 (.box (.c (.agg [.int .i64 0,.int .i64 0,.int .i64 0,.int .i64 0,.int .i64 0,.int .i64 0,.int .i64 0,.int .i64 0,.bool false,.nilSlice]))),.m 3 10,.s 10 4 12] (.s [.a 13 8 4,.l 14 13,.o 15 (.un .not (.t 14)),.m 16 15,.t 17 16 true 0,.t 18 16 true 3,.g 19 16 true (.load (some 10) (.t 4)),.g 20 16 true (.call (.t 17) [.t 18,.t 19]),.g 21 16 true (.un .not (.t 20)),.d 22 16 21] (.i 22 .ret .skip)))) (.ops [.v 23 .add 8 .w,.m 8 23])))))))⟩
def fn186:AFunc:=⟨19,2,[(4,none)],(.s [.o 4 (.mov .z)] (.seq (.s [.m 6 0,.n 7 6,.o 8 (.mov .z)] (.block 0 (.loop (.s [.u 9 .lss 8 7] (.seq (.i 9 .skip (.exit 0)) (.seq (.block 1 (.s [.m 10 8,.m 5 10] (.s [.m 11 1,.m 12 0,.m 13 5,.h 14 1 12 13,.l 15 14,.o 16 (.call (.t 11) [.t 15])] (.j 16 [.m 17 5,.m 4 17])))) (.ops [.v 18 .add 8 .w,.m 8 18]))))))) (.r [.o 4 (.mov (.n (-1)))])))⟩
def fn187:AFunc:=⟨13,2,[(5,none)],(.s [.p 3 0,.o 5 (.mov .F)] (.r [.a 6 2 3,.l 7 6,.l 8 2,.h 9 1 7 8,.l 10 9,.m 11 1,.u 12 .eql 10 11,.m 5 12]))⟩
def fn188:AFunc:=⟨13,2,[(4,some (some 3))],(.s [.p 2 0,.o 4 (.box (.c (.agg [.str [],.int .i64 0,.bool false])))] (.r [.y 5 (.fadr 1 (.t 2)),.j 6 5,.y 7 (.fadr 1 (.t 2)),.j 8 7,.w 9 1,.y 10 (.call (.f 93) [.t 8,.t 9]),.h 11 3 6 10,.r 12 3 11,.s 3 4 12]))⟩
def fn189:AFunc:=⟨17,3,[(6,none)],(.s [.p 3 0,.p 4 1,.o 6 (.mov .z)] (.r [.y 7 (.load (some 7) (.t 3)),.w 8 2,.y 9 (.call (.f 48) [.t 7,.t 8]),.y 10 (.fadr 3 (.t 4)),.j 11 10,.y 12 (.iadr 1 (.t 11) .z),.j 13 12,.c 14 49 [.t 9,.t 13],.o 15 (.un .not (.t 14)),.c 16 34 [.t 15,.n 30],.m 6 16]))⟩
def fn190:AFunc:=⟨9,2,[(4,none)],(.s [.o 4 (.mov .F)] (.r [.m 5 0,.m 6 1,.c 7 222 [.t 5,.t 6],.v 8 .geq 7 .z,.m 4 8]))⟩
def fn191:AFunc:=⟨9,2,[(4,none)],(.s [.p 2 0,.p 3 1,.o 4 (.mov (.c .nilSlice))] (.r [.a 5 3 2,.l 6 5,.o 7 (.mkfn (.func 223) [] [.t 3]),.c 8 53 [.t 6,.t 7],.m 4 8]))⟩
def fn192:AFunc:=⟨9,2,[(4,none)],(.s [.o 4 (.mov .F)] (.r [.m 5 0,.m 6 1,.c 7 98 [.t 5,.t 6],.v 8 .geq 7 .z,.m 4 8]))⟩
def fn193:AFunc:=⟨13,1,[(4,none)],(.s [.p 3 0,.o 4 (.mov .F)] (.r [.y 5 (.load (some 7) (.t 1)),.y 6 (.load (some 3) (.t 3)),.y 7 (.fadr 3 (.t 2)),.j 8 7,.y 9 (.iadr 1 (.t 8) .z),.j 10 9,.c 11 25 [.t 5,.t 6,.t 10],.o 12 (.un .not (.t 11)),.m 4 12]))⟩
def fn194:AFunc:=⟨13,2,[(4,some (some 4))],(.s [.p 2 0,.o 4 (.box (.c (.agg [.str [],.str [],.str [],.nilSlice])))] (.r [.y 5 (.fadr 4 (.t 2)),.j 6 5,.y 7 (.fadr 4 (.t 2)),.j 8 7,.w 9 1,.y 10 (.call (.f 95) [.t 8,.t 9]),.h 11 4 6 10,.r 12 4 11,.s 4 4 12]))⟩
def fn195:AFunc:=⟨9,2,[(4,none)],(.s [.o 4 (.mov .F)] (.r [.m 5 0,.m 6 1,.c 7 173 [.t 5,.t 6],.v 8 .geq 7 .z,.m 4 8]))⟩
def fn196:AFunc:=⟨19,2,[(4,none)],(.s [.p 2 0,.o 4 (.mov (.c .nilSlice))] (.s [.o 7 (.mkmap),.o 5 (.box (.c .nilMap)),.s 1 5 7] (.seq (.s [.r 8 7 2,.m 9 1,.c 10 224 [.t 8,.t 9]] (.block 0 (.rangeF (.t 10) [11] (.ops [.o 6 (.box (.c (.agg [.str [],.str [],.str [],.nilSlice]))),.s 4 6 11]) (.block 1 (.ops [.l 12 5,.a 13 2 6,.l 14 13,.x (.mupd .s (.t 12) (.t 14) .T)]))))) (.r [.a 15 1 2,.l 16 15,.o 17 (.mkfn (.func 226) [] [.t 5]),.c 18 225 [.t 16,.t 17],.m 4 18]))))⟩
def fn197:AFunc:=⟨6,1,[(2,none)],(.s [.p 1 0,.o 2 (.mov .F)] (.r [.a 3 2 1,.l 4 3,.o 5 (.un .not (.t 4)),.m 2 5]))⟩
def fn198:AFunc:=⟨48,2,[(4,none)],(.s [.o 4 (.mov (.c .nilSlice))] (.seq (.s [.m 9 1,.v 10 .lss 9 .z] (.i 10 (.ops [.o 11 (.conv (.ifc 9) (.c (.str [99,97,110,110,111,116,32,98,101,32,110,101,103,97,116,105,118,101]))),.x (.bad)]) .skip)) (.s [.m 13 0,.n 14 13,.o 15 (.conv (.i2i .u64) (.t 14)),.m 16 1,.o 17 (.conv (.i2i .u64) (.t 16)),.c 18 218 [.t 15,.t 17],.m 12 18,.e 19 12 0,.e 20 12 1,.m 5 19,.m 6 20] (.seq (.s [.m 21 5,.v 22 .gtr 21 (.c (.int .u64 0)),.m 23 22,.t 24 23 false 6,.g 25 23 false (.bin .gtr (.t 24) (.c (.int .u64 9223372036854775807))),.f 26 23 25] (.i 26 (.ops [.o 27 (.conv (.ifc 9) (.c (.str [116,104,101,32,114,101,115,117,108,116,32,111,102,32,40,108,101,110,40,120,41,32,42,32,99,111,117,110,116,41,32,111,118,101,114,102,108,111,119,115]))),.x (.bad)]) .skip)) (.s [.m 28 6,.o 29 (.conv (.i2i .i64) (.t 28)),.o 30 (.mksl 1 8 [.int .i64 0] (.t 29) (.t 29)),.m 7 30] (.s [.m 31 7,.m 32 0,.o 33 (.cpy 1 (.t 31) (.t 32)),.m 8 33] (.seq (.block 0 (.loop (.seq (.s [.m 34 8,.m 35 7,.n 36 35,.u 37 .lss 34 36] (.i 37 .skip (.exit 0))) (.block 1 (.ops [.m 38 8,.m 39 7,.m 40 8,.o 41 (.sl 1 (.t 39) (some (.t 40)) none),.m 42 7,.m 43 8,.o 44 (.sl 1 (.t 42) none (some (.t 43))),.o 45 (.cpy 1 (.t 41) (.t 44)),.u 46 .add 38 45,.m 8 46]))))) (.r [.m 47 7,.m 4 47]))))))))⟩
def fn199:AFunc:=⟨28,2,[(4,none)],(.s [.p 2 0,.p 3 1,.o 4 (.mov .z)] (.r [.y 5 (.load (some 7) (.t 2)),.y 6 (.fadr 2 (.t 3)),.j 7 6,.y 8 (.iadr 1 (.t 7) .z),.j 9 8,.y 10 (.call (.f 203) [.t 5,.t 9]),.y 11 (.call (.f 34) [.t 10,.n 23]),.y 12 (.fadr 3 (.t 3)),.j 13 12,.y 14 (.iadr 1 (.t 13) .w),.j 15 14,.y 16 (.load (some 7) (.t 2)),.y 17 (.fadr 2 (.t 3)),.j 18 17,.y 19 (.iadr 1 (.t 18) .z),.j 20 19,.y 21 (.call (.f 200) [.t 16,.t 20]),.y 22 (.part none 2 (.t 21)),.y 23 (.len .sl (.t 22)),.y 24 (.bin .sub (.t 23) .w),.c 25 47 [.t 15,.z,.t 24],.o 26 (.bslice 1 2 [.int .i64 0] [(0,.t 11),(1,.t 25)]),.c 27 23 [.t 26],.m 4 27]))⟩
def fn200:AFunc:=⟨13,2,[(4,some (some 3))],(.s [.p 2 0,.o 4 (.box (.c (.agg [.str [],.str [],.nilSlice])))] (.r [.y 5 (.fadr 5 (.t 2)),.j 6 5,.y 7 (.fadr 5 (.t 2)),.j 8 7,.w 9 1,.y 10 (.call (.f 96) [.t 8,.t 9]),.h 11 3 6 10,.r 12 3 11,.s 3 4 12]))⟩
def fn201:AFunc:=⟨28,3,[],(.s [.p 4 1] (.ops [.w 6 0,.y 7 (.nilchk (.t 6)),.y 8 (.fadr 5 (.t 7)),.j 9 8,.w 10 0,.y 11 (.nilchk (.t 10)),.y 12 (.fadr 5 (.t 11)),.j 13 12,.y 14 (.fadr 2 (.t 4)),.j 15 14,.y 16 (.iadr 1 (.t 15) .z),.j 17 16,.y 18 (.call (.f 96) [.t 13,.t 17]),.y 19 (.iadr 3 (.t 9) (.t 18)),.y 20 (.fadr 2 (.t 19)),.j 21 20,.y 22 (.fadr 3 (.t 4)),.j 23 22,.y 24 (.iadr 1 (.t 23) .w),.j 25 24,.w 26 2,.h 27 1 21 25,.s 1 27 26]))⟩
def fn202:AFunc:=⟨23,1,[(2,none)],(.s [.p 1 0,.o 2 (.mov (.c .nilSlice))] (.s [.o 3 (.mov (.c .nilSlice))] (.seq (.s [.a 5 2 1,.l 6 5,.n 7 6,.o 8 (.mov .z)] (.block 0 (.loop (.s [.u 9 .lss 8 7] (.seq (.i 9 .skip (.exit 0)) (.seq (.block 1 (.s [.m 10 8,.m 4 10] (.s [.a 11 2 1,.l 12 11,.m 13 4,.h 14 1 12 13,.l 15 14,.v 16 .eql 15 (.n (-1))] (.i 16 (.ops [.m 17 3,.m 18 4,.o 19 (.bslice 1 1 [.int .i64 0] [(0,.t 18)]),.o 20 (.app 1 8 (.t 17) (.t 19)),.m 3 20]) .skip)))) (.ops [.v 21 .add 8 .w,.m 8 21]))))))) (.r [.m 22 3,.m 2 22]))))⟩
def fn203:AFunc:=⟨9,2,[(4,none)],(.s [.p 2 0,.p 3 1,.o 4 (.mov .F)] (.r [.a 5 6 2,.l 6 5,.o 7 (.mkfn (.func 228) [] [.t 3]),.c 8 227 [.t 6,.t 7],.m 4 8]))⟩
def fn204:AFunc:=⟨19,1,[(2,none)],(.s [.o 2 (.mov .z)] (.s [.o 3 (.mov .w)] (.seq (.s [.m 6 0,.n 7 6,.o 8 (.mov .z)] (.block 0 (.loop (.s [.u 9 .lss 8 7] (.seq (.i 9 .skip (.exit 0)) (.seq (.block 1 (.s [.h 10 1 6 8,.l 11 10,.m 5 11] (.ops [.m 12 3,.b 13 .mul (.n 257) (.t 12),.m 14 5,.u 15 .add 13 14,.v 16 .rem 15 (.n 16777213),.m 3 16]))) (.ops [.v 17 .add 8 .w,.m 8 17]))))))) (.r [.m 18 3,.m 2 18]))))⟩
def fn205:AFunc:=⟨13,2,[(4,some (some 4))],(.s [.p 2 0,.o 4 (.box (.c (.agg [.str [],.str [],.int .i64 0,.bool false])))] (.r [.y 5 (.fadr 6 (.t 2)),.j 6 5,.y 7 (.fadr 6 (.t 2)),.j 8 7,.w 9 1,.y 10 (.call (.f 97) [.t 8,.t 9]),.h 11 4 6 10,.r 12 4 11,.s 4 4 12]))⟩
def fn218:AFunc:=⟨30,2,[(4,none),(5,none)],(.s [.o 4 (.mov (.c (.int .u64 0))),.o 5 (.mov (.c (.int .u64 0)))] (.seq (.cond .F (.s [.m 11 0,.o 12 (.conv (.i2i .u32) (.t 11)),.m 13 1,.o 14 (.conv (.i2i .u32) (.t 13)),.c 15 241 [.t 12,.t 14],.m 10 15,.e 16 10 0,.e 17 10 1,.m 6 16,.m 7 17] (.r [.m 18 6,.o 19 (.conv (.i2i .u64) (.t 18)),.m 20 7,.o 21 (.conv (.i2i .u64) (.t 20)),.m 4 19,.m 5 21])) .skip) (.s [.m 23 0,.m 24 1,.c 25 242 [.t 23,.t 24],.m 22 25,.e 26 22 0,.e 27 22 1,.m 8 26,.m 9 27] (.r [.m 28 8,.m 29 9,.m 4 28,.m 5 29]))))⟩
def fn221:AFunc:=⟨6,1,[(2,none)],(.s [.o 2 (.mov .z)] (.r [.m 3 0,.c 4 244 [.t 3,(.f 245)],.c 5 100 [.t 4],.m 2 5]))⟩
def fn222:AFunc:=⟨19,2,[(4,none)],(.s [.o 4 (.mov .z)] (.seq (.s [.m 6 0,.n 7 6,.o 8 (.mov .z)] (.block 0 (.loop (.s [.u 9 .lss 8 7] (.seq (.i 9 .skip (.exit 0)) (.seq (.block 1 (.s [.m 10 8,.m 5 10] (.s [.m 11 1,.m 12 0,.m 13 5,.h 14 1 12 13,.l 15 14,.u 16 .eql 11 15] (.j 16 [.m 17 5,.m 4 17])))) (.ops [.v 18 .add 8 .w,.m 8 18]))))))) (.r [.o 4 (.mov (.n (-1)))])))⟩
def fn223:AFunc:=⟨8,1,[(3,none)],(.s [.p 2 0,.o 3 (.mov .F)] (.r [.a 4 1 2,.l 5 4,.l 6 1,.u 7 .eql 5 6,.m 3 7]))⟩
def fn224:AFunc:=⟨6,2,[(4,none)],(.s [.p 2 0,.p 3 1,.o 4 (.mov (.c .nilFunc))] (.r [.o 5 (.mkfn (.func 246) [] [.t 3,.t 2]),.m 4 5]))⟩
def fn225:AFunc:=⟨23,2,[(4,none)],(.s [.o 4 (.mov (.c .nilSlice))] (.s [.o 5 (.mov (.c .nilSlice))] (.seq (.s [.m 8 0,.n 9 8,.o 10 (.mov .z)] (.block 0 (.loop (.s [.u 11 .lss 10 9] (.seq (.i 11 .skip (.exit 0)) (.seq (.block 1 (.s [.h 12 3 8 10,.r 13 3 12,.o 7 (.box (.c (.agg [.str [],.int .i64 0,.bool false]))),.s 3 7 13] (.s [.m 14 1,.r 15 3 7,.o 16 (.call (.t 14) [.t 15])] (.i 16 (.ops [.m 17 5,.r 18 3 7,.o 19 (.bslice 3 1 [.str [],.int .i64 0,.bool false] [(0,.t 18)]),.o 20 (.app 3 32 (.t 17) (.t 19)),.m 5 20]) .skip)))) (.ops [.v 21 .add 10 .w,.m 10 21]))))))) (.r [.m 22 5,.m 4 22]))))⟩
def fn226:AFunc:=⟨8,1,[(3,none)],(.s [.p 2 0,.o 3 (.mov .F)] (.r [.l 4 1,.a 5 0 2,.l 6 5,.o 7 (.look .s (.bool false) false (.t 4) (.t 6)),.m 3 7]))⟩
def fn227:AFunc:=⟨9,2,[(4,none)],(.s [.o 4 (.mov .F)] (.r [.m 5 0,.m 6 1,.c 7 181 [.t 5,.t 6],.v 8 .geq 7 .z,.m 4 8]))⟩
def fn228:AFunc:=⟨8,1,[(3,none)],(.s [.p 2 0,.o 3 (.mov .F)] (.r [.a 4 1 2,.l 5 4,.l 6 1,.u 7 .eql 5 6,.m 3 7]))⟩
def fn242:AFunc:=⟨51,2,[(4,none),(5,none)],(.s [.o 4 (.mov (.c (.int .u64 0))),.o 5 (.mov (.c (.int .u64 0)))] (.s [.m 14 0,.v 15 .and 14 (.c (.int .u64 4294967295)),.m 6 15] (.s [.m 16 0,.v 17 .shr 16 (.c (.int .u64 32)),.m 7 17] (.s [.m 18 1,.v 19 .and 18 (.c (.int .u64 4294967295)),.m 8 19] (.s [.m 20 1,.v 21 .shr 20 (.c (.int .u64 32)),.m 9 21] (.s [.m 22 6,.m 23 8,.u 24 .mul 22 23,.m 10 24] (.s [.m 25 7,.m 26 8,.u 27 .mul 25 26,.m 28 10,.v 29 .shr 28 (.c (.int .u64 32)),.u 30 .add 27 29,.m 11 30] (.s [.m 31 11,.v 32 .and 31 (.c (.int .u64 4294967295)),.m 12 32] (.s [.m 33 11,.v 34 .shr 33 (.c (.int .u64 32)),.m 13 34] (.s [.m 35 12,.m 36 6,.m 37 9,.u 38 .mul 36 37,.u 39 .add 35 38,.m 12 39] (.s [.m 40 7,.m 41 9,.u 42 .mul 40 41,.m 43 13,.u 44 .add 42 43,.m 45 12,.v 46 .shr 45 (.c (.int .u64 32)),.u 47 .add 44 46,.m 4 47] (.r [.m 48 0,.m 49 1,.u 50 .mul 48 49,.m 5 50]))))))))))))⟩
def fn244:AFunc:=⟨22,2,[(4,none)],(.s [.o 4 (.mov (.c .nilSlice))] (.s [.o 5 (.mov (.c .nilSlice))] (.seq (.s [.m 8 0,.n 9 8,.o 10 (.mov .z)] (.block 0 (.loop (.s [.u 11 .lss 10 9] (.seq (.i 11 .skip (.exit 0)) (.seq (.block 1 (.s [.h 12 1 8 10,.l 13 12,.m 7 13] (.ops [.m 14 5,.m 15 1,.m 16 7,.o 17 (.call (.t 15) [.t 16]),.o 18 (.bslice 1 1 [.int .i64 0] [(0,.t 17)]),.o 19 (.app 1 8 (.t 14) (.t 18)),.m 5 19]))) (.ops [.v 20 .add 10 .w,.m 10 20]))))))) (.r [.m 21 5,.m 4 21]))))⟩
def fn245:AFunc:=⟨13,1,[(2,none)],(.s [.o 2 (.mov .z)] (.r [.m 3 0,.c 4 264 [.t 3],.o 5 (.un .not (.t 4)),.c 6 101 [.t 5,.w],.m 7 0,.c 8 265 [.t 7,.n 1024],.o 9 (.un .not (.t 8)),.c 10 101 [.t 9,.n 3],.o 11 (.bslice 1 2 [.int .i64 0] [(0,.t 6),(1,.t 10)]),.c 12 100 [.t 11],.m 2 12]))⟩
def fn246:AFunc:=⟨56,1,[],(.s [.o 11 (.mkmap),.l 12 1,.x (.mupd .s (.t 11) (.t 12) .T),.m 13 11,.o 4 (.box (.c .nilMap)),.s 1 4 13] (.seq (.s [.a 14 4 2,.l 15 14,.c 16 247 [.t 15]] (.block 0 (.rangeF (.t 16) [17,18] (.ops [.o 6 (.box (.c (.agg [.str [],.str [],.str [],.nilSlice]))),.s 4 6 18]) (.block 1 (.s [.a 19 3 6,.l 20 19,.n 21 20,.o 22 (.mov .z)] (.block 2 (.loop (.s [.u 23 .lss 22 21] (.seq (.i 23 .skip (.exit 2)) (.seq (.block 3 (.s [.h 24 1 20 22,.l 25 24,.m 8 25] (.ops [.l 26 4,.m 27 8,.l 28 4,.m 29 8,.o 30 (.look .s (.bool false) false (.t 28) (.t 29)),.m 31 30,.g 32 31 false (.load none (.t 4)),.g 33 31 false (.fadr 0 (.t 6)),.g 34 31 false (.load none (.t 33)),.g 35 31 false (.look .s (.bool false) false (.t 32) (.t 34)),.f 36 31 35,.x (.mupd .s (.t 26) (.t 27) (.t 36))]))) (.ops [.v 37 .add 22 .w,.m 22 37]))))))))))) (.s [.a 38 4 2,.l 39 38,.n 40 39,.o 41 (.mov .z)] (.block 4 (.loop (.s [.u 42 .lss 41 40] (.seq (.i 42 .skip (.exit 4)) (.seq (.block 5 (.s [.h 43 4 39 41,.r 44 4 43,.o 10 (.box (.c (.agg [.str [],.str [],.str [],.nilSlice]))),.s 4 10 44] (.s [.l 45 4,.a 46 0 10,.l 47 46,.o 48 (.look .s (.bool false) false (.t 45) (.t 47)),.m 49 48,.t 50 49 true 0,.g 51 49 true (.load (some 4) (.t 10)),.g 52 49 true (.call (.t 50) [.t 51]),.g 53 49 true (.un .not (.t 52)),.d 54 49 53] (.i 54 .ret .skip)))) (.ops [.v 55 .add 41 .w,.m 41 55])))))))))⟩
def fn247:AFunc:=⟨4,1,[(2,none)],(.s [.p 1 0,.o 2 (.mov (.c .nilFunc))] (.r [.o 3 (.mkfn (.func 266) [] [.t 1]),.m 2 3]))⟩
def fn264:AFunc:=⟨7,1,[(2,none)],(.s [.o 2 (.mov .F)] (.r [.m 3 0,.m 4 0,.u 5 .sub 3 4,.v 6 .eql 5 (.c (.flt .f32 0)),.m 2 6]))⟩
def fn265:AFunc:=⟨25,2,[(4,none)],(.s [.o 4 (.mov .F)] (.r [.m 5 1,.o 6 (.conv (.i2f .f32) (.t 5)),.o 7 (.un .neg (.t 6)),.m 8 0,.u 9 .leq 7 8,.m 10 9,.t 11 10 true 0,.t 12 10 true 1,.g 13 10 true (.conv (.i2f .f32) (.t 12)),.g 14 10 true (.bin .leq (.t 11) (.t 13)),.d 15 10 14,.m 16 15,.t 17 16 true 0,.g 18 16 true (.bin .mul (.t 17) (.c (.flt .f32 1098907648))),.g 19 16 true (.conv (.f2i .i64) (.t 18)),.g 20 16 true (.conv (.i2f .f32) (.t 19)),.t 21 16 true 0,.g 22 16 true (.bin .mul (.t 21) (.c (.flt .f32 1098907648))),.g 23 16 true (.bin .eql (.t 20) (.t 22)),.d 24 16 23,.m 4 24]))⟩
def fn266:AFunc:=⟨19,1,[],(.s [.l 4 1,.n 5 4,.v 6 .sub 5 .w,.m 3 6] (.block 0 (.loop (.seq (.s [.m 7 3,.v 8 .geq 7 .z] (.i 8 .skip (.exit 0))) (.seq (.block 1 (.s [.m 11 0,.m 12 3,.l 13 1,.m 14 3,.h 15 4 13 14,.r 16 4 15,.o 17 (.call (.t 11) [.t 12,.t 16]),.o 18 (.un .not (.t 17))] (.i 18 .ret .skip))) (.ops [.m 9 3,.v 10 .sub 9 .w,.m 3 10]))))))⟩
def fn298:AFunc:=⟨5,1,[(2,none)],(.s [.p 1 0,.o 2 (.mov (.c (.str [])))] (.r [.a 3 0 1,.l 4 3,.m 2 4]))⟩
def fn299:AFunc:=⟨5,1,[(2,none)],(.s [.p 1 0,.o 2 (.mov (.c (.str [])))] (.r [.a 3 0 1,.l 4 3,.m 2 4]))⟩
def fn300:AFunc:=⟨5,1,[(2,none)],(.s [.p 1 0,.o 2 (.mov (.c (.str [])))] (.r [.a 3 0 1,.l 4 3,.m 2 4]))⟩
def fn301:AFunc:=⟨5,1,[(2,none)],(.s [.p 1 0,.o 2 (.mov (.c (.str [])))] (.r [.a 3 0 1,.l 4 3,.m 2 4]))⟩
def fn302:AFunc:=⟨5,1,[(2,none)],(.s [.p 1 0,.o 2 (.mov (.c (.str [])))] (.r [.a 3 0 1,.l 4 3,.m 2 4]))⟩
abbrev Cf(P:Program)(n:Nat)(A:AFunc):Prop:=compileFn P n=some A
structure Tbl(P:Program):Prop where
 mix:P.follows .mixedOrders=true
 m299:methF P 131 "moveout/house.name" =some 299
 m300:methF P 132 "moveout/house.name" =some 300
 m55:methF P 84 "moveout/house.name" =some 55
 m301:methF P 133 "moveout/house.name" =some 301
 m302:methF P 134 "moveout/house.name" =some 302
 m298:methF P 105 "moveout/house.name" =some 298
 c2:Cf P 2 fn2
 c3:Cf P 3 fn3
 c4:Cf P 4 fn4
 c5:Cf P 5 fn5
 c6:Cf P 6 fn6
 c7:Cf P 7 fn7
 c8:Cf P 8 fn8
 c9:Cf P 9 fn9
 c10:Cf P 10 fn10
 c14:Cf P 14 fn14
 c15:Cf P 15 fn15
 c22:Cf P 22 fn22
 c23:Cf P 23 fn23
 c24:Cf P 24 fn24
 c25:Cf P 25 fn25
 c26:Cf P 26 fn26
 c27:Cf P 27 fn27
 c28:Cf P 28 fn28
 c29:Cf P 29 fn29
 c30:Cf P 30 fn30
 c31:Cf P 31 fn31
 c32:Cf P 32 fn32
 c33:Cf P 33 fn33
 c34:Cf P 34 fn34
 c35:Cf P 35 fn35
 c40:Cf P 40 fn40
 c41:Cf P 41 fn41
 c44:Cf P 44 fn44
 c45:Cf P 45 fn45
 c46:Cf P 46 fn46
 c47:Cf P 47 fn47
 c48:Cf P 48 fn48
 c49:Cf P 49 fn49
 c50:Cf P 50 fn50
 c51:Cf P 51 fn51
 c52:Cf P 52 fn52
 c53:Cf P 53 fn53
 c54:Cf P 54 fn54
 c55:Cf P 55 fn55
 c56:Cf P 56 fn56
 c57:Cf P 57 fn57
 c58:Cf P 58 fn58
 c59:Cf P 59 fn59
 c60:Cf P 60 fn60
 c61:Cf P 61 fn61
 c62:Cf P 62 fn62
 c63:Cf P 63 fn63
 c64:Cf P 64 fn64
 c65:Cf P 65 fn65
 c66:Cf P 66 fn66
 c67:Cf P 67 fn67
 c68:Cf P 68 fn68
 c69:Cf P 69 fn69
 c70:Cf P 70 fn70
 c73:Cf P 73 fn73
 c83:Cf P 83 fn83
 c84:Cf P 84 fn84
 c85:Cf P 85 fn85
 c86:Cf P 86 fn86
 c87:Cf P 87 fn87
 c88:Cf P 88 fn88
 c89:Cf P 89 fn89
 c91:Cf P 91 fn91
 c92:Cf P 92 fn92
 c93:Cf P 93 fn93
 c94:Cf P 94 fn94
 c95:Cf P 95 fn95
 c96:Cf P 96 fn96
 c97:Cf P 97 fn97
 c98:Cf P 98 fn98
 c99:Cf P 99 fn99
 c100:Cf P 100 fn100
 c101:Cf P 101 fn101
 c102:Cf P 102 fn102
 c103:Cf P 103 fn103
 c104:Cf P 104 fn104
 c105:Cf P 105 fn105
 c106:Cf P 106 fn106
 c107:Cf P 107 fn107
 c108:Cf P 108 fn108
 c109:Cf P 109 fn109
 c110:Cf P 110 fn110
 c111:Cf P 111 fn111
 c112:Cf P 112 fn112
 c113:Cf P 113 fn113
 c114:Cf P 114 fn114
 c115:Cf P 115 fn115
 c116:Cf P 116 fn116
 c117:Cf P 117 fn117
 c118:Cf P 118 fn118
 c119:Cf P 119 fn119
 c120:Cf P 120 fn120
 c121:Cf P 121 fn121
 c122:Cf P 122 fn122
 c123:Cf P 123 fn123
 c124:Cf P 124 fn124
 c125:Cf P 125 fn125
 c126:Cf P 126 fn126
 c127:Cf P 127 fn127
 c128:Cf P 128 fn128
 c129:Cf P 129 fn129
 c130:Cf P 130 fn130
 c131:Cf P 131 fn131
 c132:Cf P 132 fn132
 c133:Cf P 133 fn133
 c134:Cf P 134 fn134
 c135:Cf P 135 fn135
 c136:Cf P 136 fn136
 c137:Cf P 137 fn137
 c138:Cf P 138 fn138
 c139:Cf P 139 fn139
 c140:Cf P 140 fn140
 c141:Cf P 141 fn141
 c142:Cf P 142 fn142
 c143:Cf P 143 fn143
 c144:Cf P 144 fn144
 c145:Cf P 145 fn145
 c146:Cf P 146 fn146
 c147:Cf P 147 fn147
 c170:Cf P 170 fn170
 c173:Cf P 173 fn173
 c174:Cf P 174 fn174
 c175:Cf P 175 fn175
 c176:Cf P 176 fn176
 c177:Cf P 177 fn177
 c178:Cf P 178 fn178
 c179:Cf P 179 fn179
 c180:Cf P 180 fn180
 c181:Cf P 181 fn181
 c182:Cf P 182 fn182
 c183:Cf P 183 fn183
 c184:Cf P 184 fn184
 c185:Cf P 185 fn185
 c186:Cf P 186 fn186
 c187:Cf P 187 fn187
 c188:Cf P 188 fn188
 c189:Cf P 189 fn189
 c190:Cf P 190 fn190
 c191:Cf P 191 fn191
 c192:Cf P 192 fn192
 c193:Cf P 193 fn193
 c194:Cf P 194 fn194
 c195:Cf P 195 fn195
 c196:Cf P 196 fn196
 c197:Cf P 197 fn197
 c198:Cf P 198 fn198
 c199:Cf P 199 fn199
 c200:Cf P 200 fn200
 c201:Cf P 201 fn201
 c202:Cf P 202 fn202
 c203:Cf P 203 fn203
 c204:Cf P 204 fn204
 c205:Cf P 205 fn205
 c218:Cf P 218 fn218
 c221:Cf P 221 fn221
 c222:Cf P 222 fn222
 c223:Cf P 223 fn223
 c224:Cf P 224 fn224
 c225:Cf P 225 fn225
 c226:Cf P 226 fn226
 c227:Cf P 227 fn227
 c228:Cf P 228 fn228
 c242:Cf P 242 fn242
 c244:Cf P 244 fn244
 c245:Cf P 245 fn245
 c246:Cf P 246 fn246
 c247:Cf P 247 fn247
 c264:Cf P 264 fn264
 c265:Cf P 265 fn265
 c266:Cf P 266 fn266
 c298:Cf P 298 fn298
 c299:Cf P 299 fn299
 c300:Cf P 300 fn300
 c301:Cf P 301 fn301
 c302:Cf P 302 fn302
end Go.Abs
namespace Go.Abs
def kset:
  (∀{b o:Nat}{n:Option Nat}{X:AHeap}{K:ABlk}(_:b=X.length),loadF n (.ptr b o) (λz=>(X++[K])[z]?)=ldB n o K)/\
  (∀{b o:Nat}{n:Option Nat}{X a:AHeap}(_:b<X.length),loadF n (.ptr b o) (λz=>(X++a)[z]?)=loadF n (.ptr b o) (λz=>X[z]?))/\
  (∀{b o y:Nat}{v:AV}{X:AHeap}{K:ABlk}(_:b=X.length),storeF y (.ptr b o) v (λz=>(X++[K])[z]?)=stB y o v b K)/\
  (∀{b o y:Nat}{v:AV}{X a:AHeap}(_:b<X.length),storeF y (.ptr b o) v (λz=>(X++a)[z]?)=storeF y (.ptr b o) v (λz=>X[z]?))/\
  (∀{b:Nat}{X:AHeap}{K K':ABlk}(_:b=X.length),(X++[K]).set b K' =X++[K'])/\
  (∀{b:Nat}{X a:AHeap}{K':ABlk}(_:b<X.length),(X++a).set b K' =X.set b K'++a)/\
  (∀{b pos:Nat}{s:List UInt8}{X:AHeap}(_:b=X.length),nextF (.ptr b 0) (λz=>(X++[.iter s pos])[z]?)=nextB b s pos)/\
  (∀{b:Nat}{X a:AHeap}(_:b<X.length),nextF (.ptr b 0) (λz=>(X++a)[z]?)=nextF (.ptr b 0) (λz=>X[z]?)):=by
 refine⟨λh=>?_,λh=>?_,λh=>?_,λh=>?_,λh=>?_,λh=>?_,λh=>?_,λh=>?_⟩
 ·subst h;exact loadF_at at_new
 ·simp only[loadF,at_app _ h]
 ·subst h;exact storeF_at at_new
 ·simp only[storeF,at_app _ h]
 ·subst h;exact set_new
 ·exact set_app _ _ h
 ·subst h;exact nextF_at at_new
 ·simp only[nextF,at_app _ h]
end Go.Abs
namespace Go.Abs
def lh_get{h':AHeap}{X:ABlk}{g:AHeap}{n:Nat}(hn:h'.length=n):(h'++[X]++g)[n]? =some X:=by
 subst hn;rw[List.append_assoc,List.getElem?_append_right (Nat.le_refl _),Nat.sub_self];rfl
def lh_set{h':AHeap}{X Y:ABlk}{g:AHeap}{n:Nat}(hn:h'.length=n):(h'++[X]++g).set n Y=h'++[Y]++g:=by
 subst hn;rw[List.append_assoc,List.set_append_right _ _ (Nat.le_refl _),Nat.sub_self,List.append_assoc];rfl
structure Iter(P:Program)(f:FuncId)(a c:List AV)(L:List (List AV))(pre:AHeap->Prop):Prop where
 run:∀(l:Nat) (h:AHeap) (J:Nat->AHeap->Prop) (D:AHeap->Prop),(∀i k,J i k->pre k)->(∀i k g,J i k->J i (k++g))->
  (∀i (hi:i<L.length) k,J i k->∃b k',SCallV P (.func (.yield l) [] []) L[i] k (.bool b) k'/\(if b=true then J (i+1) k' else D k'))->
  (∀k,J L.length k->D k)->J 0 h->GCall P f (a++[.func (.yield l) [] []]++c) h (λ_ k=>D k)
section
variable {P:Program}{ks:List Kt}{ts:TS}{h:AHeap}{Q:Ex->TS->AHeap->Prop}
def WC.iter(hmix:P.follows .mixedOrders=true){f A a c L pre g ps asg body}(hA:compileFn P f=some A)
  (hg:val ts g=.func (.func f) a c) (hi:Iter P f a c L pre) (hps:∀x∈L,x.length=ps.length) (I:Nat->AHeap->AHeap->Prop) (Fin:Ex->AHeap->AHeap->Prop)
  (h0:I 0 h []) (hcl:∀i h' g g2,I i h' g->I i h' (g++g2)) (hpre:∀i h' g X,h'.length=h.length->I i h' g->pre (h'++[X]++g))
  (step:∀i (hi:i<L.length) h' g (R B:ABlk),h'.length=h.length->I i h' g->
   WC P inRd asg [] (setArgs ts ps L[i]) (h'++[R]++g) λe1 ts2 h2=>e1=.normal/\∃h1 g1,h2=h1++[R]++g1/\h1.length=h.length/\
    WC P inRd body [] ts2 (h1++[B]++g1) λe2 _ h4=>∃h3 g3,h4=h3++[B]++g3/\h3.length=h.length/\(if e2=.normal then I (i+1) h3 g3 else Fin e2 h3 g3))
  (done:∀e h' g,h'.length=h.length->(if e=.normal then I L.length h' g else Fin e h' g)->WE P inFn e ks ts (h'++[ABlk.dead]++g) Q):WC P inFn (.rangeF g ps asg body) ks ts h Q:=by
 let J:Nat->AHeap->Prop:=λi k=>∃h' g,k=h'++[.loop .ready .normal ts ps asg body]++g/\h'.length=h.length/\I i h' g
 let D:AHeap->Prop:=λk=>∃e h' g st,k=h'++[.loop st e ts ps asg body]++g/\h'.length=h.length/\st≠.busy/\(if e=.normal then I L.length h' g else Fin e h' g)
 obtain⟨v,h2,hs,e,h',g',st,rfl,hl,hst,hfin⟩:=hi.run h.length (h++[.loop .ready .normal ts ps asg body]) J D
  (λi k hJ=>by obtain⟨h',g,rfl,h1,h2⟩:=hJ;exact hpre i h' g _ h1 h2)
  (λi k g2 hJ=>by obtain⟨h',g,rfl,h1,h2⟩:=hJ;exact⟨h',g++g2,by rw[List.append_assoc],h1,hcl _ _ _ _ h2⟩)
  (λi hi k hJ=>by
   obtain⟨h',g,rfl,h1,h2⟩:=hJ;obtain⟨e1,ts2,k2,q1,rfl,h3,g3,rfl,h4,q2⟩:=W.sound hmix (step i hi h' g (.loop .ready .normal ts ps asg body) (.loop .busy .normal ts ps asg body) h1 h2);obtain⟨e2,ts3,k3,q3,h5,g5,rfl,h6,q4⟩:=W.sound hmix q2;have hy:SCallV P (.func (.yield h.length) [] []) L[i] (h'++[.loop .ready .normal ts ps asg body]++g) (.bool (decide (e2=.normal))) (List.set (h5++[ABlk.loop .busy .normal ts ps asg body]++g5) h.length (ABlk.loop (if e2=.normal then .ready else .done) e2 ts ps asg body)):=
    SCallV.yield (lh_get h1) (hps _ (List.getElem_mem hi)) (λr=>q1 (some r) ⟨r,rfl⟩) (lh_get h4) (λr=>by rw[lh_set h4];exact q3 (some r) ⟨r,rfl⟩) (lh_get h6)
   rw[lh_set h6]at hy;refine⟨decide (e2=.normal),_,hy,?_⟩;by_cases he:e2=.normal
   ·subst he;rw[if_pos rfl]at q4;simp only[decide_true,if_true];exact⟨h5,g5,rfl,h6,q4⟩
   ·rw[if_neg he]at q4;simp only[he,decide_false,Bool.false_eq_true,if_false];exact⟨e2,h5,g5,.done,rfl,h6,by simp,by rw[if_neg he];exact q4⟩)
  (λk hJ=>by obtain⟨h',g,rfl,h1,h2⟩:=hJ;exact⟨.normal,h',g,.ready,rfl,h1,by simp,by rw[if_pos rfl];exact h2⟩)
  ⟨h,[],by rw[List.append_nil],rfl,h0⟩
 refine⟨e,ts,h'++[ABlk.dead]++g',λr hr=>?_,done e h' g' hl hfin⟩;have:r=none:=hr;subst this;have:=Ev.rangeF (h:=h) (ps:=ps) (asg:=asg) (body:=body) hA hg hs (lh_get hl) hst;rw[lh_set hl]at this;exact this
end
end Go.Abs
namespace Go.Abs
theorem setL_all:∀(l c pre:List AV),c.length=l.length->setL (pre++c) pre.length l=pre++l
 |[],c,pre,h=>by
  have:c=[]:=List.length_eq_zero_iff.1 h;subst this;rfl
 |x::l,[],pre,h=>by simp at h
 |x::l,y::c,pre,h=>by
  have e1:(pre++y::c).set pre.length x=(pre++[x])++c:=by
   rw[List.set_append_right _ _ (Nat.le_refl _),Nat.sub_self,List.append_assoc];rfl
  have e2:pre.length+1=(pre++[x]).length:=by simp
  rw[setL_cons,e1,e2,setL_all l c (pre++[x]) (by simpa using h),List.append_assoc];rfl
theorem flatten_set{es:Nat}{v:AV}:∀{cs:List (List AV)},(∀x∈cs,x.length=es)->∀{i off:Nat}(hi:i<cs.length),off<es->cs.flatten.set (i*es+off) v=(cs.set i (cs[i].set off v)).flatten
 |[],_,i,off,hi,_=>absurd hi (Nat.not_lt_zero _)
 |c::cs,h,0,off,hi,ho=>by
  have hc:c.length=es:=h c (List.mem_cons_self ..);rw[List.flatten_cons,Nat.zero_mul,Nat.zero_add,List.set_append_left _ _ (by omega)];rfl
 |c::cs,h,i+1,off,hi,ho=>by
  have hc:c.length=es:=h c (List.mem_cons_self ..);have h1:=flatten_set (v:=v) (cs:=cs) (λx hx=>h x (List.mem_cons_of_mem _ hx)) (i:=i) (off:=off) (by simpa using hi) ho;rw[List.flatten_cons,List.set_append_right _ _ (by rw[Nat.succ_mul];omega),show(i+1)*es+off-c.length=i*es+off by rw[Nat.succ_mul];omega,h1];rfl
def mksl_ok{es w N0 n:Nat}{z:List AV}{k k':IntKind}(h1:w*n<=2^48)(h2:n<2^63):mkslF es w z (.int k n) (.int k' n) N0=some (.slice N0 0 n es,.push (.cells (zrep n z) true true)):=by
 simp only[mkslF];rw[if_pos ⟨by omega,by omega,by exact_mod_cast h1,by exact_mod_cast h2⟩];rfl
def Fr.zeros{N n es h z}(hN:N<=h.length)(hz:z.length=es):Fr N (h++[.cells (zrep n z) true true]) (.slice h.length 0 n es) es (List.replicate n z):=by
 have:=Fr.push (h:=h) (es:=es) hN (List.replicate n z) (λx hx=>by rw[(List.mem_replicate.1 hx).2];exact hz);rw[List.length_replicate]at this;exact this
section
variable {P:Program}{ro:Option Nat->Prop}{ks:List Kt}{ts:TS}{Q:Ex->TS->AHeap->Prop}{d:Option Nat}{l:List IOp}
def WR.appz{q N b es w h y ys}(hb:h[b]? =some (.cells [] true false))(hN:N<=b)(hy:IsSl h y es ys)(hsz:ys.length*w<=2^46)
  (K:∀s' g,Fr N (h++g) s' es ys->WP P ro l ks (put ts d s') (h++g) Q):WR P ro (appT es w (.slice b 0 0 es) y (λb=>h[b]?) h.length) q d l ks ts h Q:=by
 have hbl:b<h.length:=(List.getElem?_eq_some_iff.1 hb).1;simp only[appT,hy.cellsG,if_true];by_cases hk:ys.length=0
 ·have hys:ys=[]:=List.length_eq_zero_iff.1 hk;subst hys;simp only[List.length_nil,if_true,List.flatten_nil,List.isEmpty_nil];rw[WR_keep];have:=K (.slice b 0 0 es) [] (by rw[List.append_nil];exact Fr.mk (cs:=[]) hN hb (by simp))
  rwa [List.append_nil]at this
 ·simp only[if_neg hk,Nat.zero_add,if_pos hsz,hb];rw[if_pos (by simp),WR_push];exact K _ _ (Fr.push (by omega) ys hy.rows)
def WR.put1{α:Type}{row:α->List AV}{L:List α}{h0 g:AHeap}{s v:AV}{es i off:Nat}{x':α}(hs:Fr h0.length (h0++g) s es (L.map row))(hi:i<L.length)(ho:off<es)(hv:v.one=true)(hx:row x' =(row L[i]).set off v)
  (K:∀g',g'.length=g.length->Fr h0.length (h0++g') s es ((L.set i x').map row)->(∀b,(∀b0 o n e,s=.slice b0 o n e->b≠b0)->(h0++g')[b]? =(h0++g)[b]?)->WP P ro l ks (put ts d undefA) (h0++g') Q):
  WR P ro (storeF 1 (elf s es i off) v (λb=>(h0++g)[b]?)) false d l ks ts (h0++g) Q:=by
 have hrl:=hs.isSl.rows;generalize hcs:L.map row=cs at hs;have hcl:cs.length=L.length:=by rw[<-hcs,List.length_map]
 cases hs with
 |nil=>simp at hcl;omega
 | @mk b _ _ tl hN hb he=>
  have hfl:=flatten_len he;have hie:i*es+off<cs.flatten.length:=by
   rw[hfl,hcl];have:(i+1)*es<=L.length*es:=Nat.mul_le_mul_right _ hi;rw[Nat.succ_mul]at this;omega
  have hset:cs.flatten.set (i*es+off) v=((L.set i x').map row).flatten:=by
   have:=flatten_set (v:=v) he (i:=i) (off:=off) (by omega) ho;rw[this,List.map_set,hx,hcs];congr 2;simp[<-hcs]
  have hbl:b<(h0++g).length:=(List.getElem?_eq_some_iff.1 hb).1;show WR P ro (storeF 1 (.ptr b (0+i*es+off)) v (λb=>(h0++g)[b]?)) false d l ks ts (h0++g) Q;rw[Nat.zero_add,storeF_at hb,stB_one hv (by omega),WR_set,hset,List.set_append_right _ _ hN];refine K _ (by simp) ?_ λb' hb'=>?_
  ·have hl2:((L.set i x').map row).length=cs.length:=by simp[hcl]
   rw[<-hl2];refine Fr.mk hN (tl:=tl) ?_ λy hy=>?_
   ·rw[List.getElem?_append_right hN,List.getElem?_set_self (by simp at hbl;omega)]
   ·rw[List.map_set]at hy;rcases List.mem_or_eq_of_mem_set hy with hy|hy
    ·exact he y (by rw[<-hcs];exact hy)
    ·rw[hy,hx,List.length_set];exact he _ (by rw[<-hcs];exact List.mem_map_of_mem (List.getElem_mem hi))
  ·have hne:=hb' b 0 _ _ rfl;rw[<-List.set_append_right _ _ hN,List.getElem?_set_ne (Ne.symm hne)]
def WR.cpy1{h0 g s sy es cs ys x y}(hx:val ts x=s)(hy:val ts y=sy)(hs:Fr h0.length (h0++g) s es cs)(hsy:IsSl (h0++g) sy es ys)(hl:cs.length=ys.length)
  (K:∀g' v,g'.length=g.length->Fr h0.length (h0++g') s es ys->(∀b,(∀b0 o n e,s=.slice b0 o n e->b≠b0)->(h0++g')[b]? =(h0++g)[b]?)->WP P ro l ks (put ts d v) (h0++g') Q):
  WR P ro (stepT (.cpy es x y) (val ts) (λb=>(h0++g)[b]?) (h0++g).length) false d l ks ts (h0++g) Q:=by
 simp only[stepT,fnT,hx,hy,hsy.cellsG];have hyl:=flatten_len hsy.rows;cases hs with
 |nil=>
  have:ys=[]:=List.length_eq_zero_iff.1 hl.symm;subst this;simp only;rw[WR_keep];exact K g _ rfl .nil λ_ _=>rfl
 | @mk b _ _ tl hN hb he=>
  have hcl:=flatten_len he;have hmin:min ys.length cs.length=ys.length:=by omega
  simp only[if_true,hmin];by_cases hk:ys.length=0
  ·have hys:ys=[]:=List.length_eq_zero_iff.1 hk;have hcs:cs=[]:=List.length_eq_zero_iff.1 (by omega);subst hys;subst hcs;simp only[List.length_nil,if_true];rw[WR_keep];exact K g _ rfl (Fr.mk (cs:=[]) hN hb (by simp)) λ_ _=>rfl
  ·have hbl:b<(h0++g).length:=(List.getElem?_eq_some_iff.1 hb).1;simp only[if_neg hk,hb,Nat.zero_add];rw[if_pos (by rw[hcl,hl];omega),WR_set];have hset:setL cs.flatten 0 (ys.flatten.take (ys.length*es))=ys.flatten:=by
    rw[<-hyl,List.take_length];have:=setL_all ys.flatten cs.flatten [] (by rw[hcl,hyl,hl])
    simpa using this
   rw[hset,List.set_append_right _ _ hN];refine K _ _ (by simp) ?_ λb' hb'=>?_
   ·rw[hl];refine Fr.mk hN (tl:=tl) ?_ hsy.rows;rw[List.getElem?_append_right hN,List.getElem?_set_self (by simp at hbl;omega)]
   ·have hne:=hb' b 0 _ _ rfl;rw[<-List.set_append_right _ _ hN,List.getElem?_set_ne (Ne.symm hne)]
end
end Go.Abs
namespace Go.Abs
section
variable (P:Program) (ro:Option Nat->Prop)
def WQ(l:List IOp)(cs:List Acc)(ks:List Kt)(ts:TS)(h:AHeap)(Q:Ex->TS->AHeap->Prop):Prop:=WOS h l ts cs λts' cs=>accOk cs/\kq P ro ks Q .normal ts' (accApp h cs)
end
section
variable {P:Program}{ro:Option Nat->Prop}{ks:List Kt}{ts:TS}{h:AHeap}{Q:Ex->TS->AHeap->Prop}{d:Option Nat}{q:Bool}{l:List IOp}{cs:List Acc}
end
end Go.Abs
namespace Go.Abs
def pset:
  (∀{ts:TS}{i j:Nat}{v:AV}(_:(i=j)=False),slot (ts.set i v) j=slot ts j)/\
  (∀{ts:TS}{i:Nat}{v:AV}(_:i+1<=ts.length),slot (ts.set i v) i=v)/\
  (∀{ts:TS}{i:Nat}{X:Prop}(_:i+1<=ts.length),inS ts[i]? X=X)/\
  (∀{ts:TS}{i:Nat}{v:AV},(ts.set i v).length=ts.length)/\
  (∀{u:TypeId}{x:AV}{G:Nat->Option ABlk}{N:Nat},convT (.ifc u) x G N=some (.ifc u x,.keep)):=by
 refine⟨λ{ts i j v} h=>?_,λ{ts i v} h=>?_,λ{ts i X} h=>by rw[List.getElem?_eq_getElem h];rfl,λ{ts i v}=>List.length_set,rfl⟩
 ·have hne:i≠j:=λe=>by rw[<-h];exact e
  unfold slot;rw[List.getD,List.getD,List.getElem?_set_ne hne]
 ·unfold slot;rw[List.getD,List.getElem?_set_self h];rfl
end Go.Abs
namespace Go.Abs
abbrev ABlk.b(l:List AV):ABlk:=.cells l true false
abbrev AV.i(n:Int):AV:=.int .i64 n
def Rs{A B F:Prop}(f:F)(b:B)(e:F->(B->A)/\(∃x:Prop,x=B):=by(intro f;refine⟨λb=>?_,?_⟩;(focus (repeat (first|simp (config:={maxSteps:=1000000}) only[wset,hset,dset,bset,Nat.reduceAdd,Nat.reduceMul,Nat.reduceLeDiff,Nat.reduceEqDiff,pset,hlen,if_false,if_true,f]|simp (config:={maxSteps:=1000000}) (disch:=first|(simp only[List.length_append,List.length_cons,List.length_nil]<;>omega)|rfl|omega|fail) only[kset,wset,hset,dset,bset,Nat.reduceAdd,Nat.reduceMul,Nat.reduceLeDiff,Nat.reduceEqDiff,pset,hlen,if_false,if_true,f]));all_goals exact b);first|exact⟨True,rfl⟩|exact⟨_,rfl⟩)):A:=(e f).1 b
def Zs{A B F:Prop}(f:F)(b:B)(e:F->(B->A)/\(∃x:Prop,x=B):=by(intro f;refine⟨λb=>?_,?_⟩;(focus (simp only[wset,hset,dset,bset,Nat.reduceAdd,Nat.reduceMul,Nat.reduceLeDiff,Nat.reduceEqDiff,pset,hlen,if_false,if_true,f]);all_goals exact b);first|exact⟨True,rfl⟩|exact⟨_,rfl⟩)):A:=(e f).1 b
def Ws{A B F:Prop}(f:F)(b:B)(e:F->(B->A)/\(∃x:Prop,x=B):=by(intro f;refine⟨λb=>?_,?_⟩;(focus (simp only[wset,hset,dset,bset,Nat.reduceAdd,Nat.reduceMul,Nat.reduceLeDiff,Nat.reduceEqDiff,if_true,if_false,f]);all_goals exact b);first|exact⟨True,rfl⟩|exact⟨_,rfl⟩)):A:=(e f).1 b
def Wn{A B:Prop}(b:B)(e:(B->A)/\(∃x:Prop,x=B):=by(refine⟨λb=>?_,?_⟩;(focus (simp only[wset,hset,dset,bset,Nat.reduceAdd,Nat.reduceMul,Nat.reduceLeDiff,Nat.reduceEqDiff,if_true,if_false]);all_goals exact b);first|exact⟨True,rfl⟩|exact⟨_,rfl⟩)):A:=e.1 b
def Sq{A F:Prop}(f:F)(e:F->A:=by(intro f;simp only[wset,hset,dset,bset,Nat.reduceAdd,Nat.reduceMul,Nat.reduceLeDiff,Nat.reduceEqDiff,pset,hlen,if_false,if_true,f])):A:=e f
def Sw{A:Prop}(e:A:=by simp only[wset,hset,dset,bset,Nat.reduceAdd,Nat.reduceMul,Nat.reduceLeDiff,Nat.reduceEqDiff,pset,hlen,if_false,if_true]):A:=e
def Sqr{A F:Prop}(f:F)(e:F->A:=by(intro f;(simp only[wset,hset,dset,bset,Nat.reduceAdd,Nat.reduceMul,Nat.reduceLeDiff,Nat.reduceEqDiff,pset,hlen,if_false,if_true,f];rfl))):A:=e f
def Swr{A:Prop}(e:A:=by(simp only[wset,hset,dset,bset,Nat.reduceAdd,Nat.reduceMul,Nat.reduceLeDiff,Nat.reduceEqDiff,pset,hlen,if_false,if_true];rfl)):A:=e
def Sn{A:Prop}(e:A:=by simp only[pset,hlen]):A:=e
def Xx{A:Prop}(e:A:=by repeat first|with_reducible exact Ext.refl _|refine Ext.app _ ?_):A:=e
def RCall.st0{P:Program}{h:AHeap}(nt:Nat)(hmix:P.follows .mixedOrders=true){f:FuncId}{A:AFunc}(hA:compileFn P f=some A){R:AV->AHeap->Prop}(H:∀ts:TS,ts.length=nt->WC P inFn A.body [] ts h (FQ A.rs (λv h'=>Ext h h'/\R v h')))(hn:A.nt=nt:=by rfl)(hl:(startTS nt []).length=nt:=by rfl):RCall P f [] h R:=by
 subst hn;exact .of hmix hA (H (startTS A.nt []) hl)
def RCall.st1{P:Program}{h:AHeap}(nt:Nat)(hmix:P.follows .mixedOrders=true){f:FuncId}{A:AFunc}(hA:compileFn P f=some A){a0:AV}{R:AV->AHeap->Prop}(H:∀ts:TS,ts.length=nt->slot ts 0=a0->WC P inFn A.body [] ts h (FQ A.rs (λv h'=>Ext h h'/\R v h')))(hn:A.nt=nt:=by rfl)(hl:(startTS nt [a0]).length=nt:=by rfl):RCall P f [a0] h R:=by
 subst hn;exact .of hmix hA (H (startTS A.nt [a0]) hl rfl)
def RCall.st2{P:Program}{h:AHeap}(nt:Nat)(hmix:P.follows .mixedOrders=true){f:FuncId}{A:AFunc}(hA:compileFn P f=some A){a0 a1:AV}{R:AV->AHeap->Prop}(H:∀ts:TS,ts.length=nt->slot ts 0=a0->slot ts 1=a1->WC P inFn A.body [] ts h (FQ A.rs (λv h'=>Ext h h'/\R v h')))(hn:A.nt=nt:=by rfl)(hl:(startTS nt [a0,a1]).length=nt:=by rfl):RCall P f [a0,a1] h R:=by
 subst hn;exact .of hmix hA (H (startTS A.nt [a0,a1]) hl rfl rfl)
def GCall.st2{P:Program}{h:AHeap}(nt:Nat)(hmix:P.follows .mixedOrders=true){f:FuncId}{A:AFunc}(hA:compileFn P f=some A){a0 a1:AV}{R:AV->AHeap->Prop}(H:∀ts:TS,ts.length=nt->slot ts 0=a0->slot ts 1=a1->WC P inFn A.body [] ts h (FQ A.rs (R)))(hn:A.nt=nt:=by rfl)(hl:(startTS nt [a0,a1]).length=nt:=by rfl):GCall P f [a0,a1] h R:=by
 subst hn;exact .of hmix hA (H (startTS A.nt [a0,a1]) hl rfl rfl)
def RCall.st3{P:Program}{h:AHeap}(nt:Nat)(hmix:P.follows .mixedOrders=true){f:FuncId}{A:AFunc}(hA:compileFn P f=some A){a0 a1 a2:AV}{R:AV->AHeap->Prop}(H:∀ts:TS,ts.length=nt->slot ts 0=a0->slot ts 1=a1->slot ts 2=a2->WC P inFn A.body [] ts h (FQ A.rs (λv h'=>Ext h h'/\R v h')))(hn:A.nt=nt:=by rfl)(hl:(startTS nt [a0,a1,a2]).length=nt:=by rfl):RCall P f [a0,a1,a2] h R:=by
 subst hn;exact .of hmix hA (H (startTS A.nt [a0,a1,a2]) hl rfl rfl rfl)
def GCall.st3{P:Program}{h:AHeap}(nt:Nat)(hmix:P.follows .mixedOrders=true){f:FuncId}{A:AFunc}(hA:compileFn P f=some A){a0 a1 a2:AV}{R:AV->AHeap->Prop}(H:∀ts:TS,ts.length=nt->slot ts 0=a0->slot ts 1=a1->slot ts 2=a2->WC P inFn A.body [] ts h (FQ A.rs (R)))(hn:A.nt=nt:=by rfl)(hl:(startTS nt [a0,a1,a2]).length=nt:=by rfl):GCall P f [a0,a1,a2] h R:=by
 subst hn;exact .of hmix hA (H (startTS A.nt [a0,a1,a2]) hl rfl rfl rfl)
def GCall.st4{P:Program}{h:AHeap}(nt:Nat)(hmix:P.follows .mixedOrders=true){f:FuncId}{A:AFunc}(hA:compileFn P f=some A){a0 a1 a2 a3:AV}{R:AV->AHeap->Prop}(H:∀ts:TS,ts.length=nt->slot ts 0=a0->slot ts 1=a1->slot ts 2=a2->slot ts 3=a3->WC P inFn A.body [] ts h (FQ A.rs (R)))(hn:A.nt=nt:=by rfl)(hl:(startTS nt [a0,a1,a2,a3]).length=nt:=by rfl):GCall P f [a0,a1,a2,a3] h R:=by
 subst hn;exact .of hmix hA (H (startTS A.nt [a0,a1,a2,a3]) hl rfl rfl rfl rfl)
def WF.ce{P:Program}{ro:Option Nat->Prop}{ks:List Kt}{ts:TS}{h:AHeap}{Q:Ex->TS->AHeap->Prop}{q:Bool}{f:FuncId}{A:AFunc}(hA:compileFn P f=some A){a c args:List AV}{d:Option Nat}{l:List IOp}{V:AV}(H:RCall P f (a++args++c) h (λv _=>v=V))(K:∀g,WP P ro l ks (put ts d V) (h++g) Q):WF P ro q (.func (.func f) a c) args d l ks ts h Q:=
 WF.res hA H λ_ g e=>e▸K g
def ldx{W:AHeap}{b:Nat}{B:ABlk}(h:W[b]? =some B){k:AHeap}{n:Option Nat}{a:Nat}(e:Ext W k):loadF n (.ptr b a) (λz=>k[z]?)=ldB n a B:=loadF_at (e.some h)
def dltT{k n:Nat}(h:k<n):decide ((k:Int)<(n:Int))=true:=decide_eq_true (by omega)
def dltF{k n:Nat}(h:¬k<n):decide ((k:Int)<(n:Int))=false:=decide_eq_false (by omega)
end Go.Abs
namespace Go.Abs
def whenS(c:Bool)(e:Int):Int:=if c then e else 0
def rangeS(n lo hi:Int):Int:=if n<lo\/hi<n then 3 else 0
def firstS:List Int->Int
 |[]=>0
 |x::xs=>if x=0 then firstS xs else x
def letterS(c:UInt8):Bool:=(65<=c.toNat&&c.toNat<=90)||(97<=c.toNat&&c.toNat<=122)
def digitS(c:UInt8):Bool:=48<=c.toNat&&c.toNat<=57
def restS(c:UInt8):Bool:=letterS c||digitS c||c.toNat==95
def nameS:List UInt8->Bool
 |[]=>false
 |c::r=>decide (r.length<24)&&letterS c&&r.all restS
end Go.Abs
namespace Go.Abs
section
variable {P:Program}(T:Tbl P) {h:AHeap}
include T
def r106(c:Bool)(e:Int):RCall P 106 [.bool c,.int .i64 e] h (λv _=>v=.int .i64 (whenS c e)):=by
 refine .of T.mix T.c106 ?_;unfold fn106;simp only[uset];cases c<;>simp only[wset]<;>rfl
def r109(n lo hi:Int):RCall P 109 [.int .i64 n,.int .i64 lo,.int .i64 hi] h (λv _=>v=.int .i64 (rangeS n lo hi)):=by
 refine .of T.mix T.c109 ?_;unfold fn109;simp only[uset];simp+contextual only[wset,wsplit,decide_true,decide_false];refine⟨λh1=>?_,λh1=>?_⟩<;>
 ·refine WF.res T.c106 (r106 T _ _) ?_;rintro _ g rfl;simp only[wset];simp[whenS,rangeS,h1]
def r56{s l}(hs:IsSl h s 1 (l.map intRow))(hl:l.length<2^63):RCall P 56 [s] h (λv _=>v=.int .i64 (firstS l)):=by
 refine .of T.mix T.c56 ?_;unfold fn56;simp only[uset];have e1:(l.map intRow).length=l.length:=by simp
 simp only[wset,hs.lenG,e1];refine WL.inv T.mix (λn ts h'=>∃k:Nat,k<=l.length/\n=l.length-k/\h' =h/\firstS l=firstS (l.drop k)/\ts.length=15/\slot ts 5=s/\slot ts 6=.int .i64 l.length/\slot ts 7=.int .i64 k) l.length
  ⟨0,by omega,rfl,rfl,rfl,rfl,rfl,rfl,rfl⟩ ?_
 rintro _ ts _ ⟨k,hk,rfl,rfl,hf,hlen,h5,h6,h7⟩;rw[expl ts 15 hlen];by_cases hlt:k<l.length
 ·have hd:l.drop k=l[k]::l.drop (k+1):=by simp
  have e2:(l.map intRow)[k]'(by omega)=[AV.int .i64 l[k]]:=by simp
  have e3:(k:Int)<l.length:=by omega
  simp+contextual (disch:=omega) only[wset,wsplit,h5,h6,h7,e3,decide_true,hs.iadr,Int.toNat_natCast,hs.load1 _ e2,wrap_in];refine⟨λh1=>?_,λh1=>⟨l.length-(k+1),by omega,k+1,by omega,rfl,?_,rfl⟩⟩
  ·rw[hf,hd,firstS,if_neg h1]
  ·rw[hf,hd,firstS,if_pos (by omega)]
 ·have e3:¬(k:Int)<l.length:=by omega
  have e4:k=l.length:=by omega
  simp+contextual (disch:=omega) only[wset,h5,h6,h7,e3,decide_false,if_true];rw[hf,e4,List.drop_length];rfl
end
end Go.Abs
namespace Go.Abs
set_option maxRecDepth 10000
attribute [local irreducible] WP WC WE WB WR WF WL WG WRg WQ
section
variable {P:Program}(T:Tbl P) {h:AHeap}
include T
end
end Go.Abs
namespace Go.Abs
def rangeS_z{n lo hi:Int}:rangeS n lo hi=0↔lo<=n/\n<=hi:=by
 unfold rangeS;by_cases h:n<lo\/hi<n
 ·rw[if_pos h];omega
 ·rw[if_neg h];omega
def first2{a b:Int}(h:firstS [a,b]=0):a=0/\b=0:=by
 simp only[firstS]at h;by_cases ha:a=0
 ·rw[if_pos ha]at h;by_cases hb:b=0
  ·exact⟨ha,hb⟩
  ·rw[if_neg hb]at h;exact absurd h hb
 ·rw[if_neg ha]at h;exact absurd h ha
set_option maxRecDepth 10000
attribute [local irreducible] WP WC WE WB WR WF WL WG WRg WQ
section
variable {P:Program}(T:Tbl P) {h:AHeap}
include T
end
end Go.Abs
namespace Go.Abs
def first_w2(a b:Bool)(x y:Int):firstS [whenS a x,whenS b y]=if whenS a x=0 then whenS b y else whenS a x:=by
 simp only[firstS];by_cases h:whenS a x=0
 ·rw[if_pos h,if_pos h];by_cases h2:whenS b y=0
  ·rw[if_pos h2,h2]
  ·rw[if_neg h2]
 ·rw[if_neg h,if_neg h]
set_option maxRecDepth 10000
attribute [local irreducible] WP WC WE WB WR WF WL WG WRg WQ
section
variable {P:Program}(T:Tbl P) {h:AHeap}
include T
end
end Go.Abs
namespace Go.Abs
set_option maxRecDepth 10000
attribute [local irreducible] WP WC WE WB WR WF WL WG WRg WQ
section
variable {P:Program}(T:Tbl P) {h:AHeap}
include T
end
end Go.Abs
namespace Go.Abs
def set_ne'{K:AHeap}{a b:Nat}{X k:ABlk}(n:a≠b)(m:K[b]? =some k):(K.set a X)[b]? =some k:=by rw[List.getElem?_set_ne n];exact m
def set_eq'{K:AHeap}{b:Nat}{X k:ABlk}(m:K[b]? =some k):(K.set b X)[b]? =some X:=List.getElem?_set_self (List.getElem?_eq_some_iff.1 m).1
set_option maxRecDepth 10000
attribute [local irreducible] WP WC WE WB WR WF WL WG WRg WQ
section
variable {P:Program}(T:Tbl P) {h:AHeap}
include T
end
end Go.Abs
namespace Go.Abs
def WR.appRf{P ro ks ts Q B Y s es w cs z d l}
  (hs:Fr B.length Y s es cs) (hz:z.length=es) (he:Ext B Y) (hes:0<es) (hsz:(cs.length+1)*w<=2^46)
  (K:∀(W5:AHeap) (s':AV),Ext B W5->Fr B.length W5 s' es (cs++[z])->s'.one=true->WP P ro l ks (put ts d s') W5 Q):
  WR P ro (appT es w s (.slice Y.length 0 1 es) (λb=>(Y++[ABlk.cells z true true])[b]?) (Y++[ABlk.cells z true true]).length) false d l ks ts (Y++[ABlk.cells z true true]) Q:=by
 have hyz:IsSl (Y++[ABlk.cells z true true]) (AV.slice Y.length 0 1 es) es [z]:=by
  have:=(Fr.push (N:=0) (es:=es) (h:=Y) (Nat.zero_le _) [z] (λx hx=>by rw[List.mem_singleton]at hx;rw[hx,hz])).isSl
  simpa using this
 refine WR.app1 (h0:=B) (cs:=cs) (ys:=[z]) (hs.app _) hyz hes (by simp) (by simpa using hsz) (he.trans (Ext.app _ (Ext.refl _))) ?_;intro g' hl' hff hkp;exact K _ _ ⟨_,rfl⟩ hff rfl
set_option maxRecDepth 10000
attribute [local irreducible] WP WC WE WB WR WF WL WG WRg WQ
section
variable {P:Program}(T:Tbl P) {h:AHeap}
include T
end
end Go.Abs
