/- A part of the proof that HouseCopied holds. No condition. -/
import Derived.Test.YtgplmdgpmbegiaaGreatDoorCp4
import Derived.Test.YtgplmdgpmbegiaaGreatDoorCp0
set_option maxHeartbeats 4000000
set_option linter.all false
open Nat (reduceAdd reduceMul reduceLeDiff reduceEqDiff)
namespace Go.Abs
def fc:
  (∀{b o:Nat}{n:Option Nat}{X:ah}{K:ak}(_:b=X.length),aq n (.ptr b o) (λz=>(X++[K])[z]?)=dE n o K)/\
  (∀{b o:Nat}{n:Option Nat}{X a:ah}(_:b<X.length),aq n (.ptr b o) (λz=>(X++a)[z]?)=aq n (.ptr b o) (λz=>X[z]?))/\
  (∀{b o y:Nat}{v:AV}{X:ah}{K:ak}(_:b=X.length),aW y (.ptr b o) v (λz=>(X++[K])[z]?)=km y o v b K)/\
  (∀{b o y:Nat}{v:AV}{X a:ah}(_:b<X.length),aW y (.ptr b o) v (λz=>(X++a)[z]?)=aW y (.ptr b o) v (λz=>X[z]?))/\
  (∀{b:Nat}{X:ah}{K K':ak}(_:b=X.length),(X++[K]).set b K' =X++[K'])/\
  (∀{b:Nat}{X a:ah}{K':ak}(_:b<X.length),(X++a).set b K' =X.set b K'++a)/\
  (∀{b pos:Nat}{s:By}{X:ah}(_:b=X.length),fy (.ptr b 0) (λz=>(X++[.iter s pos])[z]?)=dW b s pos)/\
  (∀{b:Nat}{X a:ah}(_:b<X.length),fy (.ptr b 0) (λz=>(X++a)[z]?)=fy (.ptr b 0) (λz=>X[z]?)):=by
 refine⟨λh=>?_,λh=>?_,λh=>?_,λh=>?_,λh=>?_,λh=>?_,λh=>?_,λh=>?_⟩
 ·subst h;exact aA a8
 ·simp only[aq,c7 _ h]
 ·subst h;exact aL a8
 ·simp only[aW,c7 _ h]
 ·subst h;exact yI
 ·exact eQ _ _ h
 ·subst h;exact dL a8
 ·simp only[fy,c7 _ h]
end Go.Abs
namespace Go.Abs
def ni{h':ah}{X:ak}{g:ah}{n:Nat}(hn:h'.length=n):(h'++[X]++g)[n]? =some X:=by
 subst hn;exact Kb
def ru{h':ah}{X Y:ak}{g:ah}{n:Nat}(hn:h'.length=n):(h'++[X]++g).set n Y=h'++[Y]++g:=by
 subst hn;rw[YR,ZV _ _ (Y9 _),Z2,YR];rfl
structure Iter(P:Program)(f:FuncId)(a c:List AV)(L:List (List AV))(pre:ah->Prop):Prop where
 run:∀(l:Nat) (h:ah) (J:Nat->ah->Prop) (D:ah->Prop),(∀i k,J i k->pre k)->(∀i k g,J i k->J i (k++g))->
  (∀i (hi:i<L.length) k,J i k->∃b k',fh P (.func (.yield l) [] []) L[i] k (.bool b) k'/\(if b=true then J (i+1) k' else D k'))->
  (∀k,J L.length k->D k)->J 0 h->dm P f (a++[.func (.yield l) [] []]++c) h (λ_ k=>D k)
section
variable {P:Program}{ks:List Kt}{ts:TS}{h:ah}{Q:Ex->TS->ah->Prop}
def WC.iter(hmix:P.follows .mixedOrders=true){f A a c L pre g ps asg body}(hA:bQ P f=some A)
  (hg:val ts g=.func (.func f) a c) (hi:Iter P f a c L pre) (hps:∀x∈L,x.length=ps.length) (I:Nat->ah->ah->Prop) (Fin:Ex->ah->ah->Prop)
  (h0:I 0 h []) (hcl:∀i h' g g2,I i h' g->I i h' (g++g2)) (hpre:∀i h' g X,h'.length=h.length->I i h' g->pre (h'++[X]++g))
  (step:∀i (hi:i<L.length) h' g (R B:ak),h'.length=h.length->I i h' g->
   WC P Cq asg [] (setArgs ts ps L[i]) (h'++[R]++g) λe1 U1 h2=>e1=.normal/\∃h1 g1,h2=h1++[R]++g1/\h1.length=h.length/\
    WC P Cq body [] U1 (h1++[B]++g1) λe2 _ h4=>∃h3 g3,h4=h3++[B]++g3/\h3.length=h.length/\(if e2=.normal then I (i+1) h3 g3 else Fin e2 h3 g3))
  (done:∀e h' g,h'.length=h.length->(if e=.normal then I L.length h' g else Fin e h' g)->WE P bL e ks ts (h'++[ak.dead]++g) Q):WC P bL (.fL g ps asg body) ks ts h Q:=by
 let J:Nat->ah->Prop:=λi k=>∃h' g,k=h'++[.loop .ready .normal ts ps asg body]++g/\h'.length=h.length/\I i h' g
 let D:ah->Prop:=λk=>∃e h' g st,k=h'++[.loop st e ts ps asg body]++g/\h'.length=h.length/\st≠.busy/\(if e=.normal then I L.length h' g else Fin e h' g)
 obtain⟨v,h2,hs,e,h',g',st,rfl,hl,bU,Tq⟩:=hi.run h.length (h++[.loop .ready .normal ts ps asg body]) J D
  (λi k hJ=>by obtain⟨h',g,rfl,h1,h2⟩:=hJ;exact hpre i h' g _ h1 h2)
  (λi k g2 hJ=>by obtain⟨h',g,rfl,h1,h2⟩:=hJ;exact⟨h',g++g2,by rw[YR],h1,hcl _ _ _ _ h2⟩)
  (λi hi k hJ=>by
   obtain⟨h',g,rfl,h1,h2⟩:=hJ;obtain⟨e1,U1,k2,q1,rfl,h3,g3,rfl,h4,q2⟩:=W.sound hmix (step i hi h' g (.loop .ready .normal ts ps asg body) (.loop .busy .normal ts ps asg body) h1 h2);obtain⟨e2,ts3,k3,q3,h5,g5,rfl,h6,q4⟩:=W.sound hmix q2;have hy:fh P (.func (.yield h.length) [] []) L[i] (h'++[.loop .ready .normal ts ps asg body]++g) (.bool (decide (e2=.normal))) (List.set (h5++[ak.loop .busy .normal ts ps asg body]++g5) h.length (ak.loop (if e2=.normal then .ready else .done) e2 ts ps asg body)):=
    fh.yield (ni h1) (hps _ (Za hi)) (λr=>q1 (some r) ⟨r,rfl⟩) (ni h4) (λr=>by rw[ru h4];exact q3 (some r) ⟨r,rfl⟩) (ni h6)
   rw[ru h6]at hy;refine⟨decide (e2=.normal),_,hy,?_⟩;by_cases he:e2=.normal
   ·exact Kg
   ·rw[Y6 he]at q4;simp only[he,Zt,ZM,Zf];exact⟨e2,h5,g5,.done,rfl,h6,Si,by rw[Y6 he];exact q4⟩)
  (λk hJ=>by obtain⟨h',g,rfl,h1,h2⟩:=hJ;exact⟨.normal,h',g,.ready,rfl,h1,Si,by rw[Zb rfl];exact h2⟩)
  ⟨h,[],by rw[Zr],rfl,h0⟩
 exact QG
end
end Go.Abs
namespace Go.Abs
theorem ve:∀(l c pre:List AV),c.length=l.length->fK (pre++c) pre.length l=pre++l
 |[],c,pre,h=>by
  exact JG
 |x::l,[],pre,h=>by simp at h
 |x::l,y::c,pre,h=>by
  have e1:(pre++y::c).set pre.length x=(pre++[x])++c:=by
   exact z152
  have e2:pre.length+1=(pre++[x]).length:=Si
  rw[pn,e1,e2,ve l c (pre++[x]) (by simpa using h),YR];rfl
theorem p8{es:Nat}{v:AV}:∀{cs:List (List AV)},(∀x∈cs,x.length=es)->∀{i off:Nat}(hi:i<cs.length),off<es->cs.flatten.set (i*es+off) v=(cs.set i (cs[i].set off v)).flatten
 |[],_,i,off,hi,_=>absurd hi (Nat.not_lt_zero _)
 |c::cs,h,0,off,hi,ho=>by
  have hc:c.length=es:=h c (ZS ..);rw[Z9,aaZ,ZN,List.set_append_left _ _ Om];rfl
 |c::cs,h,i+1,off,hi,ho=>by
  have hc:c.length=es:=h c (ZS ..);have h1:=p8 (v:=v) (cs:=cs) (λx hx=>h x (ZG _ hx)) (i:=i) (off:=off) (by simpa using hi) ho;rw[Z9,ZV _ _ (by rw[aaf];omega),show(i+1)*es+off-c.length=i*es+off by rw[aaf];omega,h1];rfl
def nW{es w N0 n:Nat}{z:List AV}{k k':IntKind}(h1:w*n<=2^48)(h2:n<2^63):ti es w z (.int k n) (.int k' n) N0=some (.slice N0 0 n es,.push (.cells (dN n z) true true)):=by
 simp only[ti];rw[Zb ⟨Om,Om,by exact_mod_cast h1,by exact_mod_cast h2⟩];rfl
def Fr.A1{N n es h z}(hN:N<=h.length)(hz:z.length=es):Fr N (h++[.cells (dN n z) true true]) (.slice h.length 0 n es) es (List.replicate n z):=by
 have:=Fr.push (h:=h) (es:=es) hN (List.replicate n z) (λx hx=>by rw[(List.mem_replicate.1 hx).2];exact hz);rw[Z4]at this;exact this
section
variable {P:Program}{ro:Option Nat->Prop}{ks:List Kt}{ts:TS}{Q:Ex->TS->ah->Prop}{d:Option Nat}{l:List bI}
def WR.ql{q N b es w h y ys}(hb:h[b]? =some (.cells [] true false))(hN:N<=b)(hy:aH h y es ys)(ep:ys.length*w<=2^46)
  (K:∀s' g,Fr N (h++g) s' es ys->WP P ro l ks (put ts d s') (h++g) Q):WR P ro (pF es w (.slice b 0 0 es) y (λb=>h[b]?) h.length) q d l ks ts h Q:=by
 have hbl:b<h.length:=(YQ.1 hb).1;simp only[pF,hy.fg,Zi];by_cases hk:ys.length=0
 ·have hys:ys=[]:=ZZ.1 hk;subst hys;simp only[YX,Zi,List.flatten_nil,List.isEmpty_nil];rw[jm];have:=K (.slice b 0 0 es) [] (by rw[Zr];exact Fr.mk (cs:=[]) hN hb Si)
  rwa [Zr]at this
 ·simp only[Y6 hk,ZN,Zb ep,hb];rw[Zb Si,mz];exact K _ _ (Fr.push Om ys hy.rows)
def WR.vt{α:Type}{row:α->List AV}{L:List α}{h0 g:ah}{s v:AV}{es i off:Nat}{x':α}(hs:Fr h0.length (h0++g) s es (L.map row))(hi:i<L.length)(ho:off<es)(hv:v.one=true)(hx:row x' =(row L[i]).set off v)
  (K:∀g',g'.length=g.length->Fr h0.length (h0++g') s es ((L.set i x').map row)->(∀b,(∀b0 o n e,s=.slice b0 o n e->b≠b0)->(h0++g')[b]? =(h0++g)[b]?)->WP P ro l ks (put ts d az) (h0++g') Q):
  WR P ro (aW 1 (lL s es i off) v (λb=>(h0++g)[b]?)) false d l ks ts (h0++g) Q:=by
 have Tl:=hs.ba.rows;generalize TB:L.map row=cs at hs;have hcl:cs.length=L.length:=by rw[<-TB,YY]
 cases hs with
 |nil=>simp at hcl;omega
 | @mk b _ _ tl hN hb he=>
  have Sg:=eG he;have hie:i*es+off<cs.flatten.length:=by
   rw[Sg,hcl];have:(i+1)*es<=L.length*es:=Z3 _ hi;rw[aaf]at this;omega
  have aT:cs.flatten.set (i*es+off) v=((L.set i x').map row).flatten:=by
   have:=p8 (v:=v) he (i:=i) (off:=off) Om ho;rw[this,aa0,hx,TB];congr 2;simp[<-TB]
  have hbl:b<(h0++g).length:=(YQ.1 hb).1;show WR P ro (aW 1 (.ptr b (0+i*es+off)) v (λb=>(h0++g)[b]?)) false d l ks ts (h0++g) Q;rw[ZN,aL hb,bX hv Om,rR,aT,ZV _ _ hN];refine K _ Si ?_ λb' hb'=>?_
  ·have hl2:((L.set i x').map row).length=cs.length:=by simp[hcl]
   rw[<-hl2];refine Fr.mk hN (tl:=tl) ?_ λy hy=>?_
   ·exact J8
   ·rw[aa0]at hy;rcases aaE hy with hy|hy
    ·exact he y (by rw[<-TB];exact hy)
    ·rw[hy,hx,ZI];exact he _ (by rw[<-TB];exact Zo (Za hi))
  ·exact z130
def WR.My{h0 g s sy es cs ys x y}(hx:val ts x=s)(hy:val ts y=sy)(hs:Fr h0.length (h0++g) s es cs)(hsy:aH (h0++g) sy es ys)(hl:cs.length=ys.length)
  (K:∀g' v,g'.length=g.length->Fr h0.length (h0++g') s es ys->(∀b,(∀b0 o n e,s=.slice b0 o n e->b≠b0)->(h0++g')[b]? =(h0++g)[b]?)->WP P ro l ks (put ts d v) (h0++g') Q):
  WR P ro (stepT (.zb es x y) (val ts) (λb=>(h0++g)[b]?) (h0++g).length) false d l ks ts (h0++g) Q:=by
 simp only[stepT,nv,hx,hy,hsy.fg];have S2:=eG hsy.rows;cases hs with
 |nil=>
  have:ys=[]:=ZZ.1 hl.symm;subst this;simp only;rw[jm];exact K g _ rfl .nil λ_ _=>rfl
 | @mk b _ _ tl hN hb he=>
  have hcl:=eG he;have US:min ys.length cs.length=ys.length:=Om
  simp only[Zi,US];by_cases hk:ys.length=0
  ·have hys:ys=[]:=ZZ.1 hk;have TB:cs=[]:=ZZ.1 Om;subst hys;subst TB;simp only[YX,Zi];rw[jm];exact K g _ rfl (Fr.mk (cs:=[]) hN hb Si) λ_ _=>rfl
  ·have hbl:b<(h0++g).length:=(YQ.1 hb).1;simp only[Y6 hk,hb,ZN];rw[Zb (by rw[hcl,hl];omega),rR];have aT:fK cs.flatten 0 (ys.flatten.take (ys.length*es))=ys.flatten:=by
    rw[<-S2,ZA];have:=ve ys.flatten cs.flatten [] (by rw[hcl,S2,hl])
    simpa using this
   rw[aT,ZV _ _ hN];refine K _ _ Si ?_ λb' hb'=>?_
   ·rw[hl];refine Fr.mk hN (tl:=tl) ?_ hsy.rows;exact J8
   ·exact z130
end
end Go.Abs
namespace Go.Abs
section
variable (P:Program) (ro:Option Nat->Prop)
def WQ(l:List bI)(cs:List Acc)(ks:List Kt)(ts:TS)(h:ah)(Q:Ex->TS->ah->Prop):Prop:=AX h l ts cs λts' cs=>e8 cs/\kq P ro ks Q .normal ts' (dP h cs)
def GN(r:Option AV)(d:Option Nat)(l:List bI)(cs:List Acc)(ks:List Kt)(ts:TS)(h:ah)(Q:Ex->TS->ah->Prop):Prop:=
 match r with
 |some v=>WQ P ro l cs ks (put ts d v) h Q
 |none=>False
def Qh(a:AV)(r:Option (AV×iT))(d:Option Nat)(l:List bI)(cs:List Acc)(ks:List Kt)(ts:TS)(h:ah)(Q:Ex->TS->ah->Prop):Prop:=
 match a,r with
 |.ptr b _,some (v,.au)=>WQ P ro l (cs++[.rd b]) ks (put ts d v) h Q
 |_,_=>False
def Qg(a:AV)(r:Option (AV×iT))(d:Option Nat)(l:List bI)(cs:List Acc)(ks:List Kt)(ts:TS)(h:ah)(Q:Ex->TS->ah->Prop):Prop:=
 match a,r with
 |.ptr _ _,some (v,.set b k)=>WQ P ro l (cs++[.wr b k]) ks (put ts d v) h Q
 |_,_=>False
def Ni(a:AV)(b q:Bool)(k:pf)(d:Option Nat)(l:List bI)(cs:List Acc)(ks:List Kt)(ts:TS)(h:ah)(Q:Ex->TS->ah->Prop):Prop:=
 match a with
 |.bool t=>if t=b then WQ P ro ({dst:=d,k:=k,gd:=none,q:=q} ::l) cs ks ts h Q else WQ P ro l cs ks (put ts d az) h Q
 |_=>WQ P ro l cs ks (put ts d az) h Q
end
section
variable {P:Program}{ro:Option Nat->Prop}{ks:List Kt}{ts:TS}{h:ah}{Q:Ex->TS->ah->Prop}{d:Option Nat}{q:Bool}{l:List bI}{cs:List Acc}
def qG:WC P ro (.sf l) ks ts h Q=WQ P ro l [] ks ts h Q:=rfl
def Da:WQ P ro [] cs ks ts h Q=(e8 cs/\WE P ro .normal ks ts (dP h cs) Q):=rfl
def o6{v}:GN P ro (some v) d l cs ks ts h Q=WQ P ro l cs ks (put ts d v) h Q:=rfl
def o8{v b o}:Qh P ro (.ptr b o) (some (v,.au)) d l cs ks ts h Q=WQ P ro l (cs++[.rd b]) ks (put ts d v) h Q:=rfl
def o7{v b b' o k}:Qg P ro (.ptr b o) (some (v,.set b' k)) d l cs ks ts h Q=WQ P ro l (cs++[.wr b' k]) ks (put ts d v) h Q:=rfl
def kP{k}(hp:fu k=true){r}(hr:stepT k (val ts) (λz=>h[z]?) h.length=r.map λv=>(v,.au)):
  WQ P ro ({dst:=d,k:=k,gd:=none,q:=q} ::l) cs ks ts h Q=GN P ro r d l cs ks ts h Q:=by
 apply propext
 constructor
 ·rintro⟨v,c,⟨hn,_⟩|⟨_,hs⟩,H⟩
  ·exact absurd trivial hn
  rcases hs with⟨_,rfl,hs⟩|⟨n,a,b,off,hk,_⟩|⟨n,a,x,b,off,k',hk,_⟩
  ·have hs:stepT k (val ts) (λz=>h[z]?) h.length=some (v,.au):=hs;rw[hr]at hs;cases r with
   |none=>cases hs
   |some v'=>cases hs;exact H
  ·have hk:k=.load n a:=hk;rw[hk]at hp;cases hp
  ·have hk:k=.store n a x:=hk;rw[hk]at hp;cases hp
 ·intro H;cases r with
  |none=>exact H.elim
  |some v=>exact⟨v,.no,.inr ⟨trivial,.inl ⟨hp,rfl,hr⟩⟩,H⟩
def qC{n a}:WQ P ro ({dst:=d,k:=.load n a,gd:=none,q:=q} ::l) cs ks ts h Q=Qh P ro (val ts a) (aq n (val ts a) (λz=>h[z]?)) d l cs ks ts h Q:=by
 apply propext
 constructor
 ·rintro⟨v,c,⟨hn,_⟩|⟨_,hs⟩,H⟩
  ·exact absurd trivial hn
  rcases hs with⟨hp,_⟩|⟨n',a',b,off,hk,ha,rfl,hs⟩|⟨n',a',x,b,off,k',hk,_⟩
  ·cases hp
  ·cases hk;have hs:aq n (val ts a) (λz=>h[z]?)=some (v,.au):=hs;rw[hs,ha];exact H
  ·cases hk
 ·intro H;unfold Qh at H;split at H
  ·rename_i b o v ha hr;exact⟨v,.rd b,.inr ⟨trivial,.inr (.inl ⟨n,a,b,o,rfl,ha,rfl,hr⟩)⟩,H⟩
  ·exact H.elim
def oT{n a x}:WQ P ro ({dst:=d,k:=.store n a x,gd:=none,q:=q} ::l) cs ks ts h Q=Qg P ro (val ts a) (aW n (val ts a) (val ts x) (λz=>h[z]?)) d l cs ks ts h Q:=by
 apply propext
 constructor
 ·rintro⟨v,c,⟨hn,_⟩|⟨_,hs⟩,H⟩
  ·exact absurd trivial hn
  rcases hs with⟨hp,_⟩|⟨n',a',b,off,hk,_⟩|⟨n',a',x',b,off,k',hk,ha,rfl,hs⟩
  ·cases hp
  ·cases hk
  ·cases hk;have hs:aW n (val ts a) (val ts x) (λz=>h[z]?)=some (v,.set b k'):=hs;rw[hs,ha];exact H
 ·intro H;unfold Qg at H;split at H
  ·rename_i b o v b' k ha hr;have hb:b' =b:=by
    rw[ha]at hr;simp only[aW]at hr;split at hr
    ·split at hr
     ·cases hr;rfl
     ·cases hr
    ·cases hr
   subst hb;exact⟨v,.wr b' k,(.inr ⟨trivial,.inr (.inr ⟨n,a,x,b',o,k,rfl,ha,rfl,hr⟩)⟩),H⟩
  ·exact H.elim
def zm{k g b}:WQ P ro ({dst:=d,k:=k,gd:=some (g,b),q:=q} ::l) cs ks ts h Q=Ni P ro (val ts (.t g)) b q k d l cs ks ts h Q:=by
 have key:∀t:Bool,val ts (.t g)=.bool t->(wanted (some (g,b)) ts↔t=b):=λt hg=>by
  show ts[g]? =some (.bool b)↔_;have hg:ts.getD g az=.bool t:=hg;have e:ts[g]? =some (.bool t):=by
   rw[ZH]at hg;cases hx:ts[g]? with
   |none=>rw[hx]at hg;cases hg
   |some y=>rw[hx]at hg;exact Zz some hg
  rw[e];simp
 have neg:(∀t,val ts (.t g)≠.bool t)->¬wanted (some (g,b)) ts:=λhn hw=>by
  have hw:ts[g]? =some (.bool b):=hw;exact hn b (by show ts.getD g az=_;rw[ZH,hw];rfl)
 have no:¬wanted (some (g,b)) ts->WQ P ro ({dst:=d,k:=k,gd:=some (g,b),q:=q} ::l) cs ks ts h Q=WQ P ro l cs ks (put ts d az) h Q:=λhy=>by
  apply propext
  constructor
  ·rintro⟨v,c,⟨_,rfl,rfl⟩|⟨hn,hs⟩,H⟩
   ·exact H
   ·exact absurd hn hy
  ·intro H;exact⟨az,.no,.inl ⟨hy,rfl,rfl⟩,H⟩
 unfold Ni;split
 ·rename_i t ht;have hw:=key t ht;by_cases e:t=b
  ·rw[Zb e];have hy:=hw.2 e
   apply propext
   constructor
   ·rintro⟨v,c,⟨hn,_⟩|⟨_,hs⟩,H⟩
    ·exact absurd hy hn
    ·exact⟨v,c,.inr ⟨trivial,hs⟩,H⟩
   ·rintro⟨v,c,⟨hn,_⟩|⟨_,hs⟩,H⟩
    ·exact absurd trivial hn
    ·exact⟨v,c,.inr ⟨hy,hs⟩,H⟩
  ·rw[Y6 e];exact no λz=>e (hw.1 z)
 ·rename_i hn;exact no (neg hn)
def uF{k}:Ni P ro (.bool true) true q k d l cs ks ts h Q=WQ P ro ({dst:=d,k:=k,gd:=none,q:=q} ::l) cs ks ts h Q:=rfl
def uG{k}:Ni P ro (.bool false) true q k d l cs ks ts h Q=WQ P ro l cs ks (put ts d az) h Q:=rfl
def qB{c a b}:WQ P ro ({dst:=d,k:=.pick c a b,gd:=none,q:=q} ::l) cs ks ts h Q=GN P ro (td (val ts c) (val ts a) (val ts b)) d l cs ks ts h Q:=by
 refine kP rfl ?_;simp only[stepT,nv,td];cases val ts c<;>rfl
def oX{x}:WQ P ro ({dst:=d,k:=.len .sl x,gd:=none,q:=q} ::l) cs ks ts h Q=GN P ro (ud (jh .sl (λb=>h[b]?) (val ts x))) d l cs ks ts h Q:=by
 refine kP rfl ?_;simp only[stepT,nv,ud];cases jh .sl (λb=>h[b]?) (val ts x)<;>rfl
def uD{x}:WQ P ro ({dst:=d,k:=.cA x,gd:=none,q:=q} ::l) cs ks ts h Q=WQ P ro l cs ks (put ts d (val ts x)) h Q:=kP (r:=some (val ts x)) rfl rfl
def uE{op x y}:WQ P ro ({dst:=d,k:=.bin op x y,gd:=none,q:=q} ::l) cs ks ts h Q=GN P ro (eo op (val ts x) (val ts y)) d l cs ks ts h Q:=by
 refine kP rfl ?_;exact z193
def zl{op x}:WQ P ro ({dst:=d,k:=.un op x,gd:=none,q:=q} ::l) cs ks ts h Q=GN P ro (wW op (val ts x)) d l cs ks ts h Q:=by
 refine kP rfl ?_;simp only[stepT,nv];cases wW op (val ts x)<;>rfl
def qD{off x}:WQ P ro ({dst:=d,k:=.aU off x,gd:=none,q:=q} ::l) cs ks ts h Q=GN P ro (tE off (val ts x)) d l cs ks ts h Q:=by
 refine kP rfl ?_;simp only[stepT,nv,tE];cases val ts x<;>rfl
def mA{x}:WQ P ro ({dst:=d,k:=.bP x,gd:=none,q:=q} ::l) cs ks ts h Q=GN P ro (qj (val ts x)) d l cs ks ts h Q:=by
 refine kP rfl ?_;exact z141
end
def uB{a:List Acc}:[]++a=a:=rfl
def uA{c:Acc}{a b:List Acc}:(c::a)++b=c:: (a++b):=rfl
def oS{h}:dP h []=h:=rfl
def oR{h b cs}:dP h (.rd b::cs)=dP h cs:=rfl
def oQ{h b k cs}:dP h (.wr b k::cs)=dP (h.set b k) cs:=rfl
def AG(b:Nat)(cs:List Acc):Prop:=∀x∈cs,x.dR≠some b
def oP(b:Nat)(cs:List Acc):Prop:=∀x∈cs,∀k,x≠Acc.wr b k
def I5{b}:AG b []=True:=abu λx hx=>by cases hx
def I6{b c cs}:AG b (c::cs)=(c.dR≠some b/\AG b cs):=by
 simp[AG]
def FB{b}:oP b []=True:=abu λx hx=>by cases hx
def FA{b b' cs}:oP b (.rd b'::cs)=oP b cs:=by
 simp[oP]
def Fz{b b' k cs}:oP b (.wr b' k::cs)=(b'≠b/\oP b cs):=by
 unfold oP;simp only[ZC,forall_eq_or_imp];refine propext ⟨λh=>⟨λe=>h.1 k (by rw[e]),h.2⟩,λh=>⟨λk' e=>h.1 (by cases e;rfl),h.2⟩⟩
def Fy:e8 []=True:=rfl
def Fx{b cs}:e8 (.rd b::cs)=(oP b cs/\e8 cs):=by
 unfold oP;simp only[e8,Acc.dR,Zu];refine propext ⟨λh=>⟨λx hx k hk=>h.1 b rfl x hx (by rw[hk]) k k (.inr hk),h.2⟩,λh=>⟨λb' e x hx _ k k' hk=>?_,h.2⟩⟩;subst e;rcases hk with hk|hk
 ·cases hk
 ·exact h.1 x hx k' hk
def Fw{b k cs}:e8 (.wr b k::cs)=(AG b cs/\e8 cs):=by
 unfold AG;simp only[e8,Acc.dR,Zu];refine propext ⟨λh=>⟨λx hx hk=>h.1 b rfl x hx hk k k (.inl rfl),h.2⟩,λh=>⟨λb' e x hx hk _ _ _=>?_,h.2⟩⟩;subst e;exact h.1 x hx hk
def MC{b}:(Acc.rd b).dR=some b:=rfl
def MB{b k}:(Acc.wr b k).dR=some b:=rfl
def bz:
  (∀{ts:TS}{i j:Nat}{v:AV}(_:(i=j)=False),slot (ts.set i v) j=slot ts j)/\
  (∀{ts:TS}{i:Nat}{v:AV}(_:i+1<=ts.length),slot (ts.set i v) i=v)/\
  (∀{ts:TS}{i:Nat}{X:Prop}(_:i+1<=ts.length),LZ ts[i]? X=X)/\
  (∀{ts:TS}{i:Nat}{v:AV},(ts.set i v).length=ts.length)/\
  (∀{u:TypeId}{x:AV}{G:Nat->Option ak}{N:Nat},mN (.uM u) x G N=some (.uM u x,.au)):=by
 refine⟨λ{ts i j v} h=>?_,λ{ts i v} h=>?_,λ{ts i X} h=>by rw[YU h];rfl,λ{ts i v}=>ZI,rfl⟩
 ·have hne:i≠j:=λe=>by rw[<-h];exact e
  unfold slot;rw[List.getD,List.getD,Zc hne]
 ·unfold slot;rw[List.getD,Zd h];rfl
end Go.Abs
namespace Go.Abs
abbrev ak.b(l:List AV):ak:=.cells l true false
abbrev AV.i(n:Int):AV:=.int .i64 n
def Rs{A B F:Prop}(f:F)(b:B)(e:F->(B->A)/\(∃x:Prop,x=B):=by(intro f;refine⟨λb=>?_,?_⟩;(focus (repeat (first|simp (config:={maxSteps:=1000000}) only[aQ,aT,bo,bp,reduceAdd,reduceMul,reduceLeDiff,reduceEqDiff,bz,hlen,Zf,Zi,f]|simp (config:={maxSteps:=1000000}) (disch:=first|(simp only[YP,YV,YX]<;>omega)|rfl|omega|fail) only[fc,aQ,aT,bo,bp,reduceAdd,reduceMul,reduceLeDiff,reduceEqDiff,bz,hlen,Zf,Zi,f]));all_goals exact b);first|exact⟨True,rfl⟩|exact⟨_,rfl⟩)):A:=(e f).1 b
def ph{A B F:Prop}(f:F)(b:B)(e:F->(B->A)/\(∃x:Prop,x=B):=by(intro f;refine⟨λb=>?_,?_⟩;(focus (repeat (first|simp (config:={maxSteps:=1000000}) only[aQ,aT,bo,bp,reduceAdd,reduceMul,reduceLeDiff,reduceEqDiff,bz,hlen,Zf,Zi,reduceCtorEq,f]|simp (config:={maxSteps:=1000000}) (disch:=first|(simp only[YP,YV,YX]<;>omega)|rfl|omega|fail) only[fc,aQ,aT,bo,bp,reduceAdd,reduceMul,reduceLeDiff,reduceEqDiff,bz,hlen,Zf,Zi,reduceCtorEq,f]));all_goals exact b);first|exact⟨True,rfl⟩|exact⟨_,rfl⟩)):A:=(e f).1 b
def Zs{A B F:Prop}(f:F)(b:B)(e:F->(B->A)/\(∃x:Prop,x=B):=by(intro f;refine⟨λb=>?_,?_⟩;(focus (simp only[aQ,aT,bo,bp,reduceAdd,reduceMul,reduceLeDiff,reduceEqDiff,bz,hlen,Zf,Zi,f]);all_goals exact b);first|exact⟨True,rfl⟩|exact⟨_,rfl⟩)):A:=(e f).1 b
def Zn{A B:Prop}(b:B)(e:(B->A)/\(∃x:Prop,x=B):=by(refine⟨λb=>?_,?_⟩;(focus (simp only[aQ,aT,bo,bp,reduceAdd,reduceMul,reduceLeDiff,reduceEqDiff,bz,hlen,Zf,Zi]);all_goals exact b);first|exact⟨True,rfl⟩|exact⟨_,rfl⟩)):A:=e.1 b
def Ws{A B F:Prop}(f:F)(b:B)(e:F->(B->A)/\(∃x:Prop,x=B):=by(intro f;refine⟨λb=>?_,?_⟩;(focus (simp only[aQ,aT,bo,bp,reduceAdd,reduceMul,reduceLeDiff,reduceEqDiff,Zi,Zf,f]);all_goals exact b);first|exact⟨True,rfl⟩|exact⟨_,rfl⟩)):A:=(e f).1 b
def Wn{A B:Prop}(b:B)(e:(B->A)/\(∃x:Prop,x=B):=by(refine⟨λb=>?_,?_⟩;(focus (simp only[aQ,aT,bo,bp,reduceAdd,reduceMul,reduceLeDiff,reduceEqDiff,Zi,Zf]);all_goals exact b);first|exact⟨True,rfl⟩|exact⟨_,rfl⟩)):A:=e.1 b
def Sq{A F:Prop}(f:F)(e:F->A:=by(intro f;simp only[aQ,aT,bo,bp,reduceAdd,reduceMul,reduceLeDiff,reduceEqDiff,bz,hlen,Zf,Zi,f])):A:=e f
def Sw{A:Prop}(e:A:=by simp only[aQ,aT,bo,bp,reduceAdd,reduceMul,reduceLeDiff,reduceEqDiff,bz,hlen,Zf,Zi]):A:=e
def Rw{A F:Prop}(f:F)(e:F->A:=by(intro f;(simp only[aQ,aT,bo,bp,reduceAdd,reduceMul,reduceLeDiff,reduceEqDiff,bz,hlen,Zf,Zi,f];rfl))):A:=e f
def gM{A:Prop}(e:A:=by(simp only[aQ,aT,bo,bp,reduceAdd,reduceMul,reduceLeDiff,reduceEqDiff,bz,hlen,Zf,Zi];rfl)):A:=e
def Sn{A:Prop}(e:A:=by simp only[bz,hlen]):A:=e
def Xx{A:Prop}(e:A:=by repeat first|with_reducible exact Ext.refl _|refine Ext.app _ ?_):A:=e
def ay.Rh{P:Program}{h:ah}(nt:Nat)(hmix:P.follows .mixedOrders=true){f:FuncId}{A:ar}(hA:bQ P f=some A){R:AV->ah->Prop}(H:∀ts:TS,ts.length=nt->WC P bL A.body [] ts h (FQ A.rs (λv h'=>Ext h h'/\R v h')))(hn:A.nt=nt:=by rfl)(hl:(aR nt []).length=nt:=by rfl):ay P f [] h R:=by
 subst hn;exact .of hmix hA (H (aR A.nt []) hl)
def ay.kU{P:Program}{h:ah}(nt:Nat)(hmix:P.follows .mixedOrders=true){f:FuncId}{A:ar}(hA:bQ P f=some A){a0:AV}{R:AV->ah->Prop}(H:∀ts:TS,ts.length=nt->slot ts 0=a0->WC P bL A.body [] ts h (FQ A.rs (λv h'=>Ext h h'/\R v h')))(hn:A.nt=nt:=by rfl)(hl:(aR nt [a0]).length=nt:=by rfl):ay P f [a0] h R:=by
 subst hn;exact .of hmix hA (H (aR A.nt [a0]) hl rfl)
def ay.eP{P:Program}{h:ah}(nt:Nat)(hmix:P.follows .mixedOrders=true){f:FuncId}{A:ar}(hA:bQ P f=some A){a0 a1:AV}{R:AV->ah->Prop}(H:∀ts:TS,ts.length=nt->slot ts 0=a0->slot ts 1=a1->WC P bL A.body [] ts h (FQ A.rs (λv h'=>Ext h h'/\R v h')))(hn:A.nt=nt:=by rfl)(hl:(aR nt [a0,a1]).length=nt:=by rfl):ay P f [a0,a1] h R:=by
 exact JN
def dm.eP{P:Program}{h:ah}(nt:Nat)(hmix:P.follows .mixedOrders=true){f:FuncId}{A:ar}(hA:bQ P f=some A){a0 a1:AV}{R:AV->ah->Prop}(H:∀ts:TS,ts.length=nt->slot ts 0=a0->slot ts 1=a1->WC P bL A.body [] ts h (FQ A.rs (R)))(hn:A.nt=nt:=by rfl)(hl:(aR nt [a0,a1]).length=nt:=by rfl):dm P f [a0,a1] h R:=by
 exact JN
def ay.nM{P:Program}{h:ah}(nt:Nat)(hmix:P.follows .mixedOrders=true){f:FuncId}{A:ar}(hA:bQ P f=some A){a0 a1 a2:AV}{R:AV->ah->Prop}(H:∀ts:TS,ts.length=nt->slot ts 0=a0->slot ts 1=a1->slot ts 2=a2->WC P bL A.body [] ts h (FQ A.rs (λv h'=>Ext h h'/\R v h')))(hn:A.nt=nt:=by rfl)(hl:(aR nt [a0,a1,a2]).length=nt:=by rfl):ay P f [a0,a1,a2] h R:=by
 exact z173
def dm.nM{P:Program}{h:ah}(nt:Nat)(hmix:P.follows .mixedOrders=true){f:FuncId}{A:ar}(hA:bQ P f=some A){a0 a1 a2:AV}{R:AV->ah->Prop}(H:∀ts:TS,ts.length=nt->slot ts 0=a0->slot ts 1=a1->slot ts 2=a2->WC P bL A.body [] ts h (FQ A.rs (R)))(hn:A.nt=nt:=by rfl)(hl:(aR nt [a0,a1,a2]).length=nt:=by rfl):dm P f [a0,a1,a2] h R:=by
 exact z173
def WF.ce{P:Program}{ro:Option Nat->Prop}{ks:List Kt}{ts:TS}{h:ah}{Q:Ex->TS->ah->Prop}{q:Bool}{f:FuncId}{A:ar}(hA:bQ P f=some A){a c args:List AV}{d:Option Nat}{l:List bI}{V:AV}(H:ay P f (a++args++c) h (λv _=>v=V))(K:∀g,WP P ro l ks (put ts d V) (h++g) Q):WF P ro q (.func (.func f) a c) args d l ks ts h Q:=
 WF.res hA H λ_ g e=>e▸K g
def eE{W:ah}{b:Nat}{B:ak}(h:W[b]? =some B){k:ah}{n:Option Nat}{a:Nat}(e:Ext W k):aq n (.ptr b a) (λz=>k[z]?)=dE n a B:=aA (e.some h)
def ee{k n:Nat}(h:k<n):decide ((k:Int)<(n:Int))=true:=YW Om
def fo{k n:Nat}(h:¬k<n):decide ((k:Int)<(n:Int))=false:=YS Om
def bZ(c:Bool)(e:Int):Int:=if c then e else 0
def bg(n lo hi:Int):Int:=if n<lo\/hi<n then 3 else 0
def aZ:List Int->Int
 |[]=>0
 |x::xs=>if x=0 then aZ xs else x
def fT(c:UInt8):Bool:=(65<=c.toNat&&c.toNat<=90)||(97<=c.toNat&&c.toNat<=122)
def fe(c:UInt8):Bool:=48<=c.toNat&&c.toNat<=57
def jY(c:UInt8):Bool:=fT c||fe c||c.toNat==95
def dX:By->Bool
 |[]=>false
 |c::r=>decide (r.length<24)&&fT c&&r.all jY
inductive Kd where
 |eF
 |line
 |tape
 |gx
 |copy
 |accept
 |source
 |fW
 |merge
 |run
 |fV
 |fail
 |gy
 |rel
 deriving DecidableEq
def bh:Kd->By
 |.eF=>[117,110,100,111]
 |.line=>[108,105,110,101]
 |.tape=>[116,97,112,101]
 |.gx=>[115,104,111,116]
 |.copy=>[99,111,112,121]
 |.accept=>[97,99,99,101,112,116]
 |.source=>[115,111,117,114,99,101]
 |.fW=>[109,111,100,117,108,101]
 |.merge=>[109,101,114,103,101]
 |.run=>[114,117,110]
 |.fV=>[116,105,108,101]
 |.fail=>[102,97,105,108]
 |.gy=>[112,105,99,116,117,114,101]
 |.rel=>[114,101,108,101,97,115,101]
def Gn:List Kd:=[.eF,.line,.tape,.gx,.copy,.accept,.source,.fW,.merge,.run,.fV,.fail,.gy,.rel]
def bK:Kd->List (Nat×Bool)
 |.eF=>[]
 |.line=>[(0,false)]
 |.tape=>[(1,false)]
 |.gx=>[(2,false),(0,true),(1,true)]
 |.copy=>[(1,true),(1,true)]
 |.accept=>[(0,true)]
 |.source=>[(3,false),(0,true)]
 |.fW=>[(3,false),(3,true)]
 |.merge=>[(3,false),(3,true),(3,true)]
 |.run=>[(4,false),(3,true)]
 |.fV=>[(4,true)]
 |.fail=>[(4,true)]
 |.gy=>[(5,false),(4,true)]
 |.rel=>[(5,true)]
def cC:Kd->Nat
 |.eF=>0
 |.line=>2
 |.tape=>2
 |.gx=>1
 |.copy=>1
 |.accept=>1
 |.source=>1
 |.fW=>2
 |.merge=>1
 |.run=>2
 |.fV=>3
 |.fail=>2
 |.gy=>1
 |.rel=>1
def gT(k:By):Option Kd:=Gn.find? λd=>bh d==k
def js(d:Kd):gT (bh d)=some d:=by cases d<;>rfl
def bW{k d}(h:gT k=some d):k=bh d:=by
 have:=abm h;exact(eq_of_beq this).symm
def dF{k}(h:gT k=none)(d:Kd):k≠bh d:=by
 rintro rfl;rw[js]at h;cases h
structure ed where
 num:Int
 kind:By
 names:List (By)
 cB:List Int
 text:By
structure gZ where
 name:By
 want:Int
 acc:Bool
structure qH where
 name:By
 last:Int
structure gN where
 name:By
 line:By
 aB:List (By)
structure iE where
 name:By
 gives:By
 line:By
 bA:List (By)
structure k9 where
 name:By
 mod:By
 bB:List Int
structure qo where
 name:By
 Cn:By
 nA:Int
 rel:Bool
structure eM where
 tick:Int
 lines:List gZ
 aB:List qH
 aj:List gN
 aE:List iE
 aG:List k9
 aN:List qo
def eM.zero:eM:=⟨0,[],[],[],[],[],[]⟩
def B7:gZ:=⟨[],0,false⟩
def OM:qH:=⟨[],0⟩
def B5:gN:=⟨[],[],[]⟩
def B6:iE:=⟨[],[],[],[]⟩
def zS:k9:=⟨[],[],[]⟩
def HM:qo:=⟨[],[],0,false⟩
def bn(l:List (By))(n:By):Nat:=l.findIdx λx=>decide (x=n)
def rE{α:Type}(f:α->By)(l:List α)(n:By)(d:α):α:=l.getD (bn (l.map f) n) d
def gP(R:eM):List (By):=R.lines.map gZ.name
def jG(R:eM):List (By):=R.aB.map qH.name
def kv(R:eM):List (By):=R.aj.map gN.name
def iC(R:eM):List (By):=R.aE.map iE.name
def iX(R:eM):List (By):=R.aG.map k9.name
def lh(R:eM):List (By):=R.aN.map qo.name
def Jr(R:eM):Nat->List (By)
 | 0=>gP R
 | 1=>jG R
 | 2=>kv R
 | 3=>iC R
 | 4=>iX R
 |_=>lh R
def du(R:eM)(n:By):gZ:=rE gZ.name R.lines n B7
def gu(R:eM)(n:By):qH:=rE qH.name R.aB n OM
def kV(R:eM)(n:By):gN:=rE gN.name R.aj n B5
def gS(R:eM)(n:By):iE:=rE iE.name R.aE n B6
def gE(R:eM)(n:By):k9:=rE k9.name R.aG n zS
def j5(R:eM)(n:By):qo:=rE qo.name R.aN n HM
def dC(R:eM)(t:Nat)(n:By):Bool:=decide (n∈Jr R t)
def fR(R:eM)(t:Int)(n:By):Bool:=decide (t<=(gu R n).last)
def cG(R:eM)(x:gN)(t:Int):Bool:=x.aB.any (fR R t)
def fj(R:eM)(t:Int):List (By):=(R.aj.filter λx=>!cG R x t).map gN.name
def tZ(R:eM)(n:By):List gN:=R.aj.filter λx=>decide (x.line=n)
def cW:List Int->Nat->List Int
 |[],_=>[]
 |x::r,i=>if x<0 then(i:Int)::cW r (i+1)else cW r (i+1)
def qb(R:eM)(j:By):Bool:=R.aN.any λp=>decide (p.Cn=j)
def cP(m:By)(l:List iE):List (By):=l.foldl (λn x=>if x.name∈n then n++x.bA else n) [m]
def mI(R:eM)(m:By):List iE:=R.aE.filter λx=>decide (x.name∈cP m R.aE.reverse)
def jd(R:eM)(m:By):List gZ:=R.lines.filter λl=>decide (l.name∈(mI R m).map iE.line)
def s9(R:eM)(p:By):List (By):=
 (R.aj.filter λx=>decide (x.line∈(jd R (gE R (j5 R p).Cn).mod).map gZ.name)).map gN.name
def fZ(l:List Int):Int:=l.foldl (λx s=>(257*x+s).tmod 16777213) 1
def aM(e:ed)(i:Nat):By:=e.names.getD i []
def bH(e:ed)(i:Nat):Int:=e.cB.getD i 0
def dQ:By:=[115,104,111,116,115]
def mh:By:=[115,101,99,116,105,111,110]
def n9:By:=[105,109,97,103,101]
def mT(n:Int):By:=if n=1 then dQ else if n=2 then dQ else if n=3 then mh else n9
def jS(n:Int):By:=if n=1 then dQ else if n=2 then mh else n9
def gV(e:ed):Int:=
 if bg e.num 1 1000≠0 then 3 else
 match gT e.kind with
 |none=>13
 |some d=>if e.names.length≠(bK d).length\/e.cB.length≠cC d then 2
  else if e.names.any (λs=>!dX s)then 8
  else if e.cB.any (λn=>decide (bg n 0 999999999≠0))then 3
  else if e.text≠[]then 1 else 0
def mS(R:eM)(e:ed):List (Nat×Bool)->Nat->Bool
 |[],_=>false
 |r::l,i=>(r.2 && !dC R r.1 (aM e i))||mS R e l (i+1)
def qN(R:eM)(e:ed):List (Nat×Bool)->Nat->Bool
 |[],_=>false
 |r::l,i=>(!r.2&&dC R r.1 (aM e i))||qN R e l (i+1)
def kD(d:Kd)(R:eM)(e:ed):Int:=if mS R e (bK d) 0 then 10 else if qN R e (bK d) 0 then 9 else 0
def fH(R:eM)(e:ed):Int:=(gE R (aM e 0)).bB.getD (bH e 1).toNat 0
def jT(R:eM)(e:ed):Int:=if qb R (aM e 0)then 23 else if((gE R (aM e 0)).bB.length:Int)<=bH e 1 then 3 else 0
def bC(R:eM)(e:ed):Kd->Int
 |.eF=>0
 |.line=>if bg (bH e 1) 1 64≠0 then 3 else if 16<=R.lines.length then 5 else 0
 |.tape=>if 999999999<bH e 0+bH e 1 then 4 else if 16<=R.aB.length then 5 else 0
 |.gx=>if(du R (aM e 1)).acc then 23 else if !fR R (bH e 0) (aM e 2)then 30 else if 64<=R.aj.length then 5 else 0
 |.copy=>if aM e 0=aM e 1 then 24 else if !fR R (bH e 0) (aM e 0)then 30 else if !fR R (bH e 0) (aM e 1)then 30 else 0
 |.accept=>if(du R (aM e 0)).acc then 23 else if((tZ R (aM e 0)).length:Int)<(du R (aM e 0)).want then 16 else if(tZ R (aM e 0)).any (λx=>!cG R x (bH e 0))then 30 else 0
 |.source=>if 32<=R.aE.length then 5 else 0
 |.fW=>if bg (bH e 1) 1 4≠0 then 13 else if(gS R (aM e 1)).gives≠mT (bH e 1)then 2 else if 32<=R.aE.length then 5 else 0
 |.merge=>if aM e 1=aM e 2 then 24 else if(gS R (aM e 1)).gives≠(gS R (aM e 2)).gives then 2 else if 32<=R.aE.length then 5 else 0
 |.run=>if(jd R (aM e 1)).any (λx=>!x.acc)then 32 else if bg (bH e 1) 1 32≠0 then 3 else if 16<=R.aG.length then 5 else 0
 |.fV=>if jT R e≠0 then jT R e else if 0<=fH R e then 9 else 0
 |.fail=>if jT R e≠0 then jT R e else if fH R e<0 then 7 else 0
 |.gy=>if qb R (aM e 1)then 23 else if cW (gE R (aM e 1)).bB 0≠[]then 32 else if 16<=R.aN.length then 5 else 0
 |.rel=>if(j5 R (aM e 0)).rel then 23 else 0
def fO(a b:By)(x:gN):gN:=if a∈x.aB/\b∉x.aB then {x with aB:=x.aB++[b] } else x
def mY(R:eM)(e:ed)(s:Int):List k9:=R.aG.set (bn (iX R) (aM e 0)) {gE R (aM e 0)with bB:=(gE R (aM e 0)).bB.set (bH e 1).toNat s}
def dq(R:eM)(e:ed):Kd->eM
 |.eF=>R
 |.line=>{R with lines:=R.lines++[⟨aM e 0,bH e 1,false⟩] }
 |.tape=>{R with aB:=R.aB++[⟨aM e 0,bH e 0+bH e 1⟩] }
 |.gx=>{R with aj:=R.aj++[⟨aM e 0,aM e 1,[aM e 2]⟩] }
 |.copy=>{R with aj:=R.aj.map (fO (aM e 0) (aM e 1)) }
 |.accept=>{R with lines:=R.lines.set (bn (gP R) (aM e 0)) {du R (aM e 0)with acc:=true} }
 |.source=>{R with aE:=R.aE++[⟨aM e 0,dQ,aM e 1,[]⟩] }
 |.fW=>{R with aE:=R.aE++[⟨aM e 0,jS (bH e 1),[],e.names.drop 1⟩] }
 |.merge=>{R with aE:=R.aE++[⟨aM e 0,(gS R (aM e 1)).gives,[],e.names.drop 1⟩] }
 |.run=>{R with aG:=R.aG++[⟨aM e 0,aM e 1,List.replicate (bH e 1).toNat (-1)⟩] }
 |.fV=>{R with aG:=mY R e (bH e 2) }
 |.fail=>{R with aG:=mY R e (-1) }
 |.gy=>{R with aN:=R.aN++[⟨aM e 0,aM e 1,fZ (gE R (aM e 1)).bB,false⟩] }
 |.rel=>{R with aN:=R.aN.set (bn (lh R) (aM e 0)) {j5 R (aM e 0)with rel:=true} }
def fY(R:eM)(e:ed)(d:Kd):Int:=if bH e 0<R.tick then 22 else if kD d R e≠0 then kD d R e else bC R e d
def jP(R:eM)(e:ed)(d:Kd):eM:={dq R e d with tick:=bH e 0}
structure hO where
 c8:List ed
 eV:List ed
 cJ:List eM
def hO.zero:hO:=⟨[],[],[]⟩
def hO.now(H:hO):eM:=H.cJ.getLastD eM.zero
def kH(e:ed):Kd:=(gT e.kind).getD .eF
def kj(H:hO)(e:ed):Int:=
 if e.num≠(H.c8.length:Int)+1 then 11 else
 if kH e=.eF then
  (match H.eV.getLast? with
  |none=>12
  |some c=>if kH c=.rel then 21 else 0)
 else fY H.now e (kH e)
def iS(H:hO)(e:ed):hO:=
 if kH e=.eF then⟨H.c8++[e],H.eV.dropLast,H.cJ.dropLast⟩
 else⟨H.c8++[e],H.eV++[e],H.cJ++[jP H.now e (kH e)]⟩
def eC(H:hO)(e:ed):Int:=if gV e≠0 then gV e else kj H e
def fD(H:hO):List ed->Nat->hO×Int×Int
 |[],_=>(H,0,0)
 |e::l,i=>if eC H e≠0 then(hO.zero,(i:Int)+1,eC H e)else fD (iS H e) l (i+1)
def aP(l:List ed):hO×Int×Int:=if 1000<l.length then(hO.zero,0,5)else fD hO.zero l 0
def cR{l n}(h:n∈l):bn l n<l.length:=
 List.findIdx_lt_length_of_exists ⟨n,h,Si⟩
def rh{l n}(h:n∈l):l[bn l n]'(cR h)=n:=by
 have:=List.findIdx_getElem (p:=λx=>decide (x=n)) (xs:=l) (w:=cR h);exact aad this
def de{α:Type}{f:α->By}{l:List α}{n:By}{d:α}(h:n∈l.map f):rE f l n d=l[bn (l.map f) n]'(by simpa using cR h):=by
 have:bn (l.map f) n<l.length:=by simpa using cR h
 rw[rE,ZH,YU this];rfl
def gI{α:Type}{f:α->By}{l:List α}{n:By}{d:α}(h:n∈l.map f):rE f l n d∈l:=by
 rw[de h];exact Za _
def gk{α:Type}{f:α->By}{l:List α}{n:By}{d:α}(h:n∈l.map f):f (rE f l n d)=n:=by
 rw[de h];have:=rh h;rw[Z6]at this;exact this
def mi{α:Type}{f:α->By}{l:List α}{x d:α}(hn:(l.map f).Nodup)(h:x∈l):rE f l (f x) d=x:=by
 have hm:f x∈l.map f:=Zo h;obtain⟨i,hi,rfl⟩:=aa1 h;rw[de hm];have h1:=rh hm;have h2:(l.map f)[i]'(by simpa using hi)=f l[i]:=Z6 ..;have:=(List.getElem_inj hn).1 (h1.trans h2.symm);congr 1
structure pM(l:List (By)):Prop where
 nd:l.Nodup
 nm:∀n∈l,dX n=true
def pM.nil:pM []:=⟨List.nodup_nil,λ_ h=>by cases h⟩
def pM.add{l n}(h:pM l)(hn:dX n=true)(hl:n∉l):pM (l++[n]):=by
 refine⟨List.nodup_append.2 ⟨h.nd,Si,?_⟩,λx hx=>?_⟩
 ·intro a ha b hb e;rw[Zm]at hb;exact hl (hb▸e▸ha)
 ·rcases YZ.1 hx with hx|hx
  ·exact h.nm x hx
  ·rw[Zm]at hx;rw[hx];exact hn
structure eJ(R:eM):Prop where
 n0:pM (gP R)
 n1:pM (jG R)
 n2:pM (kv R)
 n3:pM (iC R)
 n4:pM (iX R)
 n5:pM (lh R)
 tk:0<=R.tick/\R.tick<=999999999
 l0:R.lines.length<=16
 l1:R.aB.length<=16
 l2:R.aj.length<=64
 l3:R.aE.length<=32
 l4:R.aG.length<=16
 l5:R.aN.length<=16
 ln:∀x∈R.lines,1<=x.want/\x.want<=64
 tp:∀x∈R.aB,0<=x.last/\x.last<=999999999
 sh:∀x∈R.aj,x.line∈gP R/\x.aB≠[]/\x.aB.Nodup/\∀t∈x.aB,t∈jG R
 md:∀x∈R.aE,((x.bA=[]/\x.line∈gP R)\/(x.bA≠[]/\x.line=[]))/\x.bA.length<=2/\∀t∈x.bA,t∈iC R
 jb:∀x∈R.aG,x.mod∈iC R/\1<=x.bB.length/\x.bB.length<=32/\∀s∈x.bB,-1<=s/\s<=999999999
 pc:∀x∈R.aN,x.Cn∈iX R/\0<=x.nA/\x.nA<16777213
theorem eJ.zero:eJ eM.zero:=by
 refine⟨.nil,.nil,.nil,.nil,.nil,.nil,De,De,De,De,De,De,De,?_,?_,?_,?_,?_,?_⟩
 all_goals intro x hx;cases hx
structure ko(e:ed)(d:Kd):Prop where
 kd:gT e.kind=some d
 nu:1<=e.num/\e.num<=1000
 nl:e.names.length=(bK d).length
 vl:e.cB.length=cC d
 nm:∀n∈e.names,dX n=true
 vr:∀v∈e.cB,0<=v/\v<=999999999
 tx:e.text=[]
def iH{n lo hi}(h:¬bg n lo hi≠0):lo<=n/\n<=hi:=by
 unfold bg at h;split at h
 ·exact absurd De h
 ·omega
def rL{e}(h:gV e=0):∃d,ko e d:=by
 unfold gV at h;split at h
 ·cases h
 case isFalse h0=>
 cases hk:gT e.kind with
 |none=>rw[hk]at h;cases h
 |some d=>
  rw[hk]at h;simp only at h;split at h
  ·cases h
  case isFalse h1=>
  split at h
  ·cases h
  case isFalse h2=>
  split at h
  ·cases h
  case isFalse h3=>
  split at h
  ·cases h
  case isFalse h4=>
  refine⟨d,hk,iH h0,Om,Om,?_,?_,by simpa using h4⟩
  ·intro n hn;cases hc:dX n with
   |true=>rfl
   |false=>exact absurd (aaj.2 ⟨n,hn,by simp[hc]⟩) h2
  ·intro v hv;refine iH λhc=>h3 (aaj.2 ⟨v,hv,by simpa using hc⟩)
def Ec{e i}(h:i<e.names.length):aM e i∈e.names:=by
 rw[aM,ZH,YU h];exact Za h
def nF{e i}(h:i<e.cB.length):bH e i∈e.cB:=by
 rw[bH,ZH,YU h];exact Za h
def gD{α:Type}{l m:List α}{x:α}(h:x∈l):x∈l++m:=YZ.2 (.inl h)
def jl{α:Type}{p:α->Prop}{l:List α}{y:α}(h:∀x∈l,p x)(hy:p y):∀x∈l++[y],p x:=by
 intro x hx;rcases YZ.1 hx with hx|hx
 ·exact h x hx
 ·rw[Zm]at hx;rw[hx];exact hy
def qz{α:Type}{p:α->Prop}{l:List α}{y:α}{i:Nat}(h:∀x∈l,p x)(hy:p y):∀x∈l.set i y,p x:=by
 intro x hx;rcases aaE hx with hx|hx
 ·exact h x hx
 ·rw[hx];exact hy
def map_set{α:Type}{f:α->By}{l:List α}{n:By}{d y:α}(hn:n∈l.map f)(hy:f y=n):(l.set (bn (l.map f) n) y).map f=l.map f:=by
 rw[aa0];have:=rh hn;rw[hy]
 conv=>lhs;arg 3;rw[<-this]
 exact List.set_getElem_self _
structure sI(R:eM)(e:ed)(d:Kd):Prop where
 kn:∀i t,(bK d)[i]? =some (t,true)->aM e i∈Jr R t
 fr:∀i t,(bK d)[i]? =some (t,false)->aM e i∉Jr R t
theorem Bf{R e}:∀{l}{i},mS R e l i=false->∀j t,l[j]? =some (t,true)->aM e (i+j)∈Jr R t
 |[],i,_,j,t,h=>by simp at h
 |r::l,i,h,j,t,hj=>by
  rw[mS,Bool.or_eq_false_iff]at h;cases j with
  |zero=>
   simp only[Z7,Zu]at hj;subst hj;have:=h.1;simp only[aao,Bool.not_eq_false',dC,ZJ]at this;exact this
  |succ j=>
   simp only[aai]at hj;have:=Bf h.2 j t hj
   rwa [Nat.add_assoc,Nat.add_comm 1 j]at this
theorem Bj{R e}:∀{l}{i},qN R e l i=false->∀j t,l[j]? =some (t,false)->aM e (i+j)∉Jr R t
 |[],i,_,j,t,h=>by simp at h
 |r::l,i,h,j,t,hj=>by
  rw[qN,Bool.or_eq_false_iff]at h;cases j with
  |zero=>
   simp only[Z7,Zu]at hj;subst hj;have:=h.1;simp only[Zq,aao,dC,aaJ]at this;exact this
  |succ j=>
   simp only[aai]at hj;have:=Bj h.2 j t hj
   rwa [Nat.add_assoc,Nat.add_comm 1 j]at this
def vB{R e d}(h:kD d R e=0):sI R e d:=by
 unfold kD at h;split at h
 ·cases h
 case isFalse h1=>
 split at h
 ·cases h
 case isFalse h2=>
 refine⟨λi t hi=>?_,λi t hi=>?_⟩
 ·have:=Bf (by simpa using h1) i t hi;rwa [ZN]at this
 ·have:=Bj (by simpa using h2) i t hi;rwa [ZN]at this
def Af(x s:Int)(hx:0<=x)(hs:0<=s):0<=(257*x+s).tmod 16777213/\(257*x+s).tmod 16777213<16777213:=by
 rw[Int.tmod_eq_emod_of_nonneg Om];omega
theorem wu:∀(l:List Int) (x:Int),(∀s∈l,0<=s)->0<=x->x<16777213->0<=l.foldl (λx s=>(257*x+s).tmod 16777213) x/\l.foldl (λx s=>(257*x+s).tmod 16777213) x<16777213
 |[],x,_,h1,h2=>⟨h1,h2⟩
 |s::l,x,hs,h1,h2=>by
  have:=Af x s h1 (hs s Si);exact wu l _ (λt ht=>hs t (ZG _ ht)) this.1 this.2
def EJ{l}(hs:∀s∈l,0<=s):0<=fZ l/\fZ l<16777213:=wu l 1 hs De De
theorem tj:∀{l}{i},cW l i=[]->∀s∈l,0<=s
 |[],_,_,s,hs=>by cases hs
 |x::r,i,h,s,hs=>by
  rw[cW]at h;split at h
  ·cases h
  ·rcases ZC.1 hs with rfl|hs
   ·omega
   ·exact tj h s hs
theorem eJ.tick{R}(w:eJ R){t}(h:0<=t/\t<=999999999):eJ {R with tick:=t}:={w with tk:=h}
section
variable {R:eM}{e:ed}(w:eJ R)
include w
theorem eJ.LW{n}(hn:n∈iX R):gE R n∈R.aG/\(gE R n).name=n:=⟨gI hn,gk hn⟩
def eJ.Gd(s:Int)(hn:aM e 0∈iX R)(hs:-1<=s/\s<=999999999):eJ {R with aG:=mY R e s}:=by
 have hj:=w.LW hn;have hm:List.map k9.name (mY R e s)=iX R:=map_set (d:=zS) hn hj.2;refine {w with n4:=?_,l4:=?_,jb:=?_,pc:=?_}
 ·show pM (List.map k9.name (mY R e s));rw[hm];exact w.n4
 ·show(mY R e s).length<=16;rw[mY,ZI];exact w.l4
 ·refine qz (λx hx=>w.jb x hx) ?_;have:=w.jb _ hj.1;refine⟨this.1,?_,?_,qz this.2.2.2 hs⟩
  ·show 1<=(List.set _ _ _).length;rw[ZI];exact this.2.1
  ·show(List.set _ _ _).length<=32;rw[ZI];exact this.2.2.1
 ·intro x hx;have:=w.pc x hx;exact⟨by show x.Cn∈List.map k9.name (mY R e s);rw[hm];exact this.1,this.2⟩
def eJ.act{d:Kd}(he:ko e d)(hk:sI R e d)(hc:bC R e d=0):eJ (dq R e d):=by
 have gn:∀i,i<(bK d).length->dX (aM e i)=true:=λi hi=>he.nm _ (Ec (by rw[he.nl];exact hi))
 have gv:∀i,i<cC d->0<=bH e i/\bH e i<=999999999:=λi hi=>he.vr _ (nF (by rw[he.vl];exact hi))
 cases d with
 |eF=>exact w
 |line=>
  have f0:aM e 0∉gP R:=hk.fr 0 0 rfl;rw[bC]at hc;split at hc
  ·cases hc
  case isFalse h1=>
  split at hc
  ·cases hc
  case isFalse h2=>
  have h1:=iH h1;have em:gP (dq R e .line)=gP R++[aM e 0]:=Y5;refine {w with n0:=?_,l0:=?_,ln:=?_,sh:=?_,md:=?_}
  ·rw[em];exact w.n0.add (gn 0 De) f0
  ·show(R.lines++[_]).length<=16;rw[YP,Zp];omega
  ·exact jl w.ln h1
  ·intro x hx;have:=w.sh x hx;exact⟨by rw[em];exact gD this.1,this.2⟩
  ·intro x hx;obtain⟨h3,h4⟩:=w.md x hx;refine⟨?_,h4⟩;rcases h3 with h3|h3
   ·exact .inl ⟨h3.1,by rw[em];exact gD h3.2⟩
   ·exact .inr h3
 |tape=>
  have f0:aM e 0∉jG R:=hk.fr 0 1 rfl;have v0:=gv 0 De;have v1:=gv 1 De;rw[bC]at hc;split at hc
  ·cases hc
  case isFalse h1=>
  split at hc
  ·cases hc
  case isFalse h2=>
  have em:jG (dq R e .tape)=jG R++[aM e 0]:=Y5;refine {w with n1:=?_,l1:=?_,tp:=?_,sh:=?_}
  ·rw[em];exact w.n1.add (gn 0 De) f0
  ·show(R.aB++[_]).length<=16;rw[YP,Zp];omega
  ·exact jl w.tp (by show 0<=bH e 0+bH e 1/\bH e 0+bH e 1<=999999999;omega)
  ·intro x hx;obtain⟨h3,h4,h5,h6⟩:=w.sh x hx;exact⟨h3,h4,h5,λt ht=>by rw[em];exact gD (h6 t ht)⟩
 |gx=>
  have f0:aM e 0∉kv R:=hk.fr 0 2 rfl;have k1:aM e 1∈gP R:=hk.kn 1 0 rfl;have k2:aM e 2∈jG R:=hk.kn 2 1 rfl;rw[bC]at hc;split at hc
  ·cases hc
  split at hc
  ·cases hc
  split at hc
  ·cases hc
  case isFalse h2=>
  have em:kv (dq R e .gx)=kv R++[aM e 0]:=Y5;refine {w with n2:=?_,l2:=?_,sh:=?_}
  ·rw[em];exact w.n2.add (gn 0 De) f0
  ·show(R.aj++[_]).length<=64;rw[YP,Zp];omega
  ·refine jl w.sh ⟨k1,Si,Si,λt ht=>?_⟩;rw[Zm]at ht;rw[ht];exact k2
 |copy=>
  have k1:aM e 1∈jG R:=hk.kn 1 1 rfl;have en:∀x,(fO (aM e 0) (aM e 1) x).name=x.name:=λx=>by unfold fO;split<;>rfl
  have el:∀x,(fO (aM e 0) (aM e 1) x).line=x.line:=λx=>by unfold fO;split<;>rfl
  have em:kv (dq R e .copy)=kv R:=by
   show List.map _ (List.map _ _)=_;rw[aaA];exact List.map_congr_left λx _=>en x
  refine {w with n2:=?_,l2:=?_,sh:=?_}
  ·rw[em];exact w.n2
  ·show(List.map _ _).length<=64;rw[YY];exact w.l2
  ·intro y hy;obtain⟨x,hx,rfl⟩:=Zv.1 (show y∈List.map _ R.aj from hy);obtain⟨h1,h2,h3,h4⟩:=w.sh x hx;rw[el];refine⟨h1,?_⟩;unfold fO;split
   case isFalse=>exact⟨h2,h3,h4⟩
   case isTrue h5=>
    refine⟨Si,?_,jl h4 k1⟩;refine List.nodup_append.2 ⟨h3,Si,λa ha b hb eq=>?_⟩;rw[Zm]at hb;exact h5.2 (hb▸eq▸ha)
 |accept=>
  have k0:aM e 0∈gP R:=hk.kn 0 0 rfl;have em:gP (dq R e .accept)=gP R:=map_set (d:=B7) k0 (gk k0);refine {w with n0:=?_,l0:=?_,ln:=?_,sh:=?_,md:=?_}
  ·rw[em];exact w.n0
  ·show(List.set _ _ _).length<=16;rw[ZI];exact w.l0
  ·exact qz w.ln (w.ln (du R (aM e 0)) (gI k0))
  ·intro x hx;have:=w.sh x hx;exact⟨by rw[em];exact this.1,this.2⟩
  ·intro x hx;obtain⟨h3,h4⟩:=w.md x hx;refine⟨?_,h4⟩;rcases h3 with h3|h3
   ·exact .inl ⟨h3.1,by rw[em];exact h3.2⟩
   ·exact .inr h3
 |source=>
  have f0:aM e 0∉iC R:=hk.fr 0 3 rfl;have k1:aM e 1∈gP R:=hk.kn 1 0 rfl;rw[bC]at hc;split at hc
  ·cases hc
  case isFalse h2=>
  have em:iC (dq R e .source)=iC R++[aM e 0]:=Y5;refine {w with n3:=?_,l3:=?_,md:=?_,jb:=?_}
  ·exact z160
  ·exact Np
  ·refine jl (λx hx=>?_) ⟨.inl ⟨rfl,k1⟩,Zw _,λt ht=>by cases ht⟩;exact Nu
  ·intro x hx;have:=w.jb x hx;exact⟨by rw[em];exact gD this.1,this.2⟩
 |fW=>
  have f0:aM e 0∉iC R:=hk.fr 0 3 rfl;have k1:aM e 1∈iC R:=hk.kn 1 3 rfl;have hl:e.names.length=2:=he.nl;have hdr:e.names.drop 1=[aM e 1]:=by
   match hn:e.names,hl with
   |[a,b],_=>simp[aM,hn]
  rw[bC]at hc;split at hc
  ·cases hc
  split at hc
  ·cases hc
  split at hc
  ·cases hc
  case isFalse h2=>
  have em:iC (dq R e .fW)=iC R++[aM e 0]:=Y5;refine {w with n3:=?_,l3:=?_,md:=?_,jb:=?_}
  ·exact z160
  ·exact Np
  ·refine jl (λx hx=>?_) ?_
   ·exact Nu
   ·simp only[hdr];exact⟨.inr Si,Si,λt ht=>by rw[Zm]at ht;rw[ht,em];exact gD k1⟩
  ·intro x hx;have:=w.jb x hx;exact⟨by rw[em];exact gD this.1,this.2⟩
 |merge=>
  have f0:aM e 0∉iC R:=hk.fr 0 3 rfl;have k1:aM e 1∈iC R:=hk.kn 1 3 rfl;have k2:aM e 2∈iC R:=hk.kn 2 3 rfl;have hl:e.names.length=3:=he.nl;have hdr:e.names.drop 1=[aM e 1,aM e 2]:=by
   match hn:e.names,hl with
   |[a,b,c],_=>simp[aM,hn]
  rw[bC]at hc;split at hc
  ·cases hc
  split at hc
  ·cases hc
  split at hc
  ·cases hc
  case isFalse h2=>
  have em:iC (dq R e .merge)=iC R++[aM e 0]:=Y5;refine {w with n3:=?_,l3:=?_,md:=?_,jb:=?_}
  ·exact z160
  ·exact Np
  ·refine jl (λx hx=>?_) ?_
   ·exact Nu
   ·simp only[hdr];refine⟨.inr Si,Si,λt ht=>?_⟩;rw[em];rcases ZC.1 ht with ht|ht
    ·rw[ht];exact gD k1
    ·rw[Zm]at ht;rw[ht];exact gD k2
  ·intro x hx;have:=w.jb x hx;exact⟨by rw[em];exact gD this.1,this.2⟩
 |run=>
  have f0:aM e 0∉iX R:=hk.fr 0 4 rfl;have k1:aM e 1∈iC R:=hk.kn 1 3 rfl;rw[bC]at hc;split at hc
  ·cases hc
  split at hc
  ·cases hc
  case isFalse h1=>
  split at hc
  ·cases hc
  case isFalse h2=>
  have h1:=iH h1;have em:iX (dq R e .run)=iX R++[aM e 0]:=Y5;refine {w with n4:=?_,l4:=?_,jb:=?_,pc:=?_}
  ·rw[em];exact w.n4.add (gn 0 De) f0
  ·show(R.aG++[_]).length<=16;rw[YP,Zp];omega
  ·refine jl w.jb ⟨k1,?_,?_,λs hs=>?_⟩
   ·show 1<=(List.replicate _ _).length;rw[Z4];omega
   ·show(List.replicate _ _).length<=32;rw[Z4];omega
   ·rw[(List.mem_replicate.1 hs).2];decide
  ·intro x hx;have:=w.pc x hx;exact⟨by rw[em];exact gD this.1,this.2⟩
 |fV=>exact w.Gd _ (hk.kn 0 4 rfl) (by have:=gv 2 De;omega)
 |fail=>exact w.Gd _ (hk.kn 0 4 rfl) De
 |gy=>
  have f0:aM e 0∉lh R:=hk.fr 0 5 rfl;have k1:aM e 1∈iX R:=hk.kn 1 4 rfl;rw[bC]at hc;split at hc
  ·cases hc
  split at hc
  ·cases hc
  case isFalse h1=>
  split at hc
  ·cases hc
  case isFalse h2=>
  have em:lh (dq R e .gy)=lh R++[aM e 0]:=Y5;refine {w with n5:=?_,l5:=?_,pc:=?_}
  ·rw[em];exact w.n5.add (gn 0 De) f0
  ·show(R.aN++[_]).length<=16;rw[YP,Zp];omega
  ·exact jl w.pc ⟨k1,EJ (tj (Classical.not_not.1 h1))⟩
 |rel=>
  have k0:aM e 0∈lh R:=hk.kn 0 5 rfl;have em:lh (dq R e .rel)=lh R:=map_set (d:=HM) k0 (gk k0);refine {w with n5:=?_,l5:=?_,pc:=?_}
  ·rw[em];exact w.n5
  ·show(List.set _ _ _).length<=16;rw[ZI];exact w.l5
  ·exact qz w.pc (w.pc (j5 R (aM e 0)) (gI k0))
def eJ.step{d}(he:ko e d)(hd:d≠.eF)(h:fY R e d=0):eJ (jP R e d):=by
 unfold fY at h;split at h
 ·cases h
 split at h
 case isTrue h1=>exact absurd h h1
 case isFalse h1=>
 have h1:=Classical.not_not.1 h1;refine(w.act he (vB h1) h).tick (he.vr _ (nF ?_));rw[he.vl];cases d<;>first|exact absurd rfl hd|decide
end
def cT{α:Type}(p:α->Bool)(L:List α):Int:=
 match L.findIdx? p with
 |some i=>(i:Int)
 |none=>-1
def n8{α:Type}(p:α->Bool)(L:List α):decide (0<=cT p L)=L.any p:=by
 unfold cT;cases hx:L.findIdx? p with
 |none=>
  simp only[List.findIdx?_eq_none_iff]at hx;have:L.any p=false:=by rw[List.any_eq_false];intro x RN;simp[hx x RN]
  rw[this];rfl
 |some i=>
  have h1:=List.findIdx?_isSome (xs:=L) (p:=p);rw[hx]at h1;rw[<-h1];simp
def ao(x:By):List AV:=[.str x]
def bV(x:gZ):List AV:=[.str x.name,.i x.want,.bool x.acc]
def dt(x:qH):List AV:=[.str x.name,.i x.last]
def aX(x:gN×AV):List AV:=[.str x.1.name,.str x.1.line,x.2]
def aV(x:iE×AV):List AV:=[.str x.1.name,.str x.1.gives,.str x.1.line,x.2]
def bO(x:k9×AV):List AV:=[.str x.1.name,.str x.1.mod,x.2]
def dh(x:qo):List AV:=[.str x.name,.str x.Cn,.i x.nA,.bool x.rel]
structure RV where
 tick:Int
 lines:List gZ
 aB:List qH
 aj:List (gN×AV)
 aE:List (iE×AV)
 aG:List (k9×AV)
 aN:List qo
 s0:AV
 s1:AV
 s2:AV
 s3:AV
 s4:AV
 s5:AV
def RV.an(V:RV):eM:=⟨V.tick,V.lines,V.aB,V.aj.map Prod.fst,V.aE.map Prod.fst,V.aG.map Prod.fst,V.aN⟩
def RV.row(V:RV):List AV:=[.i V.tick,V.s0,V.s1,V.s2,V.s3,V.s4,V.s5]
def RV.zero:RV:=⟨0,[],[],[],[],[],[],.af,.af,.af,.af,.af,.af⟩
structure aC(h:ah)(V:RV):Prop where
 i0:aH h V.s0 3 (V.lines.map bV)
 i1:aH h V.s1 2 (V.aB.map dt)
 i2:aH h V.s2 3 (V.aj.map aX)
 i3:aH h V.s3 4 (V.aE.map aV)
 i4:aH h V.s4 3 (V.aG.map bO)
 i5:aH h V.s5 4 (V.aN.map dh)
 e2:∀x∈V.aj,aH h x.2 1 (x.1.aB.map ao)
 e3:∀x∈V.aE,aH h x.2 1 (x.1.bA.map ao)
 e4:∀x∈V.aG,aH h x.2 1 (x.1.bB.map aK)
theorem aC.ext{h k V}(o:aC h V)(e:Ext h k):aC k V:=
 ⟨o.i0.ext e,o.i1.ext e,o.i2.ext e,o.i3.ext e,o.i4.ext e,o.i5.ext e,λx hx=>(o.e2 x hx).ext e,λx hx=>(o.e3 x hx).ext e,λx hx=>(o.e4 x hx).ext e⟩
theorem aC.zero{h}:aC h RV.zero:=by
 refine⟨.nil,.nil,.nil,.nil,.nil,.nil,?_,?_,?_⟩
 all_goals intro x hx;cases hx
def sB:AV->Option Nat
 |.slice b _ _ _=>some b
 |_=>none
def N3{v b}(h:sB v=some b):∃o n e,v=.slice b o n e:=by
 cases v with
 |slice b' o n e=>cases h;exact⟨o,n,e,rfl⟩
 |_=>cases h
def Fr.bN{N h s es cs}(hs:Fr N h s es cs){b}(hb:sB s=some b):N<=b/\b<h.length:=by
 obtain⟨o,n,e,rfl⟩:=N3 hb;exact hs.lt rfl
def Fr.aD{N h k s es cs}(hs:Fr N h s es cs)(hk:∀b,sB s=some b->k[b]? =h[b]?):Fr N k s es cs:=by
 exact z148
def RV.bl(V:RV):List (Option Nat):=[sB V.s0,sB V.s1,sB V.s2,sB V.s3,sB V.s4,sB V.s5]++(V.aj.map λx=>sB x.2)++(V.aE.map λx=>sB x.2)++(V.aG.map λx=>sB x.2)
def lq(l:List (Option Nat)):Prop:=l.Pairwise λx y=>∀b,x=some b->y≠some b
structure cH(N:Nat)(h:ah)(V:RV):Prop where
 i0:Fr N h V.s0 3 (V.lines.map bV)
 i1:Fr N h V.s1 2 (V.aB.map dt)
 i2:Fr N h V.s2 3 (V.aj.map aX)
 i3:Fr N h V.s3 4 (V.aE.map aV)
 i4:Fr N h V.s4 3 (V.aG.map bO)
 i5:Fr N h V.s5 4 (V.aN.map dh)
 e2:∀x∈V.aj,Fr N h x.2 1 (x.1.aB.map ao)
 e3:∀x∈V.aE,Fr N h x.2 1 (x.1.bA.map ao)
 e4:∀x∈V.aG,Fr N h x.2 1 (x.1.bB.map aK)
 di:lq V.bl
def cH.ok{N h V}(o:cH N h V):aC h V:=
 ⟨o.i0.ba,o.i1.ba,o.i2.ba,o.i3.ba,o.i4.ba,o.i5.ba,λx hx=>(o.e2 x hx).ba,λx hx=>(o.e3 x hx).ba,λx hx=>(o.e4 x hx).ba⟩
theorem cH.app{N h V}(o:cH N h V)(g:ah):cH N (h++g) V:=
 ⟨o.i0.app g,o.i1.app g,o.i2.app g,o.i3.app g,o.i4.app g,o.i5.app g,λx hx=>(o.e2 x hx).app g,λx hx=>(o.e3 x hx).app g,λx hx=>(o.e4 x hx).app g,o.di⟩
def cH.au{N h k V}(o:cH N h V)(hk:∀b,some b∈V.bl->k[b]? =h[b]?):cH N k V:=by
 have m6:∀x∈[sB V.s0,sB V.s1,sB V.s2,sB V.s3,sB V.s4,sB V.s5],x∈V.bl:=λx hx=>by simp only[RV.bl,YZ];exact .inl (.inl (.inl hx))
 refine⟨o.i0.aD λb hb=>hk b (hb▸m6 _ Si),o.i1.aD λb hb=>hk b (hb▸m6 _ Si),o.i2.aD λb hb=>hk b (hb▸m6 _ Si),o.i3.aD λb hb=>hk b (hb▸m6 _ Si),o.i4.aD λb hb=>hk b (hb▸m6 _ Si),o.i5.aD λb hb=>hk b (hb▸m6 _ Si),
  λx hx=>(o.e2 x hx).aD λb hb=>hk b ?_,λx hx=>(o.e3 x hx).aD λb hb=>hk b ?_,λx hx=>(o.e4 x hx).aD λb hb=>hk b ?_,o.di⟩
 ·exact z143
 ·exact Ka
 ·exact z168
structure EV where
 ev:ed
 sn:AV
 sv:AV
def EV.row(x:EV):List AV:=[.i x.ev.num,.str x.ev.kind,x.sn,x.sv,.str x.ev.text]
structure bw(h:ah)(x:EV):Prop where
 n:aH h x.sn 1 (x.ev.names.map ao)
 v:aH h x.sv 1 (x.ev.cB.map aK)
theorem bw.ext{h k x}(o:bw h x)(e:Ext h k):bw k x:=⟨o.n.ext e,o.v.ext e⟩
structure dZ(h:ah)(L:List EV)(s:AV):Prop where
 sl:aH h s 5 (L.map EV.row)
 all:∀x∈L,bw h x
theorem dZ.ext{h k L s}(o:dZ h L s)(e:Ext h k):dZ k L s:=⟨o.sl.ext e,λx hx=>(o.all x hx).ext e⟩
end Go.Abs
namespace Go.Abs
inductive Ow (N:Nat) (h:ah):AV->Nat->List (List AV)->Prop
 |nil {es:Nat}:Ow N h .af es []
 |mk {b es:Nat}{cs:List (List AV)}{junk:List AV}(hN:N<=b) (hb:h[b]? =some (.cells (cs.flatten++junk) true true)) (he:∀x∈cs,x.length=es):Ow N h (.slice b 0 cs.length es) es cs
def Ow.ba{N h s es cs}(hs:Ow N h s es cs):aH h s es cs:=by
 cases hs with
 |nil=>exact .nil
 |mk hN hb he=>
  have hl:=eG he;exact .mk hb (by rw[aag,<-hl,List.take_left]) (by rw[YP];omega) he
def Ow.bN{N h s es cs}(hs:Ow N h s es cs){b}(hb:sB s=some b):N<=b/\b<h.length:=by
 cases hs with
 |nil=>cases hb
 |mk hN hb' he=>cases hb;exact⟨hN,(YQ.1 hb').1⟩
def Ow.aD{N h k s es cs}(hs:Ow N h s es cs)(hk:∀b,sB s=some b->k[b]? =h[b]?):Ow N k s es cs:=by
 exact z148
def Ow.cut{N h s es cs}(hs:Ow N h s es cs){n:Nat}(hn:n<=cs.length){k}:
  ∃s',zC es s none (some (.int k (n:Int)))=some (s',.au)/\sB s' =sB s/\Ow N h s' es (cs.take n):=by
 cases hs with
 |nil=>
  have:n=0:=by simpa using hn
  subst this;exact⟨.af,by simp only[zC,iF (Y9 0)],rfl,by rw[List.take_nil];exact .nil⟩
 | @mk b _ _ junk hN hb he=>
  refine⟨.slice b 0 n es,?_,rfl,?_⟩
  ·simp only[zC,Zi,iF hn,aaZ,abl,Nat.sub_zero]
  ·have hl:(cs.take n).length=n:=by rw[ZR];omega
   have hf:cs.flatten++junk=(cs.take n).flatten++((cs.drop n).flatten++junk):=by
    rw[<-YR,<-aaC,aah]
   rw[hf]at hb;have:=Ow.mk (cs:=cs.take n) hN hb (λx hx=>he x (ZW hx))
   rwa [hl]at this
section
variable {P:Program}{ro:Option Nat->Prop}{ks:List Kt}{ts:TS}{Q:Ex->TS->ah->Prop}
def WR.IX{h s y es cs ys N w d l}(hs:Ow N h s es cs)(hy:aH h y es ys)(hN:N<=h.length)(hes:0<es)(hne:0<ys.length)(ep:(cs.length+ys.length)*w<=2^46)
  (K:∀h',h'.length=h.length+1->Ow N h' (.slice h.length 0 (cs++ys).length es) es (cs++ys)->(∀b,b<h.length->sB s≠some b->h'[b]? =h[b]?)->WP P ro l ks (put ts d (.slice h.length 0 (cs++ys).length es)) h' Q):
  WR P ro (pF es w s y (λb=>h[b]?) h.length) false d l ks ts h Q:=by
 have TE:∀x∈cs++ys,x.length=es:=λx hx=>by
  exact Kf
 have hk:¬ys.length=0:=Om
 simp only[pF,hy.fg];have mk:∀h1:ah,h1.length=h.length->Ow N (h1++[.cells (cs++ys).flatten true true]) (.slice h.length 0 (cs++ys).length es) es (cs++ys):=by
  intro h1 h1l;refine Ow.mk (junk:=[]) hN ?_ TE;rw[Zr,<-h1l];exact a8
 cases hs with
 |nil=>
  simp only[YX,ZN]at ep;simp only[Y6 hk,Zb ep];rw[mz];have hK:=K (h++[.cells ys.flatten true true]) Si (mk h rfl) (λb hb _=>YT hb);exact hK
 | @mk b _ _ junk hbN hb hre=>
  have hcl:=eG hre;simp only[Zi,Y6 hk,Zb ep,hb,ZN];rw[Zb (by rw[YP];omega),nE];have hbl:b<h.length:=(YQ.1 hb).1;have hc:List.take (cs.length*es) (List.drop 0 (cs.flatten++junk))=cs.flatten:=by rw[aag,<-hcl,List.take_left]
  rw[hc];have hK:=K (h.set b .dead++[.cells (cs++ys).flatten true true]) Si (mk _ Si) (λi hi hne=>by
   have:b≠i:=λe=>hne (by rw[<-e];rfl)
   rw[YT (by simpa using hi),Zc this])
  simp only[aaC,YP]at hK ⊢;exact hK
end
def fJ(ex:List (Option Nat))(h:ah):ah:=h.mapIdx λb k=>if some b∈ex then .dead else k
def ub{ex h b}(hb:some b∉ex):(fJ ex h)[b]? =h[b]? :=by
 rw[fJ,List.getElem?_mapIdx];cases h[b]? with
 |none=>rfl
 |some k=>simp[hb]
def rp{ex h b c mu tl}(hb:(fJ ex h)[b]? =some (.cells c mu tl)):some b∉ex/\h[b]? =some (.cells c mu tl):=by
 rw[fJ,List.getElem?_mapIdx]at hb;cases hk:h[b]? with
 |none=>rw[hk]at hb;cases hb
 |some k=>
  rw[hk]at hb;simp only[aaO,Zu]at hb;split at hb
  ·cases hb
  case isFalse h1=>exact⟨h1,by rw[hb]⟩
def jB(k h:ah):Prop:=∀(b:Nat) (c:List AV) (mu tl:Bool),k[b]? =some (ak.cells c mu tl)->h[b]? =some (ak.cells c mu tl)
def aH.sub{k h s es cs}(o:aH k s es cs)(e:jB k h):aH h s es cs:=by
 cases o with
 |nil=>exact .nil
 |mk hb hf ho he=>exact .mk (e _ _ _ _ hb) hf ho he
theorem aC.sub{k h V}(o:aC k V)(e:jB k h):aC h V:=
 ⟨o.i0.sub e,o.i1.sub e,o.i2.sub e,o.i3.sub e,o.i4.sub e,o.i5.sub e,λx hx=>(o.e2 x hx).sub e,λx hx=>(o.e3 x hx).sub e,λx hx=>(o.e4 x hx).sub e⟩
theorem bw.sub{k h x}(o:bw k x)(e:jB k h):bw h x:=⟨o.n.sub e,o.v.sub e⟩
theorem jB.fJ(ex:List (Option Nat))(h:ah):jB (fJ ex h) h:=λ_ _ _ _ hb=>(rp hb).2
theorem aH.fJ{h s es cs}(o:aH h s es cs){ex}(hx:∀b,sB s=some b->some b∉ex):aH (Go.Abs.fJ ex h) s es cs:=by
 cases o with
 |nil=>exact .nil
 |mk hb hf ho he=>exact .mk ((ub (hx _ rfl)).trans hb) hf ho he
def aC.au{h k V}(o:aC h V)(hk:∀b,some b∈V.bl->k[b]? =h[b]?):aC k V:=by
 have m6:∀x∈[sB V.s0,sB V.s1,sB V.s2,sB V.s3,sB V.s4,sB V.s5],x∈V.bl:=λx hx=>by simp only[RV.bl,YZ];exact .inl (.inl (.inl hx))
 have kp:∀{s:AV}{es:Nat}{cs:List (List AV)},aH h s es cs->(∀b,sB s=some b->k[b]? =h[b]?)->aH k s es cs:=λ{s es cs} hs hb=>by
  cases hs with
  |nil=>exact .nil
  |mk h1 h2 h3 h4=>exact .mk ((hb _ rfl).trans h1) h2 h3 h4
 refine⟨kp o.i0 λb hb=>hk b (hb▸m6 _ Si),kp o.i1 λb hb=>hk b (hb▸m6 _ Si),kp o.i2 λb hb=>hk b (hb▸m6 _ Si),kp o.i3 λb hb=>hk b (hb▸m6 _ Si),kp o.i4 λb hb=>hk b (hb▸m6 _ Si),kp o.i5 λb hb=>hk b (hb▸m6 _ Si),
  λx hx=>kp (o.e2 x hx) λb hb=>hk b ?_,λx hx=>kp (o.e3 x hx) λb hb=>hk b ?_,λx hx=>kp (o.e4 x hx) λb hb=>hk b ?_⟩
 ·exact z143
 ·exact Ka
 ·exact z168
structure HV where
 c8:List EV
 eV:List EV
 cJ:List RV
 se:AV
 sc:AV
 sr:AV
def HV.bU(V:HV):hO:=⟨V.c8.map EV.ev,V.eV.map EV.ev,V.cJ.map RV.an⟩
def HV.ex(b:Nat)(V:HV):List (Option Nat):=[some b,sB V.se,sB V.sc,sB V.sr]
structure cF(N:Nat)(h:ah)(b:Nat)(V:HV):Prop where
 hN:N<=b
 hb:h[b]? =some (.b [V.se,V.sc,V.sr])
 oe:Ow N h V.se 5 (V.c8.map EV.row)
 oc:Ow N h V.sc 5 (V.eV.map EV.row)
 og:Ow N h V.sr 7 (V.cJ.map RV.row)
 di:lq (V.ex b)
 ae:∀x∈V.c8,bw (fJ (V.ex b) h) x
 ac:∀x∈V.eV,bw (fJ (V.ex b) h) x
 ag:∀x∈V.cJ,aC (fJ (V.ex b) h) x
 lo:∀x∈V.cJ,∀j,some j∈x.bl->N<=j
def nJ{ex ex' h h'}(hk:∀b,b<h.length->some b∉ex->h'[b]? =h[b]?)(he:∀b,b<h.length->some b∈ex'->some b∈ex):jB (fJ ex h) (fJ ex' h'):=by
 intro b c mu tl hb;obtain⟨h1,h2⟩:=rp hb;have hlt:b<h.length:=(YQ.1 h2).1;rw[ub λh3=>h1 (he b hlt h3),hk b hlt h1,h2]
def cF.app{N h b V}(o:cF N h b V)(g:ah):cF N (h++g) b V:=by
 have hs:jB (fJ (V.ex b) h) (fJ (V.ex b) (h++g)):=nJ (λb hb _=>YT hb) (λb _ hb=>hb);have hbl:=(YQ.1 o.hb).1;exact⟨o.hN,(YT hbl).trans o.hb,o.oe.aD λb hb=>YT (o.oe.bN hb).2,o.oc.aD λb hb=>YT (o.oc.bN hb).2,o.og.aD λb hb=>YT (o.og.bN hb).2,o.di,
  λx hx=>(o.ae x hx).sub hs,λx hx=>(o.ac x hx).sub hs,λx hx=>(o.ag x hx).sub hs,o.lo⟩
end Go.Abs
namespace Go.Abs
def j9:By->Bool
 |[]=>true
 |c::r=>fT c&&r.all jY
def th(s:By):dX s=(decide (s≠[])&&decide (s.length<=24)&&j9 s):=by
 cases s with
 |nil=>rfl
 |cons c r=>
  have:(r.length<24)=((c::r).length<=24):=by simp;omega
  simp only[dX,j9,this];simp[Bool.and_assoc]
def Ab{s:By}{k:Nat}(hk:k<s.length):j9 (s.take (k+1))=(j9 (s.take k)&&(if k=0 then fT s[k]else jY s[k])):=by
 cases s with
 |nil=>simp at hk
 |cons c r=>
  cases k with
  |zero=>simp[j9]
  |succ k=>
   have hk':k<r.length:=by simpa using hk
   simp only[aaN,j9,List.getElem_cons_succ];rw[ZF,YU hk',Option.toList_some];rw[List.all_append,aau,List.all_nil,Bool.and_true,Bool.and_assoc,Y6 Om]
def Aa{s k}(h:j9 (s.take k)=false):j9 s=false:=by
 cases s with
 |nil=>simp[j9]at h
 |cons c r=>
  cases k with
  |zero=>simp[j9]at h
  |succ k=>
   simp only[aaN,j9,Bool.and_eq_false_iff]at h ⊢;rcases h with h|h
   ·exact .inl h
   ·right
    rw[List.all_eq_false]at h ⊢;obtain⟨x,hx,hr⟩:=h;exact⟨x,ZW hx,hr⟩
def dec_lt{s i}(hi:i<s.length)(h:s[i].toNat<128):Utf8.decode ⟨⟨s⟩⟩ i=(s[i].toNat,1):=by
 have hg:(ByteArray.get! ⟨⟨s⟩⟩ i).toNat=s[i].toNat:=by
  simp[ByteArray.get!,hi]
 simp only[Utf8.decode,abl,hg,Zb h]
def IG{s i}(hi:i<s.length)(h:128<=s[i].toNat):128<=(Utf8.decode ⟨⟨s⟩⟩ i).1:=by
 have hg:(ByteArray.get! ⟨⟨s⟩⟩ i).toNat=s[i].toNat:=by
  simp[ByteArray.get!,hi]
 simp only[Utf8.decode,abl,hg];rw[Y6 Om];simp only[Utf8.runeError]
 repeat' split
 all_goals first
  |(simp only;omega)
  |(simp only[Zx,ZJ]at *;omega)
section
variable {P:Program}(T:fp P) {h:ah}
include T
def r85(c:Bool)(e:Int):ay P 85 [.bool c,.i e] h (λv _=>v=.i (bZ c e)):=by
 refine .of T.mix T.c85 ?_;unfold fn85 gA;simp only[uset];cases c<;>simp only[aQ]<;>rfl
def r82(c:Bool)(e:Int):ay P 82 [.bool c,.i e] h (λv _=>v=.i (bZ c e)):=by
 refine .of T.mix T.c82 ?_;unfold fn82 gA;simp only[uset];cases c<;>simp only[aQ]<;>rfl
def r94(n lo hi:Int):ay P 94 [.i n,.i lo,.i hi] h (λv _=>v=.i (bg n lo hi)):=by
 refine .of T.mix T.c94 ?_;unfold fn94 gA;simp only[uset];simp+contextual only[aQ,mR,Zl,Zt];refine⟨λh1=>?_,λh1=>?_⟩<;>
 ·refine WF.res T.c85 (r85 T _ _) ?_;rintro _ g rfl;simp only[aQ];simp[bZ,bg,h1]
def r74{s l}(hs:aH h s 1 (l.map aK))(hl:l.length<2^63):ay P 74 [s] h (λv _=>v=.i (aZ l)):=by
 refine .of T.mix T.c74 ?_;unfold fn74 gA;simp only[uset];have e1:(l.map aK).length=l.length:=Si
 simp only[aQ,hs.jh,e1];refine WL.inv T.mix (λn ts h'=>∃k:Nat,k<=l.length/\n=l.length-k/\h' =h/\aZ l=aZ (l.drop k)/\ts.length=15/\slot ts 5=s/\slot ts 6=.i l.length/\slot ts 7=.i k) l.length
  ⟨0,Om,rfl,rfl,rfl,rfl,rfl,rfl,rfl⟩ ?_
 rintro _ ts _ ⟨k,hk,rfl,rfl,hf,hlen,h5,h6,h7⟩;rw[k8 ts 15 hlen];by_cases hlt:k<l.length
 ·have hd:l.drop k=l[k]::l.drop (k+1):=Si
  have e2:(l.map aK)[k]'Om=[AV.i l[k]]:=Si
  have e3:(k:Int)<l.length:=Om
  simp+contextual (disch:=omega) only[aQ,mR,h5,h6,h7,e3,Zl,hs.bD,Int.toNat_natCast,hs.Gm _ e2,bu];exact QA
 ·have e3:¬(k:Int)<l.length:=Om
  have e4:k=l.length:=Om
  simp+contextual (disch:=omega) only[aQ,h5,h6,h7,e3,Zt,Zi];rw[hf,e4,ZX];rfl
def r83{s l}(hs:aH h s 1 (l.map aK))(hl:l.length<2^63):ay P 83 [s] h (λv _=>v=.i (aZ l)):=by
 refine .of T.mix T.c83 ?_;unfold fn83 gA;simp only[uset];have e1:(l.map aK).length=l.length:=Si
 simp only[aQ,hs.jh,e1];refine WL.inv T.mix (λn ts h'=>∃k:Nat,k<=l.length/\n=l.length-k/\h' =h/\aZ l=aZ (l.drop k)/\ts.length=19/\slot ts 0=s/\slot ts 3=.i k) l.length
  ⟨0,Om,rfl,rfl,rfl,rfl,rfl,rfl⟩ ?_
 rintro _ ts _ ⟨k,hk,rfl,rfl,hf,hlen,h0,h3⟩;rw[k8 ts 19 hlen];by_cases hlt:k<l.length
 ·have hd:l.drop k=l[k]::l.drop (k+1):=Si
  have e2:(l.map aK)[k]'Om=[AV.i l[k]]:=Si
  have e3:(k:Int)<l.length:=Om
  simp+contextual (disch:=omega) only[aQ,mR,h0,h3,e3,e1,Zl,hs.jh,hs.bD,Int.toNat_natCast,hs.Gm _ e2,bu];exact QA
 ·have e3:¬(k:Int)<l.length:=Om
  have e4:k=l.length:=Om
  simp+contextual (disch:=omega) only[aQ,h0,h3,e1,e3,Zt,hs.jh,Zi];rw[hf,e4,ZX];rfl
def r193(c:UInt8):ay P 193 [.int .u8 c.toNat] h (λv _=>v=.bool (fT c)):=by
 refine .of T.mix T.c193 ?_;unfold fn193 gA;simp only[uset];simp+contextual only[aQ,mR,Zl,Zt]
 grind [fT]
def r194(c:UInt8):ay P 194 [.int .u8 c.toNat] h (λv _=>v=.bool (fe c)):=by
 refine .of T.mix T.c194 ?_;unfold fn194 gA;simp only[uset];simp+contextual only[aQ,mR,Zl,Zt]
 grind [fe]
def r102(s:By)(hl:s.length<2^63):ay P 102 [.str s] h (λv _=>v=.bool (dX s)):=by
 refine .of T.mix T.c102 ?_;unfold fn102 gA;simp only[uset];cases s with
 |nil=>
  simp only[aQ,YX];simp only[show((0:Nat):Int)=0 from rfl,Zl,aQ];rfl
 |cons c r=>
  have e1:¬(((c::r).length:Nat):Int)=0:=by simp;omega
  simp+contextual only[aQ,mR,e1,Zl,Zt];refine⟨λh1=>?_,λh1=>?_⟩
  ·have:¬r.length<24:=by simp at h1;omega
   simp[dX,this]
  ·rw[vQ];simp only[aQ];refine WF.ce T.c193 (r193 T _) λg=>?_
   have hlt:r.length<24:=by simp at h1;omega
   cases hc:fT c with
   |false=>
    simp only[aQ,Zq];simp[dX,hc]
   |true=>
    simp only[aQ,Zg];have key:dX (c::r)=r.all jY:=by simp[dX,hc,hlt]
    refine WL.inv T.mix (λn ts h'=>∃k:Nat,k<=r.length/\n=r.length-k/\Ext h h'/\r.all jY=(r.drop k).all jY/\ts.length=42/\slot ts 0=.str (c::r)/\slot ts 3=.i (k+1)) r.length
     ⟨0,Om,rfl,⟨_,rfl⟩,rfl,rfl,rfl,rfl⟩ ?_
    rintro _ ts _ ⟨k,hk,rfl,⟨g',rfl⟩,hf,hlen,h0,h3⟩;rw[k8 ts 42 hlen];have hlc:(c::r).length=r.length+1:=rfl;by_cases hlt:k<r.length
    ·have hd:r.drop k=r[k]::r.drop (k+1):=Si
     have e3:(k:Int)+1<((c::r).length:Nat):=Om
     have e4:vR (.str (c::r)) (.i (k+1))=some (.int .u8 r[k].toNat):=jQ (s:=c::r) (i:=k+1) Om;simp only[aQ,h0,h3,e3,Zl,e4];refine WF.ce T.c193 (r193 T _) λg1=>?_
     cases hx:fT r[k]with
     |true=>
      simp (disch:=omega) only[aQ,Zg,bu];exact⟨_,Om,k+1,Om,rfl,by rw[hf,hd,aau,jY,hx,Bool.true_or,Bool.true_or,aao],rfl⟩
     |false=>
      simp only[aQ,Zq,h0,h3,e4];refine WF.ce T.c194 (r194 T _) λg2=>?_
      cases hy:fe r[k]with
      |true=>
       simp (disch:=omega) only[aQ,Zg,bu];exact⟨_,Om,k+1,Om,rfl,by rw[hf,hd,aau,jY,hx,hy,Bool.or_true,Bool.true_or,aao],rfl⟩
      |false=>
       simp+contextual (disch:=omega) only[aQ,mR,Zq,h0,h3,e4,bu];refine⟨λh9=>?_,λh9=>⟨_,Om,k+1,Om,rfl,?_,rfl⟩⟩
       ·rw[key,hf,hd,aau,jY,hx,hy];simp;omega
       ·rw[hf,hd,aau,jY,hx,hy];simp;omega
    ·have e3:¬(k:Int)+1<((c::r).length:Nat):=Om
     have e4:k=r.length:=Om
     simp only[aQ,h0,h3,e3,Zt,Zi];rw[key,hf,e4,ZX];rfl
def r132(s:By):ay P 132 [.str s] h (λv _=>v=.bool (dX s)):=by
 refine .of T.mix T.c132 ?_;unfold fn132 gA;simp only[uset];simp only[aQ,aT];refine WL.inv T.mix (λn ts h'=>∃k:Nat,k<=s.length/\n=s.length-k/\h' =h++[.iter s k]/\j9 (s.take k)=true/\ts.length=54/\slot ts 0=.str s/\slot ts 8=.ptr h.length 0) s.length
  ⟨0,Om,rfl,rfl,rfl,rfl,rfl,rfl⟩ ?_
 rintro _ ts _ ⟨k,hk,rfl,rfl,hf,hlen,h0,h8⟩;rw[k8 ts 54 hlen];by_cases hlt:k<s.length
 ·have R7:=Ab hlt;rw[hf,aao]at R7;obtain⟨c,w,Ua,hcw⟩:∃c w,Utf8.decode ⟨⟨s⟩⟩ k=(c,w)/\(c=s[k].toNat/\w=1\/128<=c/\128<=s[k].toNat):=by
   by_cases hc:s[k].toNat<128
   ·exact⟨_,_,dec_lt hlt hc,.inl ⟨rfl,rfl⟩⟩
   ·exact z198
  have TU:(if k=0 then fT s[k]else jY s[k])=false->AV.bool false=AV.bool (dX s):=λhb=>by
   rw[hb]at R7;rw[th,Aa R7,Bool.and_false]
  have XF:∀w',c=s[k].toNat/\w' =1->(if k=0 then fT s[k]else jY s[k])=true->∃m,m<s.length-k/\∃k_1,k_1<=s.length/\m=s.length-k_1/\h++[ak.iter s (k+w')]=h++[ak.iter s k_1]/\j9 (List.take k_1 s)=true/\True:=λw' hw hb=>by
   rw[hb]at R7;exact⟨_,Om,k+1,Om,rfl,by rw[hw.2],R7,trivial⟩
  have hl:fT s[k]=(decide (65<=s[k].toNat)&&decide (s[k].toNat<=90)||decide (97<=s[k].toNat)&&decide (s[k].toNat<=122)):=rfl;have hr:jY s[k]=(fT s[k]||(decide (48<=s[k].toNat)&&decide (s[k].toNat<=57))||s[k].toNat==95):=rfl;have h0':((k:Int)=0)=(k=0):=Si
  by_cases a1:(65:Int)<=c<;>by_cases a2:(c:Int)<=90<;>by_cases a3:(97:Int)<=c<;>by_cases a4:(c:Int)<=122<;>first|(exfalso;omega)|skip
  all_goals by_cases a5:(48:Int)<=c<;>by_cases a6:(c:Int)<=57<;>by_cases a7:(c:Int)=95<;>first|(exfalso;omega)|skip
  all_goals first|have b7:=aar a7|have b7:=abu a7
  all_goals simp only[aQ,aT,h0,h8,dW,hlt,Zi,Ua,a1,a2,a3,a4,a5,a6,b7,Zl,Zt,Zg,Zq]
  all_goals first
   |exact XF _ Om (by grind)
   |(by_cases hk0:(k:Int)=0<;>simp only[aQ,aT,hk0,Zl,Zt,Zg,Zq]<;>first
     |exact TU (by grind)
     |exact XF _ Om (by grind))
   |exact TU (by grind)
 ·simp only[aQ,aT,h0,h8,dW,hlt,Zf,Zi];have e4:k=s.length:=Om
  rw[e4,ZA]at hf;by_cases he:s=[]<;>simp only[aQ,he,Zl,Zt,ne_eq,not_true_eq_false,not_false_eq_true]
  ·rfl
  ·rw[th,hf];simp[he];omega
end
end Go.Abs
namespace Go.Abs
def eT{α:Type}{f:α->By}{L:List α}{n:By}(h:n∈L.map f):cT (λx=>decide (f x=n)) L=(bn (L.map f) n:Int):=by
 have e:bn (L.map f) n=L.findIdx λx=>decide (f x=n):=by
  rw[bn,List.findIdx_map];rfl
 have hlt:=cR h;rw[e,YY]at hlt;rw[e,cT,List.findIdx?_eq_guard_findIdx_lt];simp[Option.guard,hlt]
def fk{α:Type}{f:α->By}{L:List α}{n:By}:decide (0<=cT (λx=>decide (f x=n)) L)=decide (n∈L.map f):=by
 rw[n8];rw[Bool.eq_iff_iff];simp[aaj]
section
variable {P:Program}(T:fp P) {h:ah}
include T
def r230{α:Type}{row L s f}(hs:aH h s 3 (L.map row))(hl:L.length<2^63)(p:α->Bool)
  (hf:∀x,x∈L->∀k,Ext h k->bF P f [.agg (row x)] k (λv _=>v=.bool (p x))):ay P 230 [s,f] h (λv _=>v=.i (cT p L)):=by
 refine .of T.mix T.c230 ?_;unfold fn230 gA;exact z1
def r232{α:Type}{row L s f}(hs:aH h s 2 (L.map row))(hl:L.length<2^63)(p:α->Bool)
  (hf:∀x,x∈L->∀k,Ext h k->bF P f [.agg (row x)] k (λv _=>v=.bool (p x))):ay P 232 [s,f] h (λv _=>v=.i (cT p L)):=by
 refine .of T.mix T.c232 ?_;unfold fn232 gA;exact z1
def r228{α:Type}{row L s f}(hs:aH h s 3 (L.map row))(hl:L.length<2^63)(p:α->Bool)
  (hf:∀x,x∈L->∀k,Ext h k->bF P f [.agg (row x)] k (λv _=>v=.bool (p x))):ay P 228 [s,f] h (λv _=>v=.i (cT p L)):=by
 refine .of T.mix T.c228 ?_;unfold fn228 gA;exact z1
def r234{α:Type}{row L s f}(hs:aH h s 4 (L.map row))(hl:L.length<2^63)(p:α->Bool)
  (hf:∀x,x∈L->∀k,Ext h k->bF P f [.agg (row x)] k (λv _=>v=.bool (p x))):ay P 234 [s,f] h (λv _=>v=.i (cT p L)):=by
 refine .of T.mix T.c234 ?_;unfold fn234 gA;exact z1
def r236{α:Type}{row L s f}(hs:aH h s 3 (L.map row))(hl:L.length<2^63)(p:α->Bool)
  (hf:∀x,x∈L->∀k,Ext h k->bF P f [.agg (row x)] k (λv _=>v=.bool (p x))):ay P 236 [s,f] h (λv _=>v=.i (cT p L)):=by
 refine .of T.mix T.c236 ?_;unfold fn236 gA;exact z1
def r238{α:Type}{row L s f}(hs:aH h s 4 (L.map row))(hl:L.length<2^63)(p:α->Bool)
  (hf:∀x,x∈L->∀k,Ext h k->bF P f [.agg (row x)] k (λv _=>v=.bool (p x))):ay P 238 [s,f] h (λv _=>v=.i (cT p L)):=by
 refine .of T.mix T.c238 ?_;unfold fn238 gA;exact z1
def r246{α:Type}{row:α->List AV}{L:List α}{s f:AV}(hs:aH h s 3 (L.map row))(hl:L.length<2^63)(p:α->Bool)
  (hf:∀x,x∈L->∀k,Ext h k->bF P f [.agg (row x)] k (λv _=>v=.bool (p x))):ay P 246 [s,f] h (λv _=>v=.bool (L.any p)):=by
 refine .of T.mix T.c246 ?_;unfold fn246 gA;refine Wn ?_;refine WF.ce T.c230 (r230 T hs hl p hf) λg=>?_
 exact Ws @n8 Tv
def r243{α:Type}{row:α->List AV}{L:List α}{s f:AV}(hs:aH h s 3 (L.map row))(hl:L.length<2^63)(p:α->Bool)
  (hf:∀x,x∈L->∀k,Ext h k->bF P f [.agg (row x)] k (λv _=>v=.bool (p x))):ay P 243 [s,f] h (λv _=>v=.bool (L.any p)):=by
 refine .of T.mix T.c243 ?_;unfold fn243 gA;refine Wn ?_;refine WF.ce T.c228 (r228 T hs hl p hf) λg=>?_
 exact Ws @n8 Tv
def r268{α:Type}{row:α->List AV}{L:List α}{s f:AV}(hs:aH h s 4 (L.map row))(hl:L.length<2^63)(p:α->Bool)
  (hf:∀x,x∈L->∀k,Ext h k->bF P f [.agg (row x)] k (λv _=>v=.bool (p x))):ay P 268 [s,f] h (λv _=>v=.bool (L.any p)):=by
 refine .of T.mix T.c268 ?_;unfold fn268 gA;refine Wn ?_;refine WF.ce T.c238 (r238 T hs hl p hf) λg=>?_
 exact Ws @n8 Tv
def r123(x:gZ):ay P 123 [.agg (bV x)] h (λv _=>v=.str x.name):=by
 refine .of T.mix T.c123 ?_;unfold fn123 gA bV;exact Wn Tv
def r231(x:gZ){b n}(hb:h[b]? =some (.b [.str n])):ay P 231 [.agg (bV x),.ptr b 0] h (λv _=>v=.bool (decide (x.name=n))):=by
 refine .of T.mix T.c231 ?_;unfold fn231 gA;have hlt:=(YQ.1 hb).1;have hld:∀g:ah,aq none (.ptr b 0) (λz=>(h++g)[z]?)=dE none 0 (.b [.str n]):=λg=>aA (by rw[c7 _ hlt];exact hb)
 have Tc:∀g g':ah,aq none (.ptr b 0) (λz=>(h++g++g')[z]?)=dE none 0 (.b [.str n]):=λg g'=>aA (by rw[YR,c7 _ hlt];exact hb)
 unfold bV;refine Ws (A3 @hld @Tc @kf) ?_;refine WF.val (bF.zU T.m123 T.c123 (r123 T x)) ?_;rintro _ g1 rfl;exact z116
def r142{L s}(hs:aH h s 3 (L.map bV))(hl:L.length<2^63)(n:By):ay P 142 [s,.str n] h (λv _=>v=.i (cT (λx=>decide (x.name=n)) L)):=by
 refine .of T.mix T.c142 ?_;unfold fn142 gA;refine Wn ?_;refine WF.ce T.c230 (r230 T (hs.ext (by repeat first|exact Ext.refl _|refine Ext.app _ ?_)) hl (λx=>decide (x.name=n)) (λx hx k e=>bF.of (a:=[]) (c:=[.ptr h.length 0]) T.c231 (r231 T x (e.some a8)))) λg1=>?_
 exact Wn Tv
def r322(x:qH):ay P 322 [.agg (dt x)] h (λv _=>v=.str x.name):=by
 refine .of T.mix T.c322 ?_;unfold fn322 gA dt;exact Wn Tv
def r233(x:qH){b n}(hb:h[b]? =some (.b [.str n])):ay P 233 [.agg (dt x),.ptr b 0] h (λv _=>v=.bool (decide (x.name=n))):=by
 refine .of T.mix T.c233 ?_;unfold fn233 gA;have hlt:=(YQ.1 hb).1;have hld:∀g:ah,aq none (.ptr b 0) (λz=>(h++g)[z]?)=dE none 0 (.b [.str n]):=λg=>aA (by rw[c7 _ hlt];exact hb)
 have Tc:∀g g':ah,aq none (.ptr b 0) (λz=>(h++g++g')[z]?)=dE none 0 (.b [.str n]):=λg g'=>aA (by rw[YR,c7 _ hlt];exact hb)
 unfold dt;refine Ws (A3 @hld @Tc @kf) ?_;refine WF.val (bF.zU T.m322 T.c322 (r322 T x)) ?_;rintro _ g1 rfl;exact z116
def r143{L s}(hs:aH h s 2 (L.map dt))(hl:L.length<2^63)(n:By):ay P 143 [s,.str n] h (λv _=>v=.i (cT (λx=>decide (x.name=n)) L)):=by
 refine .of T.mix T.c143 ?_;unfold fn143 gA;refine Wn ?_;refine WF.ce T.c232 (r232 T (hs.ext (by repeat first|exact Ext.refl _|refine Ext.app _ ?_)) hl (λx=>decide (x.name=n)) (λx hx k e=>bF.of (a:=[]) (c:=[.ptr h.length 0]) T.c233 (r233 T x (e.some a8)))) λg1=>?_
 exact Wn Tv
def r140(x:gN×AV)(ho:x.2.one=true):ay P 140 [.agg (aX x)] h (λv _=>v=.str x.1.name):=by
 refine .of T.mix T.c140 ?_;unfold fn140 gA aX;exact Ws @ho Tv
def r229(x:gN×AV)(ho:x.2.one=true){b n}(hb:h[b]? =some (.b [.str n])):ay P 229 [.agg (aX x),.ptr b 0] h (λv _=>v=.bool (decide (x.1.name=n))):=by
 refine .of T.mix T.c229 ?_;unfold fn229 gA;have hlt:=(YQ.1 hb).1;have hld:∀g:ah,aq none (.ptr b 0) (λz=>(h++g)[z]?)=dE none 0 (.b [.str n]):=λg=>aA (by rw[c7 _ hlt];exact hb)
 have Tc:∀g g':ah,aq none (.ptr b 0) (λz=>(h++g++g')[z]?)=dE none 0 (.b [.str n]):=λg g'=>aA (by rw[YR,c7 _ hlt];exact hb)
 unfold aX;refine Ws (A4 @hld @Tc @ho @kf) ?_;refine WF.val (bF.zU T.m140 T.c140 (r140 T x ho)) ?_;rintro _ g1 rfl;exact z116
def r136{L s}(hs:aH h s 3 (L.map aX))(ho:∀x∈L,x.2.one=true)(hl:L.length<2^63)(n:By):ay P 136 [s,.str n] h (λv _=>v=.i (cT (λx=>decide (x.1.name=n)) L)):=by
 refine .of T.mix T.c136 ?_;unfold fn136 gA;refine Wn ?_;refine WF.ce T.c228 (r228 T (hs.ext (by repeat first|exact Ext.refl _|refine Ext.app _ ?_)) hl (λx=>decide (x.1.name=n)) (λx hx k e=>bF.of (a:=[]) (c:=[.ptr h.length 0]) T.c229 (r229 T x (ho x hx) (e.some a8)))) λg1=>?_
 exact Wn Tv
def r120(x:iE×AV)(ho:x.2.one=true):ay P 120 [.agg (aV x)] h (λv _=>v=.str x.1.name):=by
 refine .of T.mix T.c120 ?_;unfold fn120 gA aV;exact Ws @ho Tv
def r235(x:iE×AV)(ho:x.2.one=true){b n}(hb:h[b]? =some (.b [.str n])):ay P 235 [.agg (aV x),.ptr b 0] h (λv _=>v=.bool (decide (x.1.name=n))):=by
 refine .of T.mix T.c235 ?_;unfold fn235 gA;have hlt:=(YQ.1 hb).1;have hld:∀g:ah,aq none (.ptr b 0) (λz=>(h++g)[z]?)=dE none 0 (.b [.str n]):=λg=>aA (by rw[c7 _ hlt];exact hb)
 have Tc:∀g g':ah,aq none (.ptr b 0) (λz=>(h++g++g')[z]?)=dE none 0 (.b [.str n]):=λg g'=>aA (by rw[YR,c7 _ hlt];exact hb)
 unfold aV;refine Ws (A4 @hld @Tc @ho @kf) ?_;refine WF.val (bF.zU T.m120 T.c120 (r120 T x ho)) ?_;rintro _ g1 rfl;exact z116
def r144{L s}(hs:aH h s 4 (L.map aV))(ho:∀x∈L,x.2.one=true)(hl:L.length<2^63)(n:By):ay P 144 [s,.str n] h (λv _=>v=.i (cT (λx=>decide (x.1.name=n)) L)):=by
 refine .of T.mix T.c144 ?_;unfold fn144 gA;refine Wn ?_;refine WF.ce T.c234 (r234 T (hs.ext (by repeat first|exact Ext.refl _|refine Ext.app _ ?_)) hl (λx=>decide (x.1.name=n)) (λx hx k e=>bF.of (a:=[]) (c:=[.ptr h.length 0]) T.c235 (r235 T x (ho x hx) (e.some a8)))) λg1=>?_
 exact Wn Tv
def r324(x:k9×AV)(ho:x.2.one=true):ay P 324 [.agg (bO x)] h (λv _=>v=.str x.1.name):=by
 refine .of T.mix T.c324 ?_;unfold fn324 gA bO;exact Ws @ho Tv
def r237(x:k9×AV)(ho:x.2.one=true){b n}(hb:h[b]? =some (.b [.str n])):ay P 237 [.agg (bO x),.ptr b 0] h (λv _=>v=.bool (decide (x.1.name=n))):=by
 refine .of T.mix T.c237 ?_;unfold fn237 gA;have hlt:=(YQ.1 hb).1;have hld:∀g:ah,aq none (.ptr b 0) (λz=>(h++g)[z]?)=dE none 0 (.b [.str n]):=λg=>aA (by rw[c7 _ hlt];exact hb)
 have Tc:∀g g':ah,aq none (.ptr b 0) (λz=>(h++g++g')[z]?)=dE none 0 (.b [.str n]):=λg g'=>aA (by rw[YR,c7 _ hlt];exact hb)
 unfold bO;refine Ws (A4 @hld @Tc @ho @kf) ?_;refine WF.val (bF.zU T.m324 T.c324 (r324 T x ho)) ?_;rintro _ g1 rfl;exact z116
def r145{L s}(hs:aH h s 3 (L.map bO))(ho:∀x∈L,x.2.one=true)(hl:L.length<2^63)(n:By):ay P 145 [s,.str n] h (λv _=>v=.i (cT (λx=>decide (x.1.name=n)) L)):=by
 refine .of T.mix T.c145 ?_;unfold fn145 gA;refine Wn ?_;refine WF.ce T.c236 (r236 T (hs.ext (by repeat first|exact Ext.refl _|refine Ext.app _ ?_)) hl (λx=>decide (x.1.name=n)) (λx hx k e=>bF.of (a:=[]) (c:=[.ptr h.length 0]) T.c237 (r237 T x (ho x hx) (e.some a8)))) λg1=>?_
 exact Wn Tv
def r323(x:qo):ay P 323 [.agg (dh x)] h (λv _=>v=.str x.name):=by
 refine .of T.mix T.c323 ?_;unfold fn323 gA dh;exact Wn Tv
def r239(x:qo){b n}(hb:h[b]? =some (.b [.str n])):ay P 239 [.agg (dh x),.ptr b 0] h (λv _=>v=.bool (decide (x.name=n))):=by
 refine .of T.mix T.c239 ?_;unfold fn239 gA;have hlt:=(YQ.1 hb).1;have hld:∀g:ah,aq none (.ptr b 0) (λz=>(h++g)[z]?)=dE none 0 (.b [.str n]):=λg=>aA (by rw[c7 _ hlt];exact hb)
 have Tc:∀g g':ah,aq none (.ptr b 0) (λz=>(h++g++g')[z]?)=dE none 0 (.b [.str n]):=λg g'=>aA (by rw[YR,c7 _ hlt];exact hb)
 unfold dh;refine Ws (A3 @hld @Tc @kf) ?_;refine WF.val (bF.zU T.m323 T.c323 (r323 T x)) ?_;rintro _ g1 rfl;exact z116
def r146{L s}(hs:aH h s 4 (L.map dh))(hl:L.length<2^63)(n:By):ay P 146 [s,.str n] h (λv _=>v=.i (cT (λx=>decide (x.name=n)) L)):=by
 refine .of T.mix T.c146 ?_;unfold fn146 gA;refine Wn ?_;refine WF.ce T.c238 (r238 T (hs.ext (by repeat first|exact Ext.refl _|refine Ext.app _ ?_)) hl (λx=>decide (x.name=n)) (λx hx k e=>bF.of (a:=[]) (c:=[.ptr h.length 0]) T.c239 (r239 T x (e.some a8)))) λg1=>?_
 exact Wn Tv
end
def aH.OO{h s es cs}(hs:aH h s es cs):(s=.af/\cs=[])\/(∀neg:Bool,um neg (pB .Ed s .af)=some (.bool neg)):=by
 cases hs with
 |nil=>exact .inl ⟨rfl,rfl⟩
 |mk hb hf ho he=>right;intro neg;cases neg<;>rfl
def B9:um false (pB .Ed .af .af)=some (.bool true):=rfl
attribute [local irreducible] WP WC WE WB WR WF WL WG fU
section
variable {P:Program}(T:fp P) {h:ah}
include T
def r177{s cs}(hs:aH h s 1 cs)(hl:cs.length<=2^40):ay P 177 [s] h (λv h'=>Fr h.length h' v 1 cs):=by
 refine .of T.mix T.c177 ?_;unfold fn177 gA;exact NG
def r178{s cs}(hs:aH h s 1 cs)(hl:cs.length<=2^40):ay P 178 [s] h (λv h'=>Fr h.length h' v 1 cs):=by
 refine .of T.mix T.c178 ?_;unfold fn178 gA;exact NG
def r179{s cs}(hs:aH h s 2 cs)(hl:cs.length<=2^40):ay P 179 [s] h (λv h'=>Fr h.length h' v 2 cs):=by
 refine .of T.mix T.c179 ?_;unfold fn179 gA;exact NG
def r181(x:gN×AV)(hx:aH h x.2 1 (x.1.aB.map ao))(hl:x.1.aB.length<=2^40):ay P 181 [.agg (aX x)] h (λv h'=>∃s',v=.agg (aX (x.1,s'))/\Fr h.length h' s' 1 (x.1.aB.map ao)):=by
 refine .of T.mix T.c181 ?_;obtain⟨ts,RG⟩:∃ts,ts=aR 8 [.agg (aX x)]:=⟨_,rfl⟩;have hlen:ts.length=8:=by rw[RG];rfl
 have t0:slot ts 0=.agg (aX x):=by rw[RG];rfl
 unfold fn181 gA;show WC P bL _ [] (aR 8 [.agg (aX x)]) h _;rw[<-RG];clear RG;have o1:=hx.one;unfold aX at t0 ⊢;exact QD
def r183(x:iE×AV)(hx:aH h x.2 1 (x.1.bA.map ao))(hl:x.1.bA.length<=2^40):ay P 183 [.agg (aV x)] h (λv h'=>∃s',v=.agg (aV (x.1,s'))/\Fr h.length h' s' 1 (x.1.bA.map ao)):=by
 refine .of T.mix T.c183 ?_;obtain⟨ts,RG⟩:∃ts,ts=aR 8 [.agg (aV x)]:=⟨_,rfl⟩;have hlen:ts.length=8:=by rw[RG];rfl
 have t0:slot ts 0=.agg (aV x):=by rw[RG];rfl
 unfold fn183 gA;show WC P bL _ [] (aR 8 [.agg (aV x)]) h _;rw[<-RG];clear RG;have o1:=hx.one;unfold aV at t0 ⊢;exact QD
def r185(x:k9×AV)(hx:aH h x.2 1 (x.1.bB.map aK))(hl:x.1.bB.length<=2^40):ay P 185 [.agg (bO x)] h (λv h'=>∃s',v=.agg (bO (x.1,s'))/\Fr h.length h' s' 1 (x.1.bB.map aK)):=by
 refine .of T.mix T.c185 ?_;obtain⟨ts,RG⟩:∃ts,ts=aR 8 [.agg (bO x)]:=⟨_,rfl⟩;have hlen:ts.length=8:=by rw[RG];rfl
 have t0:slot ts 0=.agg (bO x):=by rw[RG];rfl
 unfold fn185 gA;show WC P bL _ [] (aR 8 [.agg (bO x)]) h _;rw[<-RG];clear RG;have o1:=hx.one;unfold bO at t0 ⊢;refine Rs (A2 t0 @o1) ?_;refine WF.res T.c178 (r178 T (hx.ext Xx) (by simp;omega)) ?_;rintro s' g1 hf;have o2:=hf.ba.one;refine Rs (A3 t0 @o1 @o2) ?_;exact⟨s',rfl,(Fr.swap hf Si).low Si⟩
set_option maxRecDepth 10000 in
def r91(x:EV)(hx:bw h x)(hl:x.ev.names.length<=2^40/\x.ev.cB.length<=2^40):ay P 91 [.agg x.row] h (λv h'=>∃x':EV,x'.ev=x.ev/\v=.agg x'.row/\Fr h.length h' x'.sn 1 (x.ev.names.map ao)/\Fr h.length h' x'.sv 1 (x.ev.cB.map aK)):=by
 refine .of T.mix T.c91 ?_;obtain⟨ts,RG⟩:∃ts,ts=aR 12 [.agg x.row]:=⟨_,rfl⟩;have hlen:ts.length=12:=by rw[RG];rfl
 have t0:slot ts 0=.agg x.row:=by rw[RG];rfl
 unfold fn91;show WC P bL _ [] (aR 12 [.agg x.row]) h _;rw[<-RG];clear RG;have o1:=hx.n.one;have o2:=hx.v.one;unfold EV.row at t0 ⊢;refine Rs (A3 t0 @o1 @o2) ?_;refine WF.res T.c177 (r177 T (hx.n.ext Xx) (by simp;omega)) ?_;rintro s1 g1 U9;have o3:=U9.ba.one;refine Rs (A4 t0 @o1 @o2 @o3) ?_;refine WF.res T.c178 (r178 T (hx.v.ext Xx) (by simp;omega)) ?_;rintro s2 g2 Ur;have o4:=Ur.ba.one;refine Rs (A5 t0 @o1 @o2 @o3 @o4) ?_;refine⟨⟨x.ev,s1,s2⟩,rfl,rfl,?_,?_⟩
 ·exact((Fr.swap U9 Si).app _).low Si
 ·exact(Fr.swap Ur Si).low Si
def r130{L:List (By)}{s f:AV}(hs:aH h s 1 (L.map ao))(hl:L.length<=2^40)(F:(By)->Int)(hf:∀x,x∈L->∀k,Ext h k->bF P f [.str x] k (λv _=>v=.i (F x))):
  ay P 130 [s,f] h (λv h'=>Fr h.length h' v 1 ((L.map F).map aK)):=by
 refine .of T.mix T.c130 ?_;unfold fn130 gA;refine Ws hs.aJ ?_;refine WL.inv T.mix (λn ts h'=>∃(k:Nat) (out:AV),k<=L.length/\n=L.length-k/\Ext h h'/\Fr h.length h' out 1 (((L.take k).map F).map aK)/\ts.length=22/\slot ts 1=f/\slot ts 5=out/\slot ts 8=s/\slot ts 9=.i L.length/\slot ts 10=.i k) L.length
  ⟨0,.af,Om,rfl,Ext.refl h,.nil,rfl,rfl,rfl,rfl,rfl,rfl⟩ ?_
 rintro _ ts _ ⟨k,out,hk,rfl,⟨g,rfl⟩,hfr,hlen,t1,t5,t8,t9,t10⟩;rw[k8 ts 22 hlen];by_cases hlt:k<L.length
 ·have e3:(k:Int)<L.length:=Om
  have hvk:=hf L[k] Si;have Wq:∀{kk:ah},Ext h kk->aq none (cN s 1 k) (λb=>kk[b]?)=some (.str L[k],.au):=λ{kk} e=>hs.kY hlt rfl e
  simp only[aQ,aT,bo,bp,reduceAdd,reduceMul,reduceLeDiff,reduceEqDiff,t1,t5,t8,t9,t10,e3,Zl,hs.dG hlt,Wq];refine WF.val (hvk _ (by repeat first|exact Ext.refl _|refine Ext.app _ ?_)) ?_;rintro _ g1 rfl;refine Wn ?_;refine WR.fG (h0:=h) (cs:=((L.take k).map F).map aK) (ys:=[aK (F L[k])]) (((hfr.app _).app _)) (Fr.push (N:=0) (Zw _) [aK (F L[k])] (by simp[aK])).ba De Si (by simp;omega) (by simp only[sj]) ?_;intro g' RT hff hkp;have hrow:((L.take k).map F).map aK++[aK (F L[k])]=((L.take (k+1)).map F).map aK:=by rw[ZF,YU hlt,Y5,Y5];rfl
  exact z6
 ·exact z5
def r92{L:List (Int)}{s f:AV}(hs:aH h s 1 (L.map aK))(hl:L.length<=2^40)(F:(Int)->Int)(hf:∀x,x∈L->∀k,Ext h k->bF P f [.i x] k (λv _=>v=.i (F x))):
  ay P 92 [s,f] h (λv h'=>Fr h.length h' v 1 ((L.map F).map aK)):=by
 refine .of T.mix T.c92 ?_;unfold fn92 KG;refine Ws hs.aJ ?_;refine WL.inv T.mix (λn ts h'=>∃(k:Nat) (out:AV),k<=L.length/\n=L.length-k/\Ext h h'/\Fr h.length h' out 1 (((L.take k).map F).map aK)/\ts.length=22/\slot ts 1=f/\slot ts 5=out/\slot ts 8=s/\slot ts 9=.i L.length/\slot ts 10=.i k) L.length
  ⟨0,.af,Om,rfl,Ext.refl h,.nil,rfl,rfl,rfl,rfl,rfl,rfl⟩ ?_
 rintro _ ts _ ⟨k,out,hk,rfl,⟨g,rfl⟩,hfr,hlen,t1,t5,t8,t9,t10⟩;rw[k8 ts 22 hlen];by_cases hlt:k<L.length
 ·have e3:(k:Int)<L.length:=Om
  have hvk:=hf L[k] Si;have Wq:∀{kk:ah},Ext h kk->aq none (cN s 1 k) (λb=>kk[b]?)=some (.i L[k],.au):=λ{kk} e=>hs.kY hlt rfl e
  simp only[aQ,aT,bo,bp,reduceAdd,reduceMul,reduceLeDiff,reduceEqDiff,t1,t5,t8,t9,t10,e3,Zl,hs.dG hlt,Wq];refine WF.val (hvk _ (by repeat first|exact Ext.refl _|refine Ext.app _ ?_)) ?_;rintro _ g1 rfl;refine Wn ?_;refine WR.fG (h0:=h) (cs:=((L.take k).map F).map aK) (ys:=[aK (F L[k])]) (((hfr.app _).app _)) (Fr.push (N:=0) (Zw _) [aK (F L[k])] (by simp[aK])).ba De Si (by simp;omega) (by simp only[sj]) ?_;intro g' RT hff hkp;have hrow:((L.take k).map F).map aK++[aK (F L[k])]=((L.take (k+1)).map F).map aK:=by rw[ZF,YU hlt,Y5,Y5];rfl
  exact z6
 ·exact z5
def r199{L:List (Int)}{s f:AV}(hs:aH h s 1 (L.map aK))(hl:L.length<=2^40)(F:(Int)->By)(hf:∀x,x∈L->∀k,Ext h k->bF P f [.i x] k (λv _=>v=.str (F x))):
  ay P 199 [s,f] h (λv h'=>Fr h.length h' v 1 ((L.map F).map ao)):=by
 refine .of T.mix T.c199 ?_;unfold fn199 gA;refine Ws hs.aJ ?_;refine WL.inv T.mix (λn ts h'=>∃(k:Nat) (out:AV),k<=L.length/\n=L.length-k/\Ext h h'/\Fr h.length h' out 1 (((L.take k).map F).map ao)/\ts.length=22/\slot ts 1=f/\slot ts 5=out/\slot ts 8=s/\slot ts 9=.i L.length/\slot ts 10=.i k) L.length
  ⟨0,.af,Om,rfl,Ext.refl h,.nil,rfl,rfl,rfl,rfl,rfl,rfl⟩ ?_
 rintro _ ts _ ⟨k,out,hk,rfl,⟨g,rfl⟩,hfr,hlen,t1,t5,t8,t9,t10⟩;rw[k8 ts 22 hlen];by_cases hlt:k<L.length
 ·have e3:(k:Int)<L.length:=Om
  have hvk:=hf L[k] Si;have Wq:∀{kk:ah},Ext h kk->aq none (cN s 1 k) (λb=>kk[b]?)=some (.i L[k],.au):=λ{kk} e=>hs.kY hlt rfl e
  simp only[aQ,aT,bo,bp,reduceAdd,reduceMul,reduceLeDiff,reduceEqDiff,t1,t5,t8,t9,t10,e3,Zl,hs.dG hlt,Wq];refine WF.val (hvk _ (by repeat first|exact Ext.refl _|refine Ext.app _ ?_)) ?_;rintro _ g1 rfl;refine Wn ?_;refine WR.fG (h0:=h) (cs:=((L.take k).map F).map ao) (ys:=[ao (F L[k])]) (((hfr.app _).app _)) (Fr.push (N:=0) (Zw _) [ao (F L[k])] (by simp[ao])).ba De Si (by simp;omega) (by simp only[sj]) ?_;intro g' RT hff hkp;have hrow:((L.take k).map F).map ao++[ao (F L[k])]=((L.take (k+1)).map F).map ao:=by rw[ZF,YU hlt,Y5,Y5];rfl
  exact z6
 ·exact z5
def r137{L:List (gN×AV)}{s f:AV}(hs:aH h s 3 (L.map aX))(ho:∀x∈L,x.2.one=true)(hl:L.length<=2^40)(F:(gN×AV)->By)(hf:∀x,x∈L->∀k,Ext h k->bF P f [.agg (aX x)] k (λv _=>v=.str (F x))):
  ay P 137 [s,f] h (λv h'=>Fr h.length h' v 1 ((L.map F).map ao)):=by
 refine .of T.mix T.c137 ?_;unfold fn137 gA;refine Ws hs.aJ ?_;refine WL.inv T.mix (λn ts h'=>∃(k:Nat) (out:AV),k<=L.length/\n=L.length-k/\Ext h h'/\Fr h.length h' out 1 (((L.take k).map F).map ao)/\ts.length=22/\slot ts 1=f/\slot ts 5=out/\slot ts 8=s/\slot ts 9=.i L.length/\slot ts 10=.i k) L.length
  ⟨0,.af,Om,rfl,Ext.refl h,.nil,rfl,rfl,rfl,rfl,rfl,rfl⟩ ?_
 rintro _ ts _ ⟨k,out,hk,rfl,⟨g,rfl⟩,hfr,hlen,t1,t5,t8,t9,t10⟩;rw[k8 ts 22 hlen];by_cases hlt:k<L.length
 ·have e3:(k:Int)<L.length:=Om
  have hvk:=hf L[k] Si;simp only[aQ,aT,bo,bp,reduceAdd,reduceMul,reduceLeDiff,reduceEqDiff,t1,t5,t8,t9,t10,e3,Zl,hs.dG hlt,hs.jD hlt,aX,ho L[k] Si];exact z4
 ·exact z5
def r121{L:List (gZ)}{s f:AV}(hs:aH h s 3 (L.map bV))(hl:L.length<=2^40)(F:(gZ)->By)(hf:∀x,x∈L->∀k,Ext h k->bF P f [.agg (bV x)] k (λv _=>v=.str (F x))):
  ay P 121 [s,f] h (λv h'=>Fr h.length h' v 1 ((L.map F).map ao)):=by
 refine .of T.mix T.c121 ?_;unfold fn121 gA;refine Ws hs.aJ ?_;refine WL.inv T.mix (λn ts h'=>∃(k:Nat) (out:AV),k<=L.length/\n=L.length-k/\Ext h h'/\Fr h.length h' out 1 (((L.take k).map F).map ao)/\ts.length=22/\slot ts 1=f/\slot ts 5=out/\slot ts 8=s/\slot ts 9=.i L.length/\slot ts 10=.i k) L.length
  ⟨0,.af,Om,rfl,Ext.refl h,.nil,rfl,rfl,rfl,rfl,rfl,rfl⟩ ?_
 rintro _ ts _ ⟨k,out,hk,rfl,⟨g,rfl⟩,hfr,hlen,t1,t5,t8,t9,t10⟩;rw[k8 ts 22 hlen];by_cases hlt:k<L.length
 ·have e3:(k:Int)<L.length:=Om
  have hvk:=hf L[k] Si;simp only[aQ,aT,bo,bp,reduceAdd,reduceMul,reduceLeDiff,reduceEqDiff,t1,t5,t8,t9,t10,e3,Zl,hs.dG hlt,hs.jD hlt,bV];exact z4
 ·exact z5
def r117{L:List (iE×AV)}{s f:AV}(hs:aH h s 4 (L.map aV))(ho:∀x∈L,x.2.one=true)(hl:L.length<=2^40)(F:(iE×AV)->By)(hf:∀x,x∈L->∀k,Ext h k->bF P f [.agg (aV x)] k (λv _=>v=.str (F x))):
  ay P 117 [s,f] h (λv h'=>Fr h.length h' v 1 ((L.map F).map ao)):=by
 refine .of T.mix T.c117 ?_;unfold fn117 gA;refine Ws hs.aJ ?_;refine WL.inv T.mix (λn ts h'=>∃(k:Nat) (out:AV),k<=L.length/\n=L.length-k/\Ext h h'/\Fr h.length h' out 1 (((L.take k).map F).map ao)/\ts.length=22/\slot ts 1=f/\slot ts 5=out/\slot ts 8=s/\slot ts 9=.i L.length/\slot ts 10=.i k) L.length
  ⟨0,.af,Om,rfl,Ext.refl h,.nil,rfl,rfl,rfl,rfl,rfl,rfl⟩ ?_
 rintro _ ts _ ⟨k,out,hk,rfl,⟨g,rfl⟩,hfr,hlen,t1,t5,t8,t9,t10⟩;rw[k8 ts 22 hlen];by_cases hlt:k<L.length
 ·have e3:(k:Int)<L.length:=Om
  have hvk:=hf L[k] Si;simp only[aQ,aT,bo,bp,reduceAdd,reduceMul,reduceLeDiff,reduceEqDiff,t1,t5,t8,t9,t10,e3,Zl,hs.dG hlt,hs.jD hlt,aV,ho L[k] Si];exact z4
 ·exact z5
def r115{L:List (EV)}{s f:AV}(hs:aH h s 5 (L.map EV.row))(ho:∀x∈L,x.sn.one=true/\x.sv.one=true)(hl:L.length<=2^40)(F:(EV)->By)(hf:∀x,x∈L->∀k,Ext h k->bF P f [.agg (EV.row x)] k (λv _=>v=.str (F x))):
  ay P 115 [s,f] h (λv h'=>Fr h.length h' v 1 ((L.map F).map ao)):=by
 refine .of T.mix T.c115 ?_;unfold fn115 gA;refine Ws hs.aJ ?_;refine WL.inv T.mix (λn ts h'=>∃(k:Nat) (out:AV),k<=L.length/\n=L.length-k/\Ext h h'/\Fr h.length h' out 1 (((L.take k).map F).map ao)/\ts.length=22/\slot ts 1=f/\slot ts 5=out/\slot ts 8=s/\slot ts 9=.i L.length/\slot ts 10=.i k) L.length
  ⟨0,.af,Om,rfl,Ext.refl h,.nil,rfl,rfl,rfl,rfl,rfl,rfl⟩ ?_
 rintro _ ts _ ⟨k,out,hk,rfl,⟨g,rfl⟩,hfr,hlen,t1,t5,t8,t9,t10⟩;rw[k8 ts 22 hlen];by_cases hlt:k<L.length
 ·have e3:(k:Int)<L.length:=Om
  have hvk:=hf L[k] Si;simp only[aQ,aT,bo,bp,reduceAdd,reduceMul,reduceLeDiff,reduceEqDiff,t1,t5,t8,t9,t10,e3,Zl,hs.dG hlt,hs.jD hlt,EV.row,(ho L[k] Si).1,(ho L[k] Si).2];exact z4
 ·exact z5
set_option maxRecDepth 10000 in
def r138{L:List (gN×AV)}{s f:AV}(hs:aH h s 3 (L.map aX))(ho:∀x∈L,x.2.one=true)(hl:L.length<=2^38)(p:(gN×AV)->Bool)(hf:∀x,x∈L->∀k,Ext h k->bF P f [.agg (aX x)] k (λv _=>v=.bool (p x))):
  ay P 138 [s,f] h (λv h'=>Fr h.length h' v 3 ((L.filter p).map aX)):=by
 refine .of T.mix T.c138 ?_;unfold fn138 gA;refine Ws hs.aJ ?_;refine WL.inv T.mix (λn ts h'=>∃(k:Nat) (out:AV),k<=L.length/\n=L.length-k/\Ext h h'/\Fr h.length h' out 3 (((L.take k).filter p).map aX)/\ts.length=23/\slot ts 1=f/\slot ts 5=out/\slot ts 8=s/\slot ts 9=.i L.length/\slot ts 10=.i k) L.length
  ⟨0,.af,Om,rfl,Ext.refl h,.nil,rfl,rfl,rfl,rfl,rfl,rfl⟩ ?_
 rintro _ ts _ ⟨k,out,hk,rfl,⟨g,rfl⟩,hfr,hlen,t1,t5,t8,t9,t10⟩;rw[k8 ts 23 hlen];by_cases hlt:k<L.length
 ·have e3:(k:Int)<L.length:=Om
  have hvk:=hf L[k] Si;have R4:(L.take (k+1)).filter p=(L.take k).filter p++(if p L[k]=true then [L[k]]else []):=by
   exact Nv
  have Sg:((L.take k).filter p).length<=L.length:=ZL (ZD _ _) (by rw[ZR];omega);simp only[aQ,aT,bo,bp,reduceAdd,reduceMul,reduceLeDiff,reduceEqDiff,t1,t5,t8,t9,t10,e3,Zl,hs.dG hlt,hs.jD hlt,aX,ho L[k] Si];refine WF.val (hvk _ (by repeat first|exact Ext.refl _|refine Ext.app _ ?_)) ?_;rintro _ g1 rfl;cases hp:p L[k]with
  |true=>
   rw[hp,Zb rfl]at R4;simp only[aQ,aT,bo,bp,reduceAdd,reduceMul,reduceLeDiff,reduceEqDiff,ho L[k] Si];refine WR.fG (h0:=h) (cs:=((L.take k).filter p).map aX) (ys:=[aX L[k]]) (((hfr.app _).app _).app _) (Fr.push (N:=0) (Zw _) [aX L[k]] (by simp[aX])).ba De Si (by simp only[YY,YV,YX];omega) (by simp only[sj]) ?_;intro g' RT hff hkp;have hrow:((L.take k).filter p).map aX++[aX L[k]]=((L.take (k+1)).filter p).map aX:=by rw[R4,Y5];rfl
   exact z6
  |false=>
   exact NA
 ·exact z5
set_option maxRecDepth 10000 in
def r216{L:List (gZ)}{s f:AV}(hs:aH h s 3 (L.map bV))(hl:L.length<=2^38)(p:(gZ)->Bool)(hf:∀x,x∈L->∀k,Ext h k->bF P f [.agg (bV x)] k (λv _=>v=.bool (p x))):
  ay P 216 [s,f] h (λv h'=>Fr h.length h' v 3 ((L.filter p).map bV)):=by
 refine .of T.mix T.c216 ?_;unfold fn216 gA;refine Ws hs.aJ ?_;refine WL.inv T.mix (λn ts h'=>∃(k:Nat) (out:AV),k<=L.length/\n=L.length-k/\Ext h h'/\Fr h.length h' out 3 (((L.take k).filter p).map bV)/\ts.length=23/\slot ts 1=f/\slot ts 5=out/\slot ts 8=s/\slot ts 9=.i L.length/\slot ts 10=.i k) L.length
  ⟨0,.af,Om,rfl,Ext.refl h,.nil,rfl,rfl,rfl,rfl,rfl,rfl⟩ ?_
 rintro _ ts _ ⟨k,out,hk,rfl,⟨g,rfl⟩,hfr,hlen,t1,t5,t8,t9,t10⟩;rw[k8 ts 23 hlen];by_cases hlt:k<L.length
 ·have e3:(k:Int)<L.length:=Om
  have hvk:=hf L[k] Si;have R4:(L.take (k+1)).filter p=(L.take k).filter p++(if p L[k]=true then [L[k]]else []):=by
   exact Nv
  have Sg:((L.take k).filter p).length<=L.length:=ZL (ZD _ _) (by rw[ZR];omega);simp only[aQ,aT,bo,bp,reduceAdd,reduceMul,reduceLeDiff,reduceEqDiff,t1,t5,t8,t9,t10,e3,Zl,hs.dG hlt,hs.jD hlt,bV];refine WF.val (hvk _ (by repeat first|exact Ext.refl _|refine Ext.app _ ?_)) ?_;rintro _ g1 rfl;cases hp:p L[k]with
  |true=>
   rw[hp,Zb rfl]at R4;refine Wn ?_;refine WR.fG (h0:=h) (cs:=((L.take k).filter p).map bV) (ys:=[bV L[k]]) (((hfr.app _).app _).app _) (Fr.push (N:=0) (Zw _) [bV L[k]] (by simp[bV])).ba De Si (by simp only[YY,YV,YX];omega) (by simp only[sj]) ?_;intro g' RT hff hkp;have hrow:((L.take k).filter p).map bV++[bV L[k]]=((L.take (k+1)).filter p).map bV:=by rw[R4,Y5];rfl
   exact z6
  |false=>
   exact NA
 ·exact z5
set_option maxRecDepth 10000 in
def r88{L:List (EV)}{s f:AV}(hs:aH h s 5 (L.map EV.row))(ho:∀x∈L,x.sn.one=true/\x.sv.one=true)(hl:L.length<=2^38)(p:(EV)->Bool)(hf:∀x,x∈L->∀k,Ext h k->bF P f [.agg (EV.row x)] k (λv _=>v=.bool (p x))):
  ay P 88 [s,f] h (λv h'=>Fr h.length h' v 5 ((L.filter p).map EV.row)):=by
 refine .of T.mix T.c88 ?_;unfold fn88 gA;refine Ws hs.aJ ?_;refine WL.inv T.mix (λn ts h'=>∃(k:Nat) (out:AV),k<=L.length/\n=L.length-k/\Ext h h'/\Fr h.length h' out 5 (((L.take k).filter p).map EV.row)/\ts.length=23/\slot ts 1=f/\slot ts 5=out/\slot ts 8=s/\slot ts 9=.i L.length/\slot ts 10=.i k) L.length
  ⟨0,.af,Om,rfl,Ext.refl h,.nil,rfl,rfl,rfl,rfl,rfl,rfl⟩ ?_
 rintro _ ts _ ⟨k,out,hk,rfl,⟨g,rfl⟩,hfr,hlen,t1,t5,t8,t9,t10⟩;rw[k8 ts 23 hlen];by_cases hlt:k<L.length
 ·have e3:(k:Int)<L.length:=Om
  have hvk:=hf L[k] Si;have R4:(L.take (k+1)).filter p=(L.take k).filter p++(if p L[k]=true then [L[k]]else []):=by
   exact Nv
  have Sg:((L.take k).filter p).length<=L.length:=ZL (ZD _ _) (by rw[ZR];omega);simp only[aQ,aT,bo,bp,reduceAdd,reduceMul,reduceLeDiff,reduceEqDiff,t1,t5,t8,t9,t10,e3,Zl,hs.dG hlt,hs.jD hlt,EV.row,(ho L[k] Si).1,(ho L[k] Si).2];refine WF.val (hvk _ (by repeat first|exact Ext.refl _|refine Ext.app _ ?_)) ?_;rintro _ g1 rfl;cases hp:p L[k]with
  |true=>
   rw[hp,Zb rfl]at R4;simp only[aQ,aT,bo,bp,reduceAdd,reduceMul,reduceLeDiff,reduceEqDiff,(ho L[k] Si).1,(ho L[k] Si).2];refine WR.fG (h0:=h) (cs:=((L.take k).filter p).map EV.row) (ys:=[EV.row L[k]]) (((hfr.app _).app _).app _) (Fr.push (N:=0) (Zw _) [EV.row L[k]] (by simp[EV.row])).ba De Si (by simp only[YY,YV,YX];omega) (by simp only[sj]) ?_;intro g' RT hff hkp;have hrow:((L.take k).filter p).map EV.row++[EV.row L[k]]=((L.take (k+1)).filter p).map EV.row:=by rw[R4,Y5];rfl
   exact z6
  |false=>
   exact NA
 ·exact z5
end
section
variable {P:Program}(T:fp P) {h:ah}
include T
set_option maxRecDepth 10000 in
def r180{L:List (gN×AV)}{s:AV}(hs:aH h s 3 (L.map aX))(he:∀x∈L,aH h x.2 1 (x.1.aB.map ao))(hl:L.length<=2^30)(hle:∀x∈L,x.1.aB.length<=2^40):
  ay P 180 [s,.func (.func 181) [] []] h (λv h'=>∃L':List (gN×AV),L'.map Prod.fst=L.map Prod.fst/\Fr h.length h' v 3 (L'.map aX)/\(∀x∈L',Fr h.length h' x.2 1 (x.1.aB.map ao))/\lq (sB v::L'.map λx=>sB x.2)):=by
 refine .of T.mix T.c180 ?_;unfold fn180 gA;refine Ws hs.aJ ?_;refine WL.inv T.mix (λn ts h'=>∃(k:Nat) (out:AV) (L':List (gN×AV)),k<=L.length/\n=L.length-k/\Ext h h'/\L'.map Prod.fst=(L.take k).map Prod.fst/\Fr h.length h' out 3 (L'.map aX)/\(∀x∈L',Fr h.length h' x.2 1 (x.1.aB.map ao))/\lq (sB out::L'.map λx=>sB x.2)/\
   ts.length=22/\slot ts 1=.func (.func 181) [] []/\slot ts 5=out/\slot ts 8=s/\slot ts 9=.i L.length/\slot ts 10=.i k) L.length
  ⟨0,.af,[],Om,rfl,Ext.refl h,rfl,.nil,(λx hx=>by cases hx),aax _ _,rfl,rfl,rfl,rfl,rfl,rfl⟩ ?_
 rintro _ ts _ ⟨k,out,L',hk,rfl,⟨g,rfl⟩,hm,hfr,hin,SC,hlen,t1,t5,t8,t9,t10⟩;rw[k8 ts 22 hlen];have Wj:L'.length=k:=by have:=Zz List.length hm;simp at this;omega
 by_cases hlt:k<L.length
 ·have e3:(k:Int)<L.length:=Om
  have Xs:=he L[k] Si;have T5:=hle L[k] Si;have ox:=Xs.one;have eE:∀{kk:ah},Ext h kk->aq (some 3) (cN s 3 k) (λb=>kk[b]?)=some (.agg (aX L[k]),.au):=λ{kk} e=>hs.jD hlt e
  unfold aX at eE;simp only[aQ,aT,bo,bp,reduceAdd,reduceMul,reduceLeDiff,reduceEqDiff,t1,t5,t8,t9,t10,e3,Zl,hs.dG hlt,eE,ox];have hown:=λkk (e:Ext h kk)=>r181 T (h:=kk) L[k] (Xs.ext e) T5
  unfold aX at hown;refine WF.res T.c181 (hown _ (by repeat first|exact Ext.refl _|refine Ext.app _ ?_)) ?_;rintro _ g1 ⟨s',rfl,YE⟩;have os:=YE.ba.one;refine Ws @os ?_;refine WR.fG (h0:=h) (cs:=L'.map aX) (ys:=[aX (L[k].1,s')]) ((((hfr.app _).app _).app _)) (Fr.push (N:=0) (Zw _) [aX (L[k].1,s')] (by simp[aX])).ba De Si (by simp only[YY,YV,YX];omega) (by simp only[sj]) ?_;intro g' RT hff hkp;have hrow:L'.map aX++[aX (L[k].1,s')]=(L'++[(L[k].1,s')]).map aX:=by rw[Y5];rfl
  exact z2
 ·exact Nz
set_option maxRecDepth 10000 in
def r182{L:List (iE×AV)}{s:AV}(hs:aH h s 4 (L.map aV))(he:∀x∈L,aH h x.2 1 (x.1.bA.map ao))(hl:L.length<=2^30)(hle:∀x∈L,x.1.bA.length<=2^40):
  ay P 182 [s,.func (.func 183) [] []] h (λv h'=>∃L':List (iE×AV),L'.map Prod.fst=L.map Prod.fst/\Fr h.length h' v 4 (L'.map aV)/\(∀x∈L',Fr h.length h' x.2 1 (x.1.bA.map ao))/\lq (sB v::L'.map λx=>sB x.2)):=by
 refine .of T.mix T.c182 ?_;unfold fn182 gA;refine Ws hs.aJ ?_;refine WL.inv T.mix (λn ts h'=>∃(k:Nat) (out:AV) (L':List (iE×AV)),k<=L.length/\n=L.length-k/\Ext h h'/\L'.map Prod.fst=(L.take k).map Prod.fst/\Fr h.length h' out 4 (L'.map aV)/\(∀x∈L',Fr h.length h' x.2 1 (x.1.bA.map ao))/\lq (sB out::L'.map λx=>sB x.2)/\
   ts.length=22/\slot ts 1=.func (.func 183) [] []/\slot ts 5=out/\slot ts 8=s/\slot ts 9=.i L.length/\slot ts 10=.i k) L.length
  ⟨0,.af,[],Om,rfl,Ext.refl h,rfl,.nil,(λx hx=>by cases hx),aax _ _,rfl,rfl,rfl,rfl,rfl,rfl⟩ ?_
 rintro _ ts _ ⟨k,out,L',hk,rfl,⟨g,rfl⟩,hm,hfr,hin,SC,hlen,t1,t5,t8,t9,t10⟩;rw[k8 ts 22 hlen];have Wj:L'.length=k:=by have:=Zz List.length hm;simp at this;omega
 by_cases hlt:k<L.length
 ·have e3:(k:Int)<L.length:=Om
  have Xs:=he L[k] Si;have T5:=hle L[k] Si;have ox:=Xs.one;have eE:∀{kk:ah},Ext h kk->aq (some 4) (cN s 4 k) (λb=>kk[b]?)=some (.agg (aV L[k]),.au):=λ{kk} e=>hs.jD hlt e
  unfold aV at eE;simp only[aQ,aT,bo,bp,reduceAdd,reduceMul,reduceLeDiff,reduceEqDiff,t1,t5,t8,t9,t10,e3,Zl,hs.dG hlt,eE,ox];have hown:=λkk (e:Ext h kk)=>r183 T (h:=kk) L[k] (Xs.ext e) T5
  unfold aV at hown;refine WF.res T.c183 (hown _ (by repeat first|exact Ext.refl _|refine Ext.app _ ?_)) ?_;rintro _ g1 ⟨s',rfl,YE⟩;have os:=YE.ba.one;refine Ws @os ?_;refine WR.fG (h0:=h) (cs:=L'.map aV) (ys:=[aV (L[k].1,s')]) ((((hfr.app _).app _).app _)) (Fr.push (N:=0) (Zw _) [aV (L[k].1,s')] (by simp[aV])).ba De Si (by simp only[YY,YV,YX];omega) (by simp only[sj]) ?_;intro g' RT hff hkp;have hrow:L'.map aV++[aV (L[k].1,s')]=(L'++[(L[k].1,s')]).map aV:=by rw[Y5];rfl
  exact z2
 ·exact Nz
set_option maxRecDepth 10000 in
def r184{L:List (k9×AV)}{s:AV}(hs:aH h s 3 (L.map bO))(he:∀x∈L,aH h x.2 1 (x.1.bB.map aK))(hl:L.length<=2^30)(hle:∀x∈L,x.1.bB.length<=2^40):
  ay P 184 [s,.func (.func 185) [] []] h (λv h'=>∃L':List (k9×AV),L'.map Prod.fst=L.map Prod.fst/\Fr h.length h' v 3 (L'.map bO)/\(∀x∈L',Fr h.length h' x.2 1 (x.1.bB.map aK))/\lq (sB v::L'.map λx=>sB x.2)):=by
 refine .of T.mix T.c184 ?_;unfold fn184 gA;refine Ws hs.aJ ?_;refine WL.inv T.mix (λn ts h'=>∃(k:Nat) (out:AV) (L':List (k9×AV)),k<=L.length/\n=L.length-k/\Ext h h'/\L'.map Prod.fst=(L.take k).map Prod.fst/\Fr h.length h' out 3 (L'.map bO)/\(∀x∈L',Fr h.length h' x.2 1 (x.1.bB.map aK))/\lq (sB out::L'.map λx=>sB x.2)/\
   ts.length=22/\slot ts 1=.func (.func 185) [] []/\slot ts 5=out/\slot ts 8=s/\slot ts 9=.i L.length/\slot ts 10=.i k) L.length
  ⟨0,.af,[],Om,rfl,Ext.refl h,rfl,.nil,(λx hx=>by cases hx),aax _ _,rfl,rfl,rfl,rfl,rfl,rfl⟩ ?_
 rintro _ ts _ ⟨k,out,L',hk,rfl,⟨g,rfl⟩,hm,hfr,hin,SC,hlen,t1,t5,t8,t9,t10⟩;rw[k8 ts 22 hlen];have Wj:L'.length=k:=by have:=Zz List.length hm;simp at this;omega
 by_cases hlt:k<L.length
 ·have e3:(k:Int)<L.length:=Om
  have Xs:=he L[k] Si;have T5:=hle L[k] Si;have ox:=Xs.one;have eE:∀{kk:ah},Ext h kk->aq (some 3) (cN s 3 k) (λb=>kk[b]?)=some (.agg (bO L[k]),.au):=λ{kk} e=>hs.jD hlt e
  unfold bO at eE;simp only[aQ,aT,bo,bp,reduceAdd,reduceMul,reduceLeDiff,reduceEqDiff,t1,t5,t8,t9,t10,e3,Zl,hs.dG hlt,eE,ox];have hown:=λkk (e:Ext h kk)=>r185 T (h:=kk) L[k] (Xs.ext e) T5
  unfold bO at hown;refine WF.res T.c185 (hown _ (by repeat first|exact Ext.refl _|refine Ext.app _ ?_)) ?_;rintro _ g1 ⟨s',rfl,YE⟩;have os:=YE.ba.one;refine Ws @os ?_;refine WR.fG (h0:=h) (cs:=L'.map bO) (ys:=[bO (L[k].1,s')]) ((((hfr.app _).app _).app _)) (Fr.push (N:=0) (Zw _) [bO (L[k].1,s')] (by simp[bO])).ba De Si (by simp only[YY,YV,YX];omega) (by simp only[sj]) ?_;intro g' RT hff hkp;have hrow:L'.map bO++[bO (L[k].1,s')]=(L'++[(L[k].1,s')]).map bO:=by rw[Y5];rfl
  exact z2
 ·exact Nz
end
theorem aC.row{h V}(o:aC h V):V.row.all AV.one=true:=by
 simp only[RV.row,C4,C3,B2,o.i0.one,o.i1.one,o.i2.one,o.i3.one,o.i4.one,o.i5.one,Bool.and_self]
def aC.box{h V}(o:aC h V){N}:pD (.agg V.row) N=some (.ptr N 0,.push (.cells V.row true false)):=by
 have:(AV.agg V.row).cells=V.row:=rfl;simp only[pD,this,o.row,Zi]
def sV{V:RV}:V.row[0]? =some (.int .i64 V.tick):=rfl
def fI{V:RV}:V.row[1]? =some (V.s0):=rfl
def jX{V:RV}:V.row[2]? =some (V.s1):=rfl
def dy{V:RV}:V.row[3]? =some (V.s2):=rfl
def fP{V:RV}:V.row[4]? =some (V.s3):=rfl
def gh{V:RV}:V.row[5]? =some (V.s4):=rfl
def iG{V:RV}:V.row[6]? =some (V.s5):=rfl
def aF{V:RV}{mu tl:Bool}:dE (some 7) 0 (.cells V.row mu tl)=some (.agg V.row,.au):=rfl
def lq.app{l m}(hl:lq l)(hm:lq m)(h:∀x∈l,∀y∈m,∀b,x=some b->y≠some b):lq (l++m):=aab.2 ⟨hl,hm,h⟩
def lq.one{x}:lq [x]:=aax _ _
theorem lq.perm{l m}(hl:lq l)(h:l.Perm m):lq m:=List.Pairwise.perm hl h λ{x y} hxy b hy hx=>hxy b hx hy
def lR{n z}:dN n z=(List.replicate n z).flatten:=by
 induction n with
 |zero=>rfl
 |succ n ih=>rw[AZ,aav,Z9,ih]
def DF{h X:ah}{A B B':ak}{b:Nat}(hb:h.length+2<=b):(h++([A]++([B']++X)))[b]? =(h++([A]++([B]++X)))[b]? :=by
 have e:∀C:ak,(h++([A]++([C]++X)))[b]? =X[b-h.length-1-1]? :=λC=>by
  rw[Y7 Om,Y7 (by simp only[Zp];omega),Y7 (by simp only[Zp];omega)];rfl
 rw[e,e]
theorem cH.low{N M h V}(o:cH N h V)(hM:M<=N):cH M h V:=
 ⟨o.i0.low hM,o.i1.low hM,o.i2.low hM,o.i3.low hM,o.i4.low hM,o.i5.low hM,λx hx=>(o.e2 x hx).low hM,λx hx=>(o.e3 x hx).low hM,λx hx=>(o.e4 x hx).low hM,o.di⟩
def cH.dR{N h V}(o:cH N h V){b}(hb:some b∈V.bl):N<=b/\b<h.length:=by
 simp only[RV.bl,YZ,ZC,Zv,ZY,aay]at hb;rcases hb with((hb|⟨x,hx,hb⟩)|⟨x,hx,hb⟩)|⟨x,hx,hb⟩
 ·rcases hb with hb|hb|hb|hb|hb|hb
  ·exact o.i0.bN hb.symm
  ·exact o.i1.bN hb.symm
  ·exact o.i2.bN hb.symm
  ·exact o.i3.bN hb.symm
  ·exact o.i4.bN hb.symm
  ·exact o.i5.bN hb.symm
 ·exact(o.e2 x hx).bN hb
 ·exact(o.e3 x hx).bN hb
 ·exact(o.e4 x hx).bN hb
theorem rk:∀{l m:List (By)},l.Nodup->(∀x∈l,x∈m)->l.length<=m.length
 |[],_,_,_=>Zw _
 |x::l,m,hn,hs=>by
  have h1:=abp.1 hn;have hx:=hs x Si;have:=rk (m:=m.erase x) h1.2 λy hy=>(List.mem_erase_of_ne (λ(e:y=x)=>h1.1 (by rw[<-e];exact hy))).2 (hs y (ZG _ hy))
  rw[List.length_erase_of_mem hx]at this;have hp:=List.length_pos_of_mem hx;simp only[YV];omega
inductive Lay:Nat->Nat->List (Option Nat)->Prop
 |nil {a:Nat}:Lay a a []
 |cons {a b c:Nat}{l m:List (Option Nat)}(hab:a<=b) (hl:lq l) (hin:∀x,some x∈l->a<=x/\x<b) (r:Lay b c m):Lay a c (l++m)
def Lay.le{a c l}(h:Lay a c l):a<=c:=by
 induction h with
 |nil=>exact Y9 _
 |cons hab _ _ _ ih=>omega
def Lay.mem{a c l}(h:Lay a c l):∀x,some x∈l->a<=x/\x<c:=by
 induction h with
 |nil=>intro x hx;cases hx
 |cons hab _ hin r ih=>
  intro x hx;have:=r.le;rcases YZ.1 hx with hx|hx
  ·have:=hin x hx;omega
  ·have:=ih x hx;omega
def Lay.Ro{a c l}(h:Lay a c l):lq l:=by
 induction h with
 |nil=>exact List.Pairwise.nil
 |cons hab hl hin r ih=>
  refine hl.app ih λx hx y hy b hb UE=>?_
  subst hb;have h1:=hin b hx;rw[UE]at hy;have h2:=r.mem b hy;omega
def Mg{N h s es cs}(hs:Fr N h s es cs):∀x,some x∈[sB s]->N<=x/\x<h.length:=by
 intro x hx;rw[Zm]at hx;exact hs.bN hx.symm
set_option maxRecDepth 10000
section
variable {P:Program}(T:fp P) {h:ah}
include T
def r96{V:RV}(o:aC h V)(w:eJ V.an):ay P 96 [.agg V.row] h (λv h'=>∃V':RV,V'.an=V.an/\v=.agg V'.row/\cH h.length h' V'):=by
 refine .of T.mix T.c96 ?_;obtain⟨ts,RG⟩:∃ts,ts=aR 38 [.agg V.row]:=⟨_,rfl⟩;have hlen:ts.length=38:=by rw[RG];rfl
 have t0:slot ts 0=.agg V.row:=by rw[RG];rfl
 unfold fn96;show WC P bL _ [] (aR 38 [.agg V.row]) h _;rw[<-RG];clear RG;have RF:=@aC.box _ _ o;have n0:V.lines.length<=16:=w.l0;have n5:V.aN.length<=16:=w.l5;have n1:V.aB.length<=16:=w.l1;have n2:V.aj.length<=64:=by have:=w.l2;simpa [RV.an]using this
 have n3:V.aE.length<=32:=by have:=w.l3;simpa [RV.an]using this
 have n4:V.aG.length<=16:=by have:=w.l4;simpa [RV.an]using this
 have mk0:∀{N:Nat},ti 3 32 [AV.str [],.int .i64 0,.bool false] (.int .i64 (V.lines.length:Int)) (.int .i64 (V.lines.length:Int)) N=some (.slice N 0 V.lines.length 3,.push (.cells (dN V.lines.length [AV.str [],.int .i64 0,.bool false]) true true)):=nW Om Om;have mk5:∀{N:Nat},ti 4 48 [AV.str [],.str [],.int .i64 0,.bool false] (.int .i64 (V.aN.length:Int)) (.int .i64 (V.aN.length:Int)) N=some (.slice N 0 V.aN.length 4,.push (.cells (dN V.aN.length [AV.str [],.str [],.int .i64 0,.bool false]) true true)):=nW Om Om;refine Rs (A8 t0 @RF @fI @iG o.i0.aJ o.i5.aJ @mk0 @mk5) ?_
 have z0:(dN V.lines.length [AV.str [],.int .i64 0,.bool false])=(List.replicate V.lines.length [AV.str [],.int .i64 0,.bool false]).flatten:=lR;have z5:(dN V.aN.length [AV.str [],.str [],.int .i64 0,.bool false])=(List.replicate V.aN.length [AV.str [],.str [],.int .i64 0,.bool false]).flatten:=lR;obtain⟨B,hB⟩:∃B,B=ak.cells [AV.int .i64 0,.af,.af,.af,.af,.af,.af] true false:=⟨_,rfl⟩;rw[<-hB];have f0:Fr (h++[ak.cells V.row true false]++[B]).length (h++[ak.cells V.row true false]++[B]++([ak.cells (dN V.lines.length [AV.str [],.int .i64 0,.bool false]) true true]++[ak.cells (dN V.aN.length [AV.str [],.str [],.int .i64 0,.bool false]) true true])) (.slice (h++[ak.cells V.row true false]++[B]).length 0 V.lines.length 3) 3 (List.replicate V.lines.length [AV.str [],.int .i64 0,.bool false]):=by
  rw[<-YR];exact(Fr.A1 (Y9 _) rfl).app _
 have f5:Fr (h++[ak.cells V.row true false]++[B]).length (h++[ak.cells V.row true false]++[B]++([ak.cells (dN V.lines.length [AV.str [],.int .i64 0,.bool false]) true true]++[ak.cells (dN V.aN.length [AV.str [],.str [],.int .i64 0,.bool false]) true true])) (.slice (h++[ak.cells V.row true false]++[B]++[ak.cells (dN V.lines.length [AV.str [],.int .i64 0,.bool false]) true true]).length 0 V.aN.length 4) 4 (List.replicate V.aN.length [AV.str [],.str [],.int .i64 0,.bool false]):=by
  rw[<-YR];exact Fr.A1 Si rfl
 obtain⟨Z,hZ⟩:∃Z,Z=([ak.cells (dN V.lines.length [AV.str [],.int .i64 0,.bool false]) true true]++[ak.cells (dN V.aN.length [AV.str [],.str [],.int .i64 0,.bool false]) true true]):=⟨_,rfl⟩;have hZl:Z.length=2:=by rw[hZ];rfl
 have el5:(h++[ak.cells V.row true false]++[B]++[ak.cells (dN V.lines.length [AV.str [],.int .i64 0,.bool false]) true true]).length=(h++[ak.cells V.row true false]++[B]).length+1:=Si
 rw[YR (h++[ak.cells V.row true false]++[B]),<-hZ];rw[<-hZ,el5]at f5;rw[<-hZ]at f0;rw[el5];clear hZ;refine WR.My (h0:=h++[ak.cells V.row true false]++[B]) (g:=Z) (Sq t0) (Sq t0) f0 (o.i0.ext Xx) Si ?_;intro g1 _ WN hf0 hk0;have YD:=f5.aD (k:=h++[ak.cells V.row true false]++[B]++g1) λb hb=>hk0 b λb0 o n e he=>by cases he;cases hb;omega
 refine Rs (A2 t0 @iG) ?_;refine WR.My (h0:=h++[ak.cells V.row true false]++[B]) (g:=g1) (Sq t0) (Sq t0) YD (o.i5.ext Xx) Si ?_;intro g2 _ hl2 hf5' hk5;have hf0':=hf0.aD (k:=h++[ak.cells V.row true false]++[B]++g2) λb hb=>hk5 b λb0 o n e he=>by cases he;cases hb;omega
 have VF:g2.length=2:=Om
 refine Rs (A3 t0 @sV @jX) ?_;refine WF.res T.c179 (r179 T (o.i1.ext Xx) (by simp;omega)) ?_;rintro s1 c1 q1;refine Rs (A2 t0 @dy) ?_;refine WF.res T.c180 (r180 T (o.i2.ext Xx) (λx hx=>(o.e2 x hx).ext Xx) Om (λx hx=>?_)) ?_
 ·have:=(w.sh x.1 (Zo hx)).2.2;have hle:=rk this.1 (λt ht=>this.2 t ht);have WN:(jG V.an).length=V.aB.length:=by simp[jG,RV.an]
  omega
 rintro s2 c2 ⟨L2,m2,q2,q2e,q2d⟩;refine Rs (A2 t0 @fP) ?_;refine WF.res T.c182 (r182 T (o.i3.ext Xx) (λx hx=>(o.e3 x hx).ext Xx) Om (λx hx=>by have:=(w.md x.1 (Zo hx)).2.1;omega)) ?_;rintro s3 c3 ⟨L3,m3,q3,q3e,q3d⟩;refine Rs (A2 t0 @gh) ?_;refine WF.res T.c184 (r184 T (o.i4.ext Xx) (λx hx=>(o.e4 x hx).ext Xx) Om (λx hx=>by have:=(w.jb x.1 (Zo hx)).2.2.1;omega)) ?_;rintro s4 c4 ⟨L4,m4,q4,q4e,q4d⟩;refine Rs (A6 t0 q1.ba.one q2.ba.one q3.ba.one q4.ba.one @hB) ?_;refine⟨⟨V.tick,V.lines,V.aB,L2,L3,L4,V.aN,.slice (h++[ak.cells V.row true false]++[B]).length 0 V.lines.length 3,s1,s2,s3,s4,.slice ((h++[ak.cells V.row true false]++[B]).length+1) 0 V.aN.length 4⟩,?_,?_,?_⟩
 ·simp only[RV.an,m2,m3,m4]
 ·rw[<-hB];rfl
 obtain⟨H,hH⟩:∃H,H=h++[ak.cells V.row true false]++[B]:=⟨_,rfl⟩;have Ve:h.length<=H.length:=by rw[hH];simp
 rw[<-hH]at hf0' hf5' q1 q2 q2e q3 q3e q4 q4e;have own:cH H.length (H++g2++c1++c2++c3++c4) ⟨V.tick,V.lines,V.aB,L2,L3,L4,V.aN,.slice H.length 0 V.lines.length 3,s1,s2,s3,s4,.slice (H.length+1) 0 V.aN.length 4⟩:=by
  have n0:V.lines.length=(V.lines.map bV).length:=Si
  have n5:V.aN.length=(V.aN.map dh).length:=Si
  refine⟨(((hf0'.app _).app _).app _).app _,?_,?_,?_,?_,(((hf5'.app _).app _).app _).app _,?_,?_,?_,?_⟩
  ·exact(((q1.app _).app _).app _).low Si
  ·exact((q2.app _).app _).low (by simp only[YP];omega)
  ·exact(q3.app _).low (by simp only[YP];omega)
  ·exact q4.low (by simp only[YP];omega)
  ·exactλx hx=>(((q2e x hx).app _).app _).low (by simp only[YP];omega)
  ·exactλx hx=>((q3e x hx).app _).low (by simp only[YP];omega)
  ·exactλx hx=>(q4e x hx).low (by simp only[YP];omega)
  ·have lay:Lay H.length (H++g2++c1++c2++c3++c4).length ([some H.length]++([some (H.length+1)]++([sB s1]++((sB s2::L2.map λx=>sB x.2)++((sB s3::L3.map λx=>sB x.2)++((sB s4::L4.map λx=>sB x.2)++[])))))):=by
    refine .cons (b:=H.length+1) Om .one (λx hx=>by simp at hx;omega) ?_;refine .cons (b:=(H++g2).length) (by simp only[YP];omega) .one (λx hx=>by simp at hx;simp only[YP];omega) ?_;refine .cons (b:=(H++g2++c1).length) (by simp only[YP];omega) .one (Mg q1) ?_;refine .cons (b:=(H++g2++c1++c2).length) (by simp only[YP];omega) q2d (λx hx=>?_) ?_
    ·rcases ZC.1 hx with hx|hx
     ·exact q2.bN hx.symm
     ·obtain⟨y,hy,Wr⟩:=Zv.1 hx;exact(q2e y hy).bN Wr
    refine .cons (b:=(H++g2++c1++c2++c3).length) (by simp only[YP];omega) q3d (λx hx=>?_) ?_
    ·rcases ZC.1 hx with hx|hx
     ·exact q3.bN hx.symm
     ·obtain⟨y,hy,Wr⟩:=Zv.1 hx;exact(q3e y hy).bN Wr
    refine .cons (b:=(H++g2++c1++c2++c3++c4).length) (by simp only[YP];omega) q4d (λx hx=>?_) .nil;rcases ZC.1 hx with hx|hx
    ·exact q4.bN hx.symm
    ·obtain⟨y,hy,Wr⟩:=Zv.1 hx;exact(q4e y hy).bN Wr
   refine lay.Ro.perm (List.perm_iff_count.2 λa=>?_);simp only[RV.bl,sB,List.count_append,List.count_cons,List.count_nil,ZN,abl]
   ac_rfl
 rw[hH]at own Ve;refine(own.low Ve).au λb hb=>?_
 have hbN:=(own.dR hb).1;simp only[YR];exact DF (by simpa using hbN)
end
def aC.jw{h V}(o:aC h V):(∀x∈V.aj,x.2.one=true)/\(∀x∈V.aE,x.2.one=true)/\(∀x∈V.aG,x.2.one=true):=
 ⟨λx hx=>(o.e2 x hx).one,λx hx=>(o.e3 x hx).one,λx hx=>(o.e4 x hx).one⟩
structure eD(V:RV):Prop where
 l0:V.lines.length<2^30
 l1:V.aB.length<2^30
 l2:V.aj.length<2^30
 l3:V.aE.length<2^30
 l4:V.aG.length<2^30
 l5:V.aN.length<2^30
def eJ.len{V}(w:eJ V.an):eD V:=by
 have h0:=w.l0;have h1:=w.l1;have h2:=w.l2;have h3:=w.l3;have h4:=w.l4;have h5:=w.l5;simp only[RV.an,YY]at h0 h1 h2 h3 h4 h5;exact⟨Om,Om,Om,Om,Om,Om⟩
def gC{V:RV}:kv V.an=V.aj.map λx=>x.1.name:=by simp[kv,RV.an,abe]
def iI{V:RV}:iC V.an=V.aE.map λx=>x.1.name:=by simp[iC,RV.an,abe]
def iJ{V:RV}:iX V.an=V.aG.map λx=>x.1.name:=by simp[iX,RV.an,abe]
section
variable {P:Program}(T:fp P) {h:ah}
include T
def r205{V}(o:aC h V)(l:eD V){n}(hn:n∈gP V.an):ay P 205 [.agg V.row,.str n] h (λv _=>v=.agg (bV (du V.an n))):=by
 refine .eP 13 T.mix T.c205 ?_;intro ts hlen t0 t1;unfold fn205 gA;have RF:=@aC.box _ _ o;have hlt:bn (gP V.an) n<V.lines.length:=by have:=cR hn;simpa [gP,RV.an]using this
 have ei:cT (λx:gZ=>decide (x.name=n)) V.lines=(bn (gP V.an) n:Int):=eT (f:=gZ.name) hn;have ix:aS 3 V.s0 (.i (bn (gP V.an) n:Int))=some (cN V.s0 3 (bn (gP V.an) n),.au):=o.i0.dG hlt;have ld:∀{k:ah},Ext h k->aq (some 3) (cN V.s0 3 (bn (gP V.an) n)) (λb=>k[b]?)=some (.agg (bV (V.lines[bn (gP V.an) n])),.au):=λ{k} e=>o.i0.jD hlt e
 have sp:du V.an n=V.lines[bn (gP V.an) n]:=de hn;rw[sp];unfold bV at ld ⊢;refine Rs (A4 t0 t1 @RF @fI) ?_;refine WF.ce T.c142 (r142 T (o.i0.ext Xx) (by have:=l.l0;omega) n) λg1=>?_
 exact Dw
def r134{V}(o:aC h V)(l:eD V){n}(hn:n∈jG V.an):ay P 134 [.agg V.row,.str n] h (λv _=>v=.agg (dt (gu V.an n))):=by
 refine .eP 13 T.mix T.c134 ?_;intro ts hlen t0 t1;unfold fn134 gA;have RF:=@aC.box _ _ o;have hlt:bn (jG V.an) n<V.aB.length:=by have:=cR hn;simpa [jG,RV.an]using this
 have ei:cT (λx:qH=>decide (x.name=n)) V.aB=(bn (jG V.an) n:Int):=eT (f:=qH.name) hn;have ix:aS 2 V.s1 (.i (bn (jG V.an) n:Int))=some (cN V.s1 2 (bn (jG V.an) n),.au):=o.i1.dG hlt;have ld:∀{k:ah},Ext h k->aq (some 2) (cN V.s1 2 (bn (jG V.an) n)) (λb=>k[b]?)=some (.agg (dt (V.aB[bn (jG V.an) n])),.au):=λ{k} e=>o.i1.jD hlt e
 have sp:gu V.an n=V.aB[bn (jG V.an) n]:=de hn;rw[sp];unfold dt at ld ⊢;refine Rs (A4 t0 t1 @RF @jX) ?_;refine WF.ce T.c143 (r143 T (o.i1.ext Xx) (by have:=l.l1;omega) n) λg1=>?_
 exact Dw
def r77{V:RV}(o:aC h V)(l:eD V){n:By}(hn:n∈kv V.an):ay P 77 [.agg V.row,.str n] h (λv _=>∃x∈V.aj,x.1=kV V.an n/\v=.agg (aX x)):=by
 refine .eP 13 T.mix T.c77 ?_;intro ts hlen t0 t1;unfold fn77 gA;have RF:=@aC.box _ _ o;have hlt:bn (kv V.an) n<V.aj.length:=by have:=cR hn;simpa [kv,RV.an]using this
 have ei:cT (λx:gN×AV=>decide (x.1.name=n)) V.aj=(bn (kv V.an) n:Int):=(eT (f:=λx:gN×AV=>x.1.name) (by rw[<-gC];exact hn)).trans (by rw[gC]);have ix:aS 3 V.s2 (.i (bn (kv V.an) n:Int))=some (cN V.s2 3 (bn (kv V.an) n),.au):=o.i2.dG hlt;have ld:∀{k:ah},Ext h k->aq (some 3) (cN V.s2 3 (bn (kv V.an) n)) (λb=>k[b]?)=some (.agg (aX (V.aj[bn (kv V.an) n])),.au):=λ{k} e=>o.i2.jD hlt e
 have sp:(V.aj[bn (kv V.an) n]).1=kV V.an n:=by
  have:=de (f:=gN.name) (l:=V.an.aj) (n:=n) (d:=B5) hn;rw[show kV V.an n=_ from this];exact Dv
 have on:=o.jw.1 (V.aj[bn (kv V.an) n]) (Za _);have SP:V.aj[bn (kv V.an) n]∈V.aj:=Za _;generalize V.aj[bn (kv V.an) n]=x at *;unfold aX at ld ⊢;refine Rs (A4 t0 t1 @RF @dy) ?_;refine WF.ce T.c136 (r136 T (o.i2.ext Xx) o.jw.1 (by have:=l.l2;omega) n) λg1=>?_
 exact G7
def r245{V:RV}(o:aC h V)(l:eD V){n:By}(hn:n∈iC V.an):ay P 245 [.agg V.row,.str n] h (λv _=>∃x∈V.aE,x.1=gS V.an n/\v=.agg (aV x)):=by
 refine .eP 13 T.mix T.c245 ?_;intro ts hlen t0 t1;unfold fn245 gA;have RF:=@aC.box _ _ o;have hlt:bn (iC V.an) n<V.aE.length:=by have:=cR hn;simpa [iC,RV.an]using this
 have ei:cT (λx:iE×AV=>decide (x.1.name=n)) V.aE=(bn (iC V.an) n:Int):=(eT (f:=λx:iE×AV=>x.1.name) (by rw[<-iI];exact hn)).trans (by rw[iI]);have ix:aS 4 V.s3 (.i (bn (iC V.an) n:Int))=some (cN V.s3 4 (bn (iC V.an) n),.au):=o.i3.dG hlt;have ld:∀{k:ah},Ext h k->aq (some 4) (cN V.s3 4 (bn (iC V.an) n)) (λb=>k[b]?)=some (.agg (aV (V.aE[bn (iC V.an) n])),.au):=λ{k} e=>o.i3.jD hlt e
 have sp:(V.aE[bn (iC V.an) n]).1=gS V.an n:=by
  have:=de (f:=iE.name) (l:=V.an.aE) (n:=n) (d:=B6) hn;rw[show gS V.an n=_ from this];exact Dv
 have on:=o.jw.2.1 (V.aE[bn (iC V.an) n]) (Za _);have SP:V.aE[bn (iC V.an) n]∈V.aE:=Za _;generalize V.aE[bn (iC V.an) n]=x at *;unfold aV at ld ⊢;refine Rs (A4 t0 t1 @RF @fP) ?_;refine WF.ce T.c144 (r144 T (o.i3.ext Xx) o.jw.2.1 (by have:=l.l3;omega) n) λg1=>?_
 exact G7
def r124{V:RV}(o:aC h V)(l:eD V){n:By}(hn:n∈iX V.an):ay P 124 [.agg V.row,.str n] h (λv _=>∃x∈V.aG,x.1=gE V.an n/\v=.agg (bO x)):=by
 refine .eP 13 T.mix T.c124 ?_;intro ts hlen t0 t1;unfold fn124 gA;have RF:=@aC.box _ _ o;have hlt:bn (iX V.an) n<V.aG.length:=by have:=cR hn;simpa [iX,RV.an]using this
 have ei:cT (λx:k9×AV=>decide (x.1.name=n)) V.aG=(bn (iX V.an) n:Int):=(eT (f:=λx:k9×AV=>x.1.name) (by rw[<-iJ];exact hn)).trans (by rw[iJ]);have ix:aS 3 V.s4 (.i (bn (iX V.an) n:Int))=some (cN V.s4 3 (bn (iX V.an) n),.au):=o.i4.dG hlt;have ld:∀{k:ah},Ext h k->aq (some 3) (cN V.s4 3 (bn (iX V.an) n)) (λb=>k[b]?)=some (.agg (bO (V.aG[bn (iX V.an) n])),.au):=λ{k} e=>o.i4.jD hlt e
 have sp:(V.aG[bn (iX V.an) n]).1=gE V.an n:=by
  have:=de (f:=k9.name) (l:=V.an.aG) (n:=n) (d:=zS) hn;rw[show gE V.an n=_ from this];exact Dv
 have on:=o.jw.2.2 (V.aG[bn (iX V.an) n]) (Za _);have SP:V.aG[bn (iX V.an) n]∈V.aG:=Za _;generalize V.aG[bn (iX V.an) n]=x at *;unfold bO at ld ⊢;refine Rs (A4 t0 t1 @RF @gh) ?_;refine WF.ce T.c145 (r145 T (o.i4.ext Xx) o.jw.2.2 (by have:=l.l4;omega) n) λg1=>?_
 exact G7
def r218{V}(o:aC h V)(l:eD V){n}(hn:n∈lh V.an):ay P 218 [.agg V.row,.str n] h (λv _=>v=.agg (dh (j5 V.an n))):=by
 refine .eP 13 T.mix T.c218 ?_;intro ts hlen t0 t1;unfold fn218 gA;have RF:=@aC.box _ _ o;have hlt:bn (lh V.an) n<V.aN.length:=by have:=cR hn;simpa [lh,RV.an]using this
 have ei:cT (λx:qo=>decide (x.name=n)) V.aN=(bn (lh V.an) n:Int):=eT (f:=qo.name) hn;have ix:aS 4 V.s5 (.i (bn (lh V.an) n:Int))=some (cN V.s5 4 (bn (lh V.an) n),.au):=o.i5.dG hlt;have ld:∀{k:ah},Ext h k->aq (some 4) (cN V.s5 4 (bn (lh V.an) n)) (λb=>k[b]?)=some (.agg (dh (V.aN[bn (lh V.an) n])),.au):=λ{k} e=>o.i5.jD hlt e
 have sp:j5 V.an n=V.aN[bn (lh V.an) n]:=de hn;rw[sp];unfold dh at ld ⊢;refine Rs (A4 t0 t1 @RF @iG) ?_;refine WF.ce T.c146 (r146 T (o.i5.ext Xx) (by have:=l.l5;omega) n) λg1=>?_
 exact Dw
def L9{V}(o:aC h V)(l:eD V)(n:By):ay P 86 [.agg V.row,.i 0,.str n] h (λv _=>v=.bool (dC V.an 0 n)):=by
 refine .nM 47 T.mix T.c86 ?_;intro ts hlen t0 t1 t2;unfold fn86;have RF:=@aC.box _ _ o;have eh:dC V.an 0 n=decide (0<=cT (λx=>decide (x.name=n)) V.lines):=(fk (f:=gZ.name)).symm;rw[eh]
 skip
 refine Rs (A7 t0 t1 t2 @RF @fI @Zl @Zt) ?_;refine WF.ce T.c142 (r142 T (o.i0.ext Xx) (by have:=l.l0;omega) n) λg1=>?_
 exact F3
def L8{V}(o:aC h V)(l:eD V)(n:By):ay P 86 [.agg V.row,.i 1,.str n] h (λv _=>v=.bool (dC V.an 1 n)):=by
 refine .nM 47 T.mix T.c86 ?_;intro ts hlen t0 t1 t2;unfold fn86;have RF:=@aC.box _ _ o;have eh:dC V.an 1 n=decide (0<=cT (λx=>decide (x.name=n)) V.aB):=(fk (f:=qH.name)).symm;rw[eh]
 skip
 have d0:((1:Int)=0)=False:=aar De;refine Rs (A8 t0 t1 t2 @RF @jX @Zl @Zt @d0) ?_;refine WF.ce T.c143 (r143 T (o.i1.ext Xx) (by have:=l.l1;omega) n) λg1=>?_
 exact F3
def L7{V:RV}(o:aC h V)(l:eD V)(n:By):ay P 86 [.agg V.row,.i 2,.str n] h (λv _=>v=.bool (dC V.an 2 n)):=by
 refine .nM 47 T.mix T.c86 ?_;intro ts hlen t0 t1 t2;unfold fn86;have RF:=@aC.box _ _ o;have eh:dC V.an 2 n=decide (0<=cT (λx=>decide (x.1.name=n)) V.aj):=by
  rw[fk (f:=λx:gN×AV=>x.1.name),<-gC];rfl
 rw[eh]
 skip
 have d0:((2:Int)=0)=False:=aar De;have d1:((2:Int)=1)=False:=aar De;refine Rs (A9 t0 t1 t2 @RF @dy @Zl @Zt @d0 @d1) ?_;refine WF.ce T.c136 (r136 T (o.i2.ext Xx) o.jw.1 (by have:=l.l2;omega) n) λg1=>?_
 exact F3
def L5{V:RV}(o:aC h V)(l:eD V)(n:By):ay P 86 [.agg V.row,.i 3,.str n] h (λv _=>v=.bool (dC V.an 3 n)):=by
 refine .nM 47 T.mix T.c86 ?_;intro ts hlen t0 t1 t2;unfold fn86;have RF:=@aC.box _ _ o;have eh:dC V.an 3 n=decide (0<=cT (λx=>decide (x.1.name=n)) V.aE):=by
  rw[fk (f:=λx:iE×AV=>x.1.name),<-iI];rfl
 rw[eh]
 skip
 have d0:((3:Int)=0)=False:=aar De;have d1:((3:Int)=1)=False:=aar De;have d2:((3:Int)=2)=False:=aar De;refine Rs (lQ t0 t1 t2 @RF @fP @Zl @Zt @d0 @d1 @d2) ?_;refine WF.ce T.c144 (r144 T (o.i3.ext Xx) o.jw.2.1 (by have:=l.l3;omega) n) λg1=>?_
 exact F3
def L1{V:RV}(o:aC h V)(l:eD V)(n:By):ay P 86 [.agg V.row,.i 4,.str n] h (λv _=>v=.bool (dC V.an 4 n)):=by
 refine .nM 47 T.mix T.c86 ?_;intro ts hlen t0 t1 t2;unfold fn86;have RF:=@aC.box _ _ o;have eh:dC V.an 4 n=decide (0<=cT (λx=>decide (x.1.name=n)) V.aG):=by
  rw[fk (f:=λx:k9×AV=>x.1.name),<-iJ];rfl
 rw[eh]
 skip
 have d0:((4:Int)=0)=False:=aar De;have d1:((4:Int)=1)=False:=aar De;have d2:((4:Int)=2)=False:=aar De;have d3:((4:Int)=3)=False:=aar De;refine Rs (kS t0 t1 t2 @RF @gh @Zl @Zt @d0 @d1 @d2 @d3) ?_;refine WF.ce T.c145 (r145 T (o.i4.ext Xx) o.jw.2.2 (by have:=l.l4;omega) n) λg1=>?_
 exact F3
def L0{V}(o:aC h V)(l:eD V)(n:By):ay P 86 [.agg V.row,.i 5,.str n] h (λv _=>v=.bool (dC V.an 5 n)):=by
 refine .nM 47 T.mix T.c86 ?_;intro ts hlen t0 t1 t2;unfold fn86;have RF:=@aC.box _ _ o;have eh:dC V.an 5 n=decide (0<=cT (λx=>decide (x.name=n)) V.aN):=(fk (f:=qo.name)).symm;rw[eh]
 skip
 have d0:((5:Int)=0)=False:=aar De;have d1:((5:Int)=1)=False:=aar De;have d2:((5:Int)=2)=False:=aar De;have d3:((5:Int)=3)=False:=aar De;have d4:((5:Int)=4)=False:=aar De;refine Rs (mQ t0 t1 t2 @RF @iG @Zl @Zt @d0 @d1 @d2 @d3 @d4) ?_;refine WF.ce T.c146 (r146 T (o.i5.ext Xx) (by have:=l.l5;omega) n) λg1=>?_
 exact F3
def r86{V:RV}(o:aC h V)(l:eD V){t:Nat}(ht:t<6)(n:By):ay P 86 [.agg V.row,.i t,.str n] h (λv _=>v=.bool (dC V.an t n)):=by
 match t,ht with
 | 0,_=>exact L9 T o l n
 | 1,_=>exact L8 T o l n
 | 2,_=>exact L7 T o l n
 | 3,_=>exact L5 T o l n
 | 4,_=>exact L1 T o l n
 | 5,_=>exact L0 T o l n
def r135(x:qH)(t:Int):ay P 135 [.agg (dt x),.i t] h (λv _=>v=.bool (decide (t<=x.last))):=by
 refine .of T.mix T.c135 ?_;unfold fn135 gA dt;exact Wn Tv
def r76{V}(o:aC h V)(l:eD V){x}(hx:aH h x.2 1 (x.1.aB.map ao))(hl:x.1.aB.length<2^30)(hk:∀n∈x.1.aB,n∈jG V.an)(t:Int):
  ay P 76 [.agg V.row,.agg (aX x),.i t] h (λv _=>v=.bool (cG V.an x.1 t)):=by
 refine .nM 24 T.mix T.c76 ?_;intro ts hlen t0 t1 t2;unfold fn76 gA;have RF:=@aC.box _ _ o;have ox:=hx.one;unfold aX at t1;refine Rs (A6 t0 t1 t2 @RF @ox hx.aJ) ?_;refine WL.inv T.mix (λn ts h'=>∃k:Nat,k<=x.1.aB.length/\n=x.1.aB.length-k/\Ext (h++[ak.b V.row]) h'/\cG V.an x.1 t=(x.1.aB.drop k).any (fR V.an t)/\
   ts.length=24/\slot ts 2=.i t/\slot ts 3=.ptr h.length 0/\slot ts 7=.bool false/\slot ts 11=x.2/\slot ts 12=.i x.1.aB.length/\slot ts 13=.i k) x.1.aB.length
  ⟨0,Om,rfl,Xx,rfl,Sn,(Sq t2),(Sq t0),(Sq t0),(Sq t0),(Sq t0),(Rw t0)⟩ ?_
 rintro _ ts _ ⟨k,hk',rfl,⟨g,rfl⟩,hs,hlen,t2,t3,t7,t11,t12,t13⟩;by_cases hlt:k<x.1.aB.length
 ·have hd:x.1.aB.drop k=x.1.aB[k]::x.1.aB.drop (k+1):=Si
  have e3:=ee hlt;have ix:=hx.dG (kk:=.i64) hlt;have ld:∀{k':ah},Ext h k'->aq none (cN x.2 1 k) (λb=>k'[b]?)=some (.str x.1.aB[k],.au):=λ{k'} e=>hx.kY hlt rfl e
  refine Rs (lQ t2 t3 t7 t11 t12 t13 e3 ix @ld @aF) ?_;refine WF.ce T.c134 (r134 T (o.ext Xx) l (hk _ (Za hlt))) λg1=>?_
  refine Rs (A6 t2 t3 t7 t11 t12 t13) ?_;refine WF.ce T.c135 (r135 T _ t) λg2=>?_
  have hr:decide (t<=(gu V.an x.1.aB[k]).last)=fR V.an t x.1.aB[k]:=rfl;rw[hr];rw[hd,abf]at hs;cases Tb:fR V.an t x.1.aB[k]with
  |true=>
   rw[Tb,Bool.true_or]at hs;rw[hs];exact Rs (A6 t2 t3 t7 t11 t12 t13) Tv
  |false=>
   rw[Tb,aa5]at hs;have e5:=wrapN (n:=k) Om;refine Rs (A7 t2 t3 t7 t11 t12 t13 e5) ?_;exact⟨_,Om,k+1,Om,rfl,hs,rfl⟩
 ·have e3:=fo hlt;have e4:k=x.1.aB.length:=Om
  rw[e4,ZX]at hs;rw[hs];refine Rs (A7 t2 t3 t7 t11 t12 t13 e3) ?_;rfl
end
structure Nk(V:RV):Prop where
 sh:∀x∈V.aj,(∀n∈x.1.aB,n∈jG V.an)/\x.1.aB.length<2^30
def eJ.ue{V}(w:eJ V.an):Nk V:=by
 refine⟨λx hx=>?_⟩;have:=(w.sh x.1 (Zo hx)).2.2;have hle:=rk this.1 (λt ht=>this.2 t ht);have h1:=w.l1;have WN:(jG V.an).length=V.an.aB.length:=by simp[jG]
 exact⟨this.2,Om⟩
section
variable {P:Program}(T:fp P) {h:ah}
include T
def r139{V}(o:aC h V)(l:eD V)(ir:Nk V){x}(hm:x∈V.aj){t b c}(hb:h[b]? =some (.b V.row))(hc:h[c]? =some (.b [.i t])):
  ay P 139 [.agg (aX x),.ptr b 0,.ptr c 0] h (λv _=>v=.bool (!cG V.an x.1 t)):=by
 refine .nM 10 T.mix T.c139 ?_;intro ts hlen t0 t1 t2;unfold fn139 gA;have ox:=(o.e2 x hm).one;have lb:∀{k:ah}{n:Option Nat}{a:Nat},Ext h k->aq n (.ptr b a) (λz=>k[z]?)=dE n a (.b V.row):=λe=>aA (e.some hb)
 have lc:∀{k:ah}{n:Option Nat}{a:Nat},Ext h k->aq n (.ptr c a) (λz=>k[z]?)=dE n a (.b [.i t]):=λe=>aA (e.some hc)
 have hsf:=λ(k:ah) (e:Ext h k)=>r76 T (o.ext e) l ((o.e2 x hm).ext e) (ir.sh x hm).2 (ir.sh x hm).1 t
 unfold aX at t0 hsf;refine Rs (A7 t0 t1 t2 @ox @lb @lc @aF) ?_;refine WF.ce T.c76 (hsf _ Xx) λg1=>?_
 exact F3
def r80{V}(o:aC h V)(l:eD V)(ir:Nk V)(t:Int):ay P 80 [.agg V.row,.i t] h (λv h'=>aH h' v 1 ((fj V.an t).map ao)):=by
 refine .eP 10 T.mix T.c80 ?_;intro ts hlen t0 t1;unfold fn80 gA;have RF:=@aC.box _ _ o;refine Rs (A4 t0 t1 @RF @dy) ?_;have hm:∀x,x∈V.aj->∀k,Ext (h++[ak.b V.row]++[ak.b [AV.i t]]) k->bF P (.func (.func 139) [] [.ptr h.length 0,.ptr (h++[ak.b V.row]).length 0]) [.agg (aX x)] k (λv _=>v=.bool (!cG V.an x.1 t)):=λx hx k e=>
  bF.of (a:=[]) T.c139 (r139 T (o.ext (Ext.trans Xx e)) l ir hx (e.some uw) (e.some a8))
 refine WF.res T.c138 (r138 T (o.i2.ext Xx) o.jw.1 (by have:=l.l2;omega) (λx=>!cG V.an x.1 t) hm) ?_;rintro s1 g1 hf;refine Rs (A2 t0 t1) ?_;have Sg:(V.aj.filter λx=>!cG V.an x.1 t).length<=V.aj.length:=ZD _ _;refine WF.res T.c137 (r137 T hf.ba (λx hx=>o.jw.1 x ((aaa.1 hx).1)) (by have:=l.l2;omega) (λx=>x.1.name) (λx hx k e=>bF.of (a:=[]) (c:=[]) T.c140 (r140 T x (o.jw.1 x ((aaa.1 hx).1))))) ?_;rintro s2 g2 Ur;have eu:fj V.an t=(V.aj.filter λx=>!cG V.an x.1 t).map λx=>x.1.name:=by
  exact JK
 rw[eu];have:=Ur.ba;refine Rs (A2 t0 t1) ?_;exact this
def r255{x}(ox:x.2.one=true){n b}(hb:h[b]? =some (.b [.str n])):ay P 255 [.agg (aX x),.ptr b 0] h (λv _=>v=.bool (decide (x.1.line=n))):=by
 refine .eP 8 T.mix T.c255 ?_;intro ts hlen t0 t1;unfold fn255 gA;have lb:∀{k:ah}{n':Option Nat}{a:Nat},Ext h k->aq n' (.ptr b a) (λz=>k[z]?)=dE n' a (.b [.str n]):=λe=>aA (e.some hb)
 unfold aX at t0;exact Rs (A4 t0 t1 @ox @lb) Tv
def r206{V}(o:aC h V)(l:eD V)(n:By):ay P 206 [.agg V.row,.str n] h (λv h'=>aH h' v 3 ((V.aj.filter λx=>decide (x.1.line=n)).map aX)):=by
 refine .eP 9 T.mix T.c206 ?_;intro ts hlen t0 t1;unfold fn206 gA;have RF:=@aC.box _ _ o;refine Rs (A4 t0 t1 @RF @dy) ?_;refine WF.res T.c138 (r138 T (o.i2.ext Xx) o.jw.1 (by have:=l.l2;omega) (λx=>decide (x.1.line=n)) (λx hx k e=>bF.of (a:=[]) (c:=[.ptr (h++[ak.b V.row]).length 0]) T.c255 (r255 T (o.jw.1 x hx) (e.some a8)))) ?_;rintro s1 g1 hf;have:=hf.ba;refine Rs (A2 t0 t1) ?_;exact this
def r269{x n b}(hb:h[b]? =some (.b [.str n])):ay P 269 [.agg (dh x),.ptr b 0] h (λv _=>v=.bool (decide (x.Cn=n))):=by
 refine .eP 8 T.mix T.c269 ?_;intro ts hlen t0 t1;unfold fn269 F4;have lb:∀{k:ah}{n':Option Nat}{a:Nat},Ext h k->aq n' (.ptr b a) (λz=>k[z]?)=dE n' a (.b [.str n]):=λe=>aA (e.some hb)
 unfold dh at t0;exact Rs (A3 t0 t1 @lb) Tv
def r251{V}(o:aC h V)(l:eD V)(n:By):ay P 251 [.agg V.row,.str n] h (λv _=>v=.bool (qb V.an n)):=by
 refine .eP 9 T.mix T.c251 ?_;intro ts hlen t0 t1;unfold fn251 gA;have RF:=@aC.box _ _ o;refine Rs (A4 t0 t1 @RF @iG) ?_;refine WF.ce T.c268 (r268 T (o.i5.ext Xx) (by have:=l.l5;omega) (λx=>decide (x.Cn=n)) (λx hx k e=>bF.of (a:=[]) (c:=[.ptr (h++[ak.b V.row]).length 0]) T.c269 (r269 T (e.some a8)))) λg1=>?_
 refine Rs (A2 t0 t1) ?_;rfl
end
end Go.Abs
namespace Go.Abs
def WF.KB{P ro ks ts h h' Q fv args d l v}(H:fh P fv args h v h')(K:WP P ro l ks (put ts d v) h' Q):WF P ro false fv args d l ks ts h Q:=
 ⟨v,h',H,λhq=>absurd hq Si,K⟩
structure IterM(P:Program)(f:FuncId)(a c:List AV)(L:List (List AV))(pre:ah->Prop):Prop where
 run:∀(l:Nat) (h:ah) (J:Nat->Nat->ah->Prop) (D:ah->Prop),(∀m i k,J m i k->pre k)->(∀m i k g,J m i k->J m i (k++g))->
  (∀m i (hi:i<L.length) k,J m i k->∃b k',fh P (.func (.yield l) [] []) L[i] k (.bool b) k'/\(∀x,l<x->x<m->k'[x]? =k[x]?)/\(if b=true then J m (i+1) k' else D k'))->
  (∀m k,J m L.length k->D k)->l+1=h.length->pre h->(∀g,J (h++g).length 0 (h++g))->dm P f (a++[.func (.yield l) [] []]++c) h (λ_ k=>D k)
section
variable {P:Program}{ks:List Kt}{ts:TS}{h:ah}{Q:Ex->TS->ah->Prop}
def WC.iterM(hmix:P.follows .mixedOrders=true){f A a c L pre g ps asg body}(hA:bQ P f=some A)
  (hg:val ts g=.func (.func f) a c) (hi:IterM P f a c L pre) (hps:∀x∈L,x.length=ps.length) (I:Nat->Nat->ah->ah->Prop) (Fin:Ex->ah->ah->Prop)
  (h0:∀g,I (h.length+1+g.length) 0 h g) (hcl:∀m i h' g g2,I m i h' g->I m i h' (g++g2)) (hp0:∀X,pre (h++[X])) (hpre:∀m i h' g X,h'.length=h.length->I m i h' g->pre (h'++[X]++g))
  (step:∀m i (hi:i<L.length) h' g (R B:ak),h'.length=h.length->I m i h' g->
   WC P Cq asg [] (setArgs ts ps L[i]) (h'++[R]++g) λe1 U1 h2=>e1=.normal/\∃h1 g1,h2=h1++[R]++g1/\h1.length=h.length/\
    WC P Cq body [] U1 (h1++[B]++g1) λe2 _ h4=>∃h3 g3,h4=h3++[B]++g3/\h3.length=h.length/\(∀x,x+h.length+1<m->g3[x]? =g[x]?)/\(if e2=.normal then I m (i+1) h3 g3 else Fin e2 h3 g3))
  (done:∀e h' g,h'.length=h.length->(if e=.normal then ∃m,I m L.length h' g else Fin e h' g)->WE P bL e ks ts (h'++[ak.dead]++g) Q):WC P bL (.fL g ps asg body) ks ts h Q:=by
 let J:Nat->Nat->ah->Prop:=λm i k=>∃h' g,k=h'++[.loop .ready .normal ts ps asg body]++g/\h'.length=h.length/\I m i h' g
 let D:ah->Prop:=λk=>∃e h' g st,k=h'++[.loop st e ts ps asg body]++g/\h'.length=h.length/\st≠.busy/\(if e=.normal then ∃m,I m L.length h' g else Fin e h' g)
 obtain⟨v,h2,hs,e,h',g',st,rfl,hl,bU,Tq⟩:=hi.run h.length (h++[.loop .ready .normal ts ps asg body]) J D
  (λm i k hJ=>by obtain⟨h',g,rfl,h1,h2⟩:=hJ;exact hpre m i h' g _ h1 h2)
  (λm i k g2 hJ=>by obtain⟨h',g,rfl,h1,h2⟩:=hJ;exact⟨h',g++g2,by rw[YR],h1,hcl _ _ _ _ _ h2⟩)
  (λm i hi k hJ=>by
   obtain⟨h',g,rfl,h1,h2⟩:=hJ;obtain⟨e1,U1,k2,q1,rfl,h3,g3,rfl,h4,q2⟩:=W.sound hmix (step m i hi h' g (.loop .ready .normal ts ps asg body) (.loop .busy .normal ts ps asg body) h1 h2);obtain⟨e2,ts3,k3,q3,h5,g5,rfl,h6,q5,q4⟩:=W.sound hmix q2;have hy:fh P (.func (.yield h.length) [] []) L[i] (h'++[.loop .ready .normal ts ps asg body]++g) (.bool (decide (e2=.normal))) (List.set (h5++[ak.loop .busy .normal ts ps asg body]++g5) h.length (ak.loop (if e2=.normal then .ready else .done) e2 ts ps asg body)):=
    fh.yield (ni h1) (hps _ (Za hi)) (λr=>q1 (some r) ⟨r,rfl⟩) (ni h4) (λr=>by rw[ru h4];exact q3 (some r) ⟨r,rfl⟩) (ni h6)
   rw[ru h6]at hy;refine⟨decide (e2=.normal),_,hy,?_,?_⟩
   ·intro x hx SG;rw[Y7 (by simp;omega),Y7 (by simp;omega)];have:=q5 (x-h.length-1) Om;simp only[YP,YV,YX,h6,h1,ZN,Nat.sub_sub]at this ⊢;exact this
   by_cases he:e2=.normal
   ·exact Kg
   ·rw[Y6 he]at q4;simp only[he,Zt,ZM,Zf];exact⟨e2,h5,g5,.done,rfl,h6,Si,by rw[Y6 he];exact q4⟩)
  (λm k hJ=>by obtain⟨h',g,rfl,h1,h2⟩:=hJ;exact⟨.normal,h',g,.ready,rfl,h1,Si,by rw[Zb rfl];exact⟨m,h2⟩⟩)
  Si (hp0 _) (λg=>⟨h,g,rfl,rfl,by have:=h0 g;simpa only[YP,YV,YX,ZN]using this⟩)
 exact QG
end
def WC.Cb{P ro c ts h Q Q'}(H:WC P ro c [] ts h Q)(hq:∀e ts' h',Q e ts' h'->Q' e ts' h'):WC P ro c [] ts h Q':=W.mono H hq
def qy{A B:ah}{K K':ak}{b:Nat}(h:b≠A.length):(A++[K]++B)[b]? =(A++[K']++B)[b]? :=by
 by_cases h1:b<A.length
 ·rw[YR,YR,YT h1,YT h1]
 ·exact Ns
def IV{A B:ah}{K:ak}:(A++[K]++B)[A.length]? =some K:=by
 exact Kb
def dA(x:By×Bool):AV×AV:=(.str x.1,.bool x.2)
def gq:List (By×Bool)->By->Bool
 |[],_=>false
 |(a,b)::r,w=>if w=a then b else gq r w
def rN:List (By×Bool)->By->Bool->List (By×Bool)
 |[],w,b=>[(w,b)]
 |(a,c)::r,w,b=>if w=a then(w,b)::r else(a,c)::rN r w b
theorem rP:∀{M}{w w'}{b},gq (rN M w b) w' =if w' =w then b else gq M w'
 |[],w,w',b=>by rw[rN,gq];rfl
 |(a,c)::r,w,w',b=>by
  rw[rN];by_cases h1:w=a
  ·subst h1;rw[Zb rfl,gq,gq];exact Ke
  ·rw[Y6 h1,gq,gq,rP];exact Kl
theorem tC:∀{M}{w},∃o:Option AV,gY .s (.str w) (M.map dA)=some o/\(o=some (.bool (gq M w))\/(o=none/\gq M w=false))
 |[],w=>⟨none,rfl,.inr ⟨rfl,rfl⟩⟩
 |(a,c)::r,w=>by
  by_cases h1:w=a
  ·subst h1;refine⟨some (.bool c),?_,.inl ?_⟩
   ·simp only[ZP,dA,gY,cV,BEq.rfl]
   ·rw[gq,Zb rfl]
  ·obtain⟨o,h2,h3⟩:=tC (M:=r) (w:=w);have hb:(w==a)=false:=by simp[h1]
   refine⟨o,?_,?_⟩
   ·simp only[ZP,dA,gY,cV,hb];exact h2
   ·rw[gq,Y6 h1];exact h3
theorem uT:∀{M}{w}{b},mC .s (.str w) (.bool b) (M.map dA)=some ((rN M w b).map dA)
 |[],w,b=>rfl
 |(a,c)::r,w,b=>by
  by_cases h1:w=a
  ·subst h1;rw[rN,Zb rfl];simp only[ZP,dA,mC,cV,BEq.rfl]
  ·have hb:(w==a)=false:=by simp[h1]
   have:=uT (M:=r) (w:=w) (b:=b);rw[rN,Y6 h1];show(match some (w==a)with|some true=>some ((AV.str w,AV.bool b)::r.map dA)|some false=>(mC .s (.str w) (.bool b) (r.map dA)).map ((AV.str a,AV.bool c)::·)|none=>none)=_;rw[hb,this];rfl
def rn(kk:CK)(m k x:AV)(G:Nat->Option ak):Option (AV×iT):=
 match m with
 |.map r=>
  match G r with
  |some (.bf es)=>
   match mC kk k x es with
   |some es'=>some (az,.set r (.bf es'))
   |none=>none
  |_=>none
 |_=>none
def qt{kk r k x G es es'}(hb:G r=some (.bf es))(hu:mC kk k x es=some es'):rn kk (.map r) k x G=some (az,.set r (.bf es')):=by
 simp only[rn,hb,hu]
def hP{kk m k x ρ G N}:stepT (.fE kk m k x) ρ G N=rn kk (ρ m) (ρ k) (ρ x) G:=rfl
def gX(kk:CK)(z:AV)(ok:Bool)(m k:AV)(G:Nat->Option ak):Option (AV×iT):=
 match m with
 |.db=>some (if ok then .dM [z,.bool false]else z,.au)
 |.map r=>
  match G r with
  |some (.bf es)=>
   match gY kk k es with
   |some (some v)=>some (if ok then .dM [v,.bool true]else v,.au)
   |some none=>some (if ok then .dM [z,.bool false]else z,.au)
   |none=>none
  |_=>none
 |_=>none
def bS{kk z ok m k ρ G N}:stepT (.look kk z ok m k) ρ G N=gX kk z ok (ρ m) (ρ k) G:=rfl
def lH(z:AV)(ok:Bool):Option AV->Option (AV×iT)
 |some v=>some (if ok then .dM [v,.bool true]else v,.au)
 |none=>some (if ok then .dM [z,.bool false]else z,.au)
def nY{kk z ok r k G es o}(hb:G r=some (.bf es))(hu:gY kk k es=some o):
  gX kk z ok (.map r) k G=lH z ok o:=by
 simp only[gX,hb,hu];cases o<;>rfl
def pt{r w G M}(hb:G r=some (.bf (M.map dA))):gX .s (.bool false) false (.map r) (.str w) G=some (.bool (gq M w),.au):=by
 obtain⟨o,h1,h2⟩:=tC (M:=M) (w:=w);rw[nY hb h1];rcases h2 with rfl|⟨rfl,h2⟩
 ·rfl
 ·rw[h2];rfl
def rm{r w b G M}(hb:G r=some (.bf (M.map dA))):rn .s (.map r) (.str w) (.bool b) G=some (az,.set r (.bf ((rN M w b).map dA))):=qt hb uT
def ai.tl:ai->ai
 |.seq _ b=>b
 |c=>c
def ai.hd:ai->ai
 |.seq a _=>a
 |c=>c
def ai.dr:Nat->ai->ai
 | 0,c=>c
 |n+1,c=>c.tl.dr n
def ai.tv:ai->ai
 |.block _ a=>a
 |.loop a=>a
 |c=>c
def ai.DZ:ai->ai
 |.fL _ _ a _=>a
 |c=>c
def ai.Dm:ai->ai
 |.fL _ _ _ b=>b
 |c=>c
def Fr.swap'{N A B g s es cs}(hs:Fr N (A++g) s es cs)(hA:A.length=N)(hB:B.length=N):Fr N (B++g) s es cs:=by
 subst hA;exact hs.swap hB
set_option maxRecDepth 10000
attribute [local irreducible] WP WC WE WB WR WF WL WG fU
def Lv:ai:=((fn214).body.tl).hd
def HN:ai:=Lv.tl.tv
def OP:ai:=(fn214).body.tl.tl
def Lu:(fn214).body=.seq ((fn214).body.hd) (.seq (.seq Lv.hd (.block 0 (.fL (.t 16) [17,18] HN.DZ HN.Dm))) OP):=rfl
section
variable {P:Program}(T:fp P) {h:ah}
include T
def Ca{x:iE×AV}{Hm:List (By×Bool)->ah}{mb bb xb:Nat}(a1:∀M,(Hm M)[mb]? =some (.bf (M.map dA)))(a2:∀M,(Hm M)[bb]? =some (.b [.map mb]))(a3:∀M,(Hm M)[xb]? =some (.b (aV x)))
  (a4:∀M K:List (By×Bool),(Hm M).set mb (.bf (K.map dA))=Hm K) (a5:∀M,aH (Hm M) x.2 1 (x.1.bA.map ao)) (hl:x.1.bA.length<2^30) {ts:TS}(hlen:ts.length=56) (t4:slot ts 4=.ptr bb 0) (t6:slot ts 6=.ptr xb 0)
  {M:List (By×Bool)}{S:List (By)}(hM:∀w,gq M w=decide (w∈S)):
  WC P Cq HN.Dm [] ts (Hm M) λe _ h4=>e=.normal/\∃M',h4=Hm M'/\∀w,gq M' w=decide (w∈(if x.1.name∈S then S++x.1.bA else S)):=by
 have l2:∀{M n o},aq n (.ptr bb o) (λz=>(Hm M)[z]?)=dE n o (.b [.map mb]):=λ{M _ _}=>aA (a2 M)
 have l3:∀{M n o},aq n (.ptr xb o) (λz=>(Hm M)[z]?)=dE n o (.b [.str x.1.name,.str x.1.gives,.str x.1.line,x.2]):=λ{M _ _}=>aA (a3 M)
 have lk:∀{M w},gX .s (.bool false) false (.map mb) (.str w) (λz=>(Hm M)[z]?)=some (.bool (gq M w),.au):=λ{M _}=>pt (a1 M)
 have mp:∀{M w b},rn .s (.map mb) (.str w) (.bool b) (λz=>(Hm M)[z]?)=some (az,.set mb (.bf ((rN M w b).map dA))):=λ{M _ _}=>rm (a1 M)
 have UI:=λM G=>(a5 M).aJ G
 unfold HN Lv fn214 gA;simp only[ai.tl,ai.hd,ai.tv,ai.Dm]
 repeat (first|simp (config:={maxSteps:=1000000}) only[aQ,aT,bo,bp,reduceAdd,reduceMul,reduceLeDiff,reduceEqDiff,bz,hlen,Zf,Zi,t4,t6,l2,l3,UI M]|simp (config:={maxSteps:=1000000}) (disch:=first|(simp only[YP,YV,YX]<;>omega)|rfl|omega|fail) only[fc,aQ,aT,bo,bp,reduceAdd,reduceMul,reduceLeDiff,reduceEqDiff,bz,hlen,Zf,Zi,t4,t6,l2,l3,UI M])
 refine WL.inv T.mix (λn ts h'=>∃(k:Nat) (M':List (By×Bool)),k<=x.1.bA.length/\n=x.1.bA.length-k/\h' =Hm M'/\(∀w,gq M' w=decide (w∈S\/(x.1.name∈S/\w∈x.1.bA.take k)))/\
   ts.length=56/\slot ts 4=.ptr bb 0/\slot ts 6=.ptr xb 0/\slot ts 20=x.2/\slot ts 21=.i x.1.bA.length/\slot ts 22=.i k) x.1.bA.length
  ⟨0,M,Om,rfl,rfl,λw=>by rw[hM];simp,Sn,(Sq t4),(Sq t6),(Sq t6),(Sq t6),gM⟩ ?_
 clear t4 t6 hlen hM;clear M ts;rintro _ ts _ ⟨k,M,hk',rfl,rfl,hM,hlen,t4,t6,t20,t21,t22⟩;by_cases hlt:k<x.1.bA.length
 ·have e3:=ee hlt;have ix:=(a5 M).dG (kk:=.i64) hlt;have ld:aq none (cN x.2 1 k) (λb=>(Hm M)[b]?)=some (.str x.1.bA[k],.au):=(a5 M).kY hlt rfl (Ext.refl _);have e5:=wrapN (n:=k) Om;have hnew:∀w,gq (rN M x.1.bA[k] (gq M x.1.bA[k]||gq M x.1.name)) w=decide (w∈S\/(x.1.name∈S/\w∈x.1.bA.take (k+1))):=by
   intro w;rw[rP];have ht:x.1.bA.take (k+1)=x.1.bA.take k++[x.1.bA[k]]:=by rw[ZF,YU hlt];rfl
   rw[ht];by_cases hw:w=x.1.bA[k]
   ·rw[Zb hw,hM,hM,hw,<-Bool.decide_or,aaI,YZ,Zm];constructor
    ·rintro((h1|h1)|(h1|h1))
     ·exact .inl h1
     ·exact .inr ⟨h1.1,.inl h1.2⟩
     ·exact .inr ⟨h1,.inr rfl⟩
     ·exact .inr ⟨h1.1,.inr rfl⟩
    ·rintro(h1|h1)
     ·exact .inl (.inl h1)
     ·exact .inr (.inl h1.1)
   ·rw[Y6 hw,hM,aaI,YZ,Zm];simp only[hw,aay]
  cases hb:gq M x.1.bA[k]with
  |true=>
   rw[hb,Bool.true_or]at hnew;exact z85
  |false=>
   rw[hb,aa5]at hnew;exact z85
 ·have e3:=fo hlt;have e4:k=x.1.bA.length:=Om
  rw[e4,ZA]at hM;refine Rs (A6 t4 t6 t20 t21 t22 e3) ?_;refine⟨M,rfl,λw=>?_⟩;rw[hM,aaI];by_cases hx:x.1.name∈S<;>simp[hx]
end
def ON:iE×AV:=(B6,.af)
def tJ(X:List (iE×AV)):List (List AV):=(List.range X.length).map λj=>[.i ((X.length-1-j:Nat):Int),.agg (aV (X.getD (X.length-1-j) ON))]
def ju{X}:(tJ X).length=X.length:=by simp[tJ]
def tI{X j}(hj:j<(tJ X).length):(tJ X)[j]=[.i ((X.length-1-j:Nat):Int),.agg (aV (X[X.length-1-j]'(by rw[ju]at hj;omega)))]:=by
 have h1:X.length-1-j<X.length:=by rw[ju]at hj;omega
 simp only[tJ,Z6,List.getElem_range,ZH,YU h1,aa6]
structure qh(V:RV)(m:By)(cm cr:Nat)(k:ah):Prop where
 m:k[cm]? =some (.b [.str m])
 r:k[cr]? =some (.b V.row)
 o:aC k V
theorem qh.ext{V m cm cr k k'}(p:qh V m cm cr k)(e:Ext k k'):qh V m cm cr k':=⟨e.some p.m,e.some p.r,p.o.ext e⟩
def iV(V:RV)(m:By):List (iE×AV):=V.aE.filter λx=>decide (x.1.name∈cP m V.an.aE.reverse)
def zT{m:By}{l:List iE}{i:Nat}(hi:i<l.length):cP m (l.take (i+1))=(if l[i].name∈cP m (l.take i)then cP m (l.take i)++l[i].bA else cP m (l.take i)):=by
 rw[ZF,YU hi,cP,List.foldl_append];rfl
def Ad{α:Type}{p:α->Bool}{l:List α}{k:Nat}(hk:k<l.length)(hp:p l[k]=true):∃h:((l.take k).filter p).length<(l.filter p).length,(l.filter p)[((l.take k).filter p).length]=l[k]:=by
 have e:l.filter p=(l.take k).filter p++(l[k]:: (l.drop (k+1)).filter p):=by
  conv=>lhs;rw[<-aah k l,aaD hk,aan,aaH,Zb hp]
 have h:((l.take k).filter p).length<(l.filter p).length:=by rw[e];simp
 refine⟨h,?_⟩;have:(l.filter p)[((l.take k).filter p).length]? =some l[k]:=by rw[e,Y7 (Y9 _)];simp
 exact(YQ.1 this).2
def wm{α:Type}{p:α->Bool}{l:List α}{k:Nat}(hk:k<l.length):((l.take (k+1)).filter p).length=if p l[k]=true then((l.take k).filter p).length+1 else((l.take k).filter p).length:=by
 rw[ZF,YU hk,aan,YP];cases h:p l[k]<;>simp[h]
def CO{N}:pD .db N=some (.ptr N 0,.push (.b [.db])):=rfl
def KK{r N}:km 1 0 (.map r) N (.b [.db])=some (az,.set N (.b [.map r])):=rfl
section
variable {P:Program}(T:fp P) {h:ah}
include T
def r215{s}(o:s.one=true):ay P 215 [s] h (λv h'=>v=.func (.func 259) [] [.ptr h.length 0]/\h' =h++[.b [s]]):=by
 refine .of T.mix T.c215 ?_;unfold fn215 gA;exact Ws @o Tv
def zZ{b s X}(hl:X.length<2^30):
  Iter P 259 [] [.ptr b 0] (tJ X) (λk=>k[b]? =some (.b [s])/\aH k s 4 (X.map aV)):=by
 refine⟨λl h1 J Dn hpre happ R7 TP h0=>dm.of T.mix T.c259 ?_⟩;obtain⟨ts,RG⟩:∃ts,ts=aR 19 ([]++[.func (.yield l) [] []]++[.ptr b 0]):=⟨_,rfl⟩;have hlen:ts.length=19:=by rw[RG];rfl
 have t0:slot ts 0=.func (.yield l) [] []:=by rw[RG];rfl
 have t1:slot ts 1=.ptr b 0:=by rw[RG];rfl
 unfold fn259 gA;show WC P bL _ [] (aR 19 ([]++[.func (.yield l) [] []]++[.ptr b 0])) h1 _;rw[<-RG];clear RG;have p0:=hpre 0 h1 h0;have l0:∀{n o},aq n (.ptr b o) (λz=>h1[z]?)=dE n o (.b [s]):=λ{_ _}=>aA p0.1
 have e0:IntKind.i64.wrap ((X.length:Int)-1)=(X.length:Int)-1-(0:Nat):=by rw[bu Om Om];omega
 refine Rs (A5 t0 t1 @l0 p0.2.aJ e0) ?_;refine WL.inv T.mix (λn ts h'=>∃k:Nat,k<=X.length/\n=X.length-k/\J k h'/\ts.length=19/\slot ts 0=.func (.yield l) [] []/\slot ts 1=.ptr b 0/\slot ts 3=.i ((X.length:Int)-1-k)) X.length
  ⟨0,Om,rfl,h0,Sn,(Sq t0),(Sq t1),(Sq t0)⟩ ?_
 clear t0 t1 hlen l0 p0;clear ts;rintro _ ts h' ⟨k,hk,rfl,hJ,hlen,t0,t1,t3⟩;obtain⟨p1,p2⟩:=hpre _ _ hJ;have l0:∀{n o},aq n (.ptr b o) (λz=>h'[z]?)=dE n o (.b [s]):=λ{_ _}=>aA p1
 by_cases hlt:k<X.length
 ·have hj:X.length-1-k<X.length:=Om
  have ei:(X.length:Int)-1-k=((X.length-1-k:Nat):Int):=Om
  have e3:decide ((0:Int)<=((X.length-1-k:Nat):Int))=true:=YW Om;have ix:=p2.dG (kk:=.i64) hj;have ld:aq (some 4) (cN s 4 (X.length-1-k)) (λb=>h'[b]?)=some (.agg (aV X[X.length-1-k]),.au):=p2.jD hj (Ext.refl _);have hwk:IntKind.i64.wrap (((X.length-1-k:Nat):Int)-1)=(X.length:Int)-1-((k+1:Nat):Int):=by rw[bu Om Om];omega
  rw[ei]at t3;refine Rs (A7 t0 t1 t3 @l0 e3 ix @ld) ?_;obtain⟨bb,k',q1,q2⟩:=R7 k (by rw[ju];exact hlt) h' hJ;rw[tI]at q1;refine WF.KB q1 ?_;cases bb with
  |true=>
   refine Rs (A5 t0 t1 t3 @Zg @hwk) ?_;exact⟨_,Om,k+1,Om,rfl,q2,rfl⟩
  |false=>
   refine Rs (A4 t0 t1 t3 @Zq) ?_;exact q2
 ·have e3:decide ((0:Int)<=(X.length:Int)-1-k)=false:=YS Om;have e4:k=X.length:=Om
  refine Rs (A4 t0 t1 t3 e3) ?_;refine TP h' ?_;rw[ju,<-e4];exact hJ
def r119{V}(o:aC h V)(m:By):ay P 119 [.agg V.row,.str m] h (λv h'=>v=.func (.func 214) [] [.ptr (h.length+1) 0,.ptr h.length 0]/\qh V m (h.length+1) h.length h'):=by
 refine .eP 6 T.mix T.c119 ?_;intro ts hlen t0 t1;unfold fn119 gA;have RF:=@aC.box _ _ o;have hl2:(h++[ak.b V.row]).length=h.length+1:=Si
 refine Rs (A3 t0 t1 @RF) ?_;rw[hl2];refine⟨rfl,?_,uw,o.ext Xx⟩;rw[<-hl2];exact a8
def rA{V:RV}(l:eD V)(hin:∀x∈V.aE,x.1.bA.length<2^30)(m:By)(cm cr:Nat):
  IterM P 214 [] [.ptr cm 0,.ptr cr 0] ((iV V m).map λx=>[.agg (aV x)]) (qh V m cm cr):=by
 refine⟨λlp h J Dn hpre happ R7 TP hlp p0 h0=>dm.of T.mix T.c214 ?_⟩;obtain⟨ts,RG⟩:∃ts,ts=aR 56 ([]++[.func (.yield lp) [] []]++[.ptr cm 0,.ptr cr 0]):=⟨_,rfl⟩;have hlen:ts.length=56:=by rw[RG];rfl
 have t0:slot ts 0=.func (.yield lp) [] []:=by rw[RG];rfl
 have t1:slot ts 1=.ptr cm 0:=by rw[RG];rfl
 have t2:slot ts 2=.ptr cr 0:=by rw[RG];rfl
 show WC P bL (fn214).body [] (aR 56 ([]++[.func (.yield lp) [] []]++[.ptr cm 0,.ptr cr 0])) h _;rw[<-RG,Lu];clear RG;obtain⟨RR,SJ⟩:∃RR,RR=OP:=⟨_,rfl⟩;obtain⟨RA,XL⟩:∃RA,RA=HN.DZ:=⟨_,rfl⟩;obtain⟨RB,XK⟩:∃RB,RB=HN.Dm:=⟨_,rfl⟩;rw[<-SJ,<-XL,<-XK];unfold Lv fn214 gA;simp only[ai.tl,ai.hd];have lm:=@eE _ _ _ p0.m;have lr:=@eE _ _ _ p0.r;have u0:rn .s (.map h.length) (.str m) (.bool true) (λz=>(h++[ak.bf []])[z]?)=some (az,.set h.length (.bf ([(m,true)].map dA))):=rm (M:=[]) a8;refine Rs (lQ t0 t1 t2 @lm @lr @hP @u0 @fP @CO @KK) ?_;refine WF.res T.c215 (r215 T p0.o.i3.one) ?_;rintro _ g1 ⟨rfl,hg⟩;have hg:=aaK hg
 subst hg;refine Rs (A3 t0 t1 t2) ?_;have hlV:V.an.aE.length=V.aE.length:=by simp[RV.an]
 refine WC.iter T.mix T.c259 (a:=[]) (c:=[.ptr (h++[ak.bf (List.map dA [(m,true)])]++[ak.b [AV.map h.length]]).length 0]) (Sq t0) (zZ T (s:=V.s3) (X:=V.aE) (by have:=l.l3;omega)) (λy hy=>by obtain⟨z,_,rfl⟩:=Zv.1 hy;rfl)
  (λi h' g=>∃M:List (By×Bool),h' =h++[ak.bf (M.map dA)]++[ak.b [AV.map h.length]]++[ak.b [V.s3]]/\∀w,gq M w=decide (w∈cP m (V.an.aE.reverse.take i))) (λ_ _ _=>False)
  ⟨[(m,true)],rfl,λw=>?_⟩ (λi h' g g' hI=>hI) (λi h' g X hl hI=>?_) (λi hi h' g R B RT hI=>?_) (λe h' g hl hI=>?_)
 ·show(if w=m then true else false)=decide (w∈[m]);by_cases hw:w=m<;>simp[hw]
 ·obtain⟨M,rfl,_⟩:=hI;refine⟨?_,p0.o.i3.ext Xx⟩;have e:(h++[ak.bf (List.map dA [(m,true)])]++[ak.b [AV.map h.length]]).length=(h++[ak.bf (M.map dA)]++[ak.b [AV.map h.length]]).length:=Si
  rw[e];exact yk
 ·obtain⟨M,rfl,hM⟩:=hI;have hi':i<V.aE.length:=by rw[<-ju];exact hi
  have hj:V.aE.length-1-i<V.aE.length:=Om
  rw[tI,XL];have SG:V.aE[V.aE.length-1-i]∈V.aE:=Za _;have hxr:V.an.aE.reverse[i]'(by rw[aaP];omega)=(V.aE[V.aE.length-1-i]).1:=by
   rw[List.getElem_reverse];simp only[RV.an,Z6,YY]
  have hns:=zT (m:=m) (l:=V.an.aE.reverse) (i:=i) (by rw[aaP];omega);rw[hxr]at hns;generalize V.aE[V.aE.length-1-i]=x at *;have ox:=p0.o.jw.2.1 x SG;unfold HN Lv fn214 gA;simp only[ai.tl,ai.hd,ai.tv,ai.DZ,setArgs,aV];refine Rs (A4 t0 t1 t2 @ox) ?_;refine⟨_,g++[ak.b [AV.str x.1.name,.str x.1.gives,.str x.1.line,x.2]],by rw[<-YR],RT,?_⟩;have xin:=p0.o.e3 x SG;rw[XK];refine WC.Cb (Ca T (x:=x) (mb:=h.length) (bb:=(h++[ak.bf (List.map dA [(m,true)])]).length) (xb:=(h++[ak.bf (List.map dA M)]++[ak.b [AV.map h.length]]++[ak.b [V.s3]]++[R]++g).length)
   (Hm:=λM=>h++[ak.bf (List.map dA M)]++[ak.b [AV.map h.length]]++[ak.b [V.s3]]++[B]++(g++[ak.b (aV x)]))
   (λM=>sF) (λM=>?_) (λM'=>?_) (λM K=>?_) (λM=>xin.ext Xx) (hin x SG) ?_ (Sq t0) (Sq t0) hM) ?_
  ·have eL:(h++[ak.bf (List.map dA [(m,true)])]).length=(h++[ak.bf (List.map dA M)]).length:=Si
   rw[eL];exact sG
  ·have eL:(h++[ak.bf (List.map dA M)]++[ak.b [AV.map h.length]]++[ak.b [V.s3]]++[B]++g).length=(h++[ak.bf (List.map dA M')]++[ak.b [AV.map h.length]]++[ak.b [V.s3]]++[B]++g).length:=Si
   rw[<-YR];have eR:(h++[ak.bf (List.map dA M)]++[ak.b [AV.map h.length]]++[ak.b [V.s3]]++[R]++g).length=(h++[ak.bf (List.map dA M')]++[ak.b [AV.map h.length]]++[ak.b [V.s3]]++[B]++g).length:=Si
   rw[eR];exact a8
  ·exact Bq
  ·simp only[bz,hlen]
  ·rintro e _ _ ⟨rfl,M',rfl,hM'⟩;refine⟨_,_,rfl,Si,?_⟩;rw[Zb rfl];exact⟨M',rfl,λw=>by rw[hM',hns]⟩
 ·by_cases Sm:e=.normal
  case neg=>rw[Y6 Sm]at hI;exact hI.elim
  subst Sm;rw[Zb rfl]at hI;obtain⟨M,rfl,hM⟩:=hI;have hM:∀w,gq M w=decide (w∈cP m V.an.aE.reverse):=λw=>by
   rw[hM,ZE (by rw[aaP,ju,hlV];exact Y9 _)]
  rw[SJ];obtain⟨K0,Wk⟩:∃K0,K0=h++[ak.bf (M.map dA)]++[ak.b [AV.map h.length]]++[ak.b [V.s3]]++[ak.dead]++g:=⟨_,rfl⟩;have eK:Ext h K0:=by rw[Wk];exact Xx
  have k1:K0[h.length]? =some (.bf (M.map dA)):=by rw[Wk];exact sF
  have k2:K0[(h++[ak.bf (List.map dA [(m,true)])]).length]? =some (.b [AV.map h.length]):=by
   have eL:(h++[ak.bf (List.map dA [(m,true)])]).length=(h++[ak.bf (List.map dA M)]).length:=Si
   rw[Wk,eL];exact sG
  have hJ0:J K0.length 0 K0:=by
   obtain⟨g',R6⟩:=eK;have:=h0 g'
   rwa [<-R6]at this
  have WD:(h++[ak.bf (List.map dA [(m,true)])]).length<K0.length:=by rw[Wk];simp only[YP,YV,YX];omega
  have hbb:(h++[ak.bf (List.map dA [(m,true)])]).length=h.length+1:=Si
  rw[<-Wk];generalize K0.length=mm at hJ0 WD;have lr0:∀{n o},aq n (.ptr cr o) (λz=>K0[z]?)=dE n o (.b V.row):=λ{_ _}=>aA (eK.some p0.r)
  have hlm3:=λG=>p0.o.i3.aJ G
  unfold OP fn214 gA;simp only[ai.tl];refine Rs (A6 t0 t1 t2 @lr0 @fP @hlm3) ?_;rw[hbb]at k2 WD;refine WL.inv T.mix (λn ts h'=>∃k:Nat,k<=V.aE.length/\n=V.aE.length-k/\J mm ((V.aE.take k).filter λx=>decide (x.1.name∈cP m V.an.aE.reverse)).length h'/\h'[h.length]? =some (.bf (M.map dA))/\h'[h.length+1]? =some (.b [AV.map h.length])/\
    ts.length=56/\slot ts 0=.func (.yield lp) [] []/\slot ts 4=.ptr (h.length+1) 0/\slot ts 39=V.s3/\slot ts 40=.i V.aE.length/\slot ts 41=.i k) V.aE.length
   ⟨0,Om,rfl,hJ0,k1,k2,Sn,(Sq t0),(Sq (A2 t0 @hbb)),(Sq t0),(Sq t0),gM⟩ ?_
  clear t0 t1 t2 hlen lr lm u0 lr0 hJ0 k1 k2 hlm3;clear ts;rintro _ ts h' ⟨k,hk,rfl,hJ,k1,k2,hlen,t0,t4,t39,t40,t41⟩;by_cases hlt:k<V.aE.length
  ·have p1:=hpre _ _ _ hJ;have SG:V.aE[k]∈V.aE:=Za _;have ix:=p1.o.i3.dG (kk:=.i64) hlt;have ld:aq (some 4) (cN V.s3 4 k) (λb=>h'[b]?)=some (.agg (aV V.aE[k]),.au):=p1.o.i3.jD hlt (Ext.refl _);have ox:=p1.o.jw.2.1 _ SG;have e3:=ee hlt;have e5:IntKind.i64.wrap ((k:Int)+1)=((k+1:Nat):Int):=wrapN (by have:=l.l3;omega);have l2:∀{z n o},Ext h' z->aq n (.ptr (h.length+1) o) (λb=>z[b]?)=dE n o (.b [AV.map h.length]):=λ{_ _ _} e=>aA (e.some k2)
   have lk:∀{C w},gX .s (.bool false) false (.map h.length) (.str w) (λz=>(h'++[C])[z]?)=some (.bool (gq M w),.au):=λ{C _}=>pt ((Ext.app [C] (Ext.refl h')).some k1)
   have hf:=Ad (p:=λx:iE×AV=>decide (x.1.name∈cP m V.an.aE.reverse)) hlt;have hs:=wm (p:=λx:iE×AV=>decide (x.1.name∈cP m V.an.aE.reverse)) hlt;have hMx:=hM V.aE[k].1.name;generalize V.aE[k]=x at *;unfold aV at ld;cases hb:gq M x.1.name with
   |true=>
    rw[hb]at hMx;obtain⟨U9,Ur⟩:=hf hMx.symm;refine Rs (Dk t0 t4 t39 t40 t41 ix @ld @ox e3 @l2 @bS @lk @hb) ?_;obtain⟨bb,k',q1,q2,q3⟩:=R7 mm _ (by rw[YY];exact U9) _ (happ _ _ _ [ak.b [AV.str x.1.name,.str x.1.gives,.str x.1.line,x.2]] hJ);rw[Z6]at q1;have hf2':(iV V m)[((V.aE.take k).filter λx=>decide (x.1.name∈cP m V.an.aE.reverse)).length]'U9=x:=Ur;have q1:fh P (.func (.yield lp) [] []) [AV.agg (aV x)] (h'++[ak.b [AV.str x.1.name,.str x.1.gives,.str x.1.line,x.2]]) (.bool bb) k':=by
     refine Eq.mp ?_ q1;congr 1;exact Zz (λy=>[AV.agg (aV y)]) hf2'
    unfold aV at q1;refine WF.KB q1 ?_;cases bb with
    |true=>
     refine Rs (A7 t0 t4 t39 t40 t41 @Zg e5) ?_;have hlt1:=(YQ.1 k1).1;have SR:=(YQ.1 k2).1;refine⟨_,Om,k+1,Om,rfl,?_,?_,?_,rfl⟩
     ·rw[hs,<-hMx,Zb rfl];exact q3
     ·rw[q2 _ Om Om,YT hlt1];exact k1
     ·rw[q2 _ Om Om,YT SR];exact k2
    |false=>
     refine Rs (A6 t0 t4 t39 t40 t41 @Zq) ?_;exact q3
   |false=>
    rw[hb]at hMx;refine Rs (wP t0 t4 t39 t40 t41 ix @ld @ox e3 @l2 @bS @lk @hb e5) ?_;have hlt1:=(YQ.1 k1).1;have SR:=(YQ.1 k2).1;refine⟨_,Om,k+1,Om,rfl,?_,?_,?_,rfl⟩
    ·rw[hs,<-hMx,Y6 De];exact happ _ _ _ _ hJ
    ·rw[YT hlt1];exact k1
    ·rw[YT SR];exact k2
  ·have e3:=fo hlt;have e4:k=V.aE.length:=Om
   rw[e4,ZA]at hJ;refine Rs (A6 t0 t4 t39 t40 t41 e3) ?_;refine TP mm h' ?_;rw[YY];exact hJ
end
def DD:ai:=((fn122).body.tl.tl).hd
def KR:ai:=DD.tl.tv
def NV:ai:=(fn122).body.tl.tl.tl
def KQ:(fn122).body=.seq ((fn122).body.hd) (.seq ((fn122).body.tl.hd) (.seq (.seq DD.hd (.block 0 (.fL (.t 10) [11] KR.DZ KR.Dm))) NV)):=rfl
def Hk{r N}:km 1 0 (.map r) N (.b [.db])=some (az,.set N (.b [.map r])):=rfl
def pr{V m}:(iV V m).map Prod.fst=mI V.an m:=by
 rw[iV,mI];show _=List.filter _ (List.map Prod.fst V.aE);rw[aaM];rfl
section
variable {P:Program}(T:fp P) {h:ah}
include T
def r217{x b c M}(hb:h[b]? =some (.b [.map c]))(hc:h[c]? =some (.bf (M.map dA))):ay P 217 [.agg (bV x),.ptr b 0] h (λv _=>v=.bool (gq M x.name)):=by
 refine .eP 8 T.mix T.c217 ?_;intro ts hlen t0 t1;unfold fn217 gA;have lb:∀{k:ah}{n':Option Nat}{a:Nat},Ext h k->aq n' (.ptr b a) (λz=>k[z]?)=dE n' a (.b [.map c]):=λe=>aA (e.some hb)
 have lk:∀{C w},gX .s (.bool false) false (.map c) (.str w) (λz=>(h++[C])[z]?)=some (.bool (gq M w),.au):=λ{C _}=>pt ((Ext.app [C] (Ext.refl h)).some hc)
 unfold bV at t0;exact Rs (A5 t0 t1 @lb @bS @lk) Tv
def r122{V}(o:aC h V)(l:eD V)(hin:∀x∈V.aE,x.1.bA.length<2^30)(m:By):ay P 122 [.agg V.row,.str m] h (λv h'=>aH h' v 3 ((jd V.an m).map bV)):=by
 refine .of T.mix T.c122 ?_;obtain⟨ts,RG⟩:∃ts,ts=aR 19 [.agg V.row,.str m]:=⟨_,rfl⟩;have hlen:ts.length=19:=by rw[RG];rfl
 have t0:slot ts 0=.agg V.row:=by rw[RG];rfl
 have t1:slot ts 1=.str m:=by rw[RG];rfl
 show WC P bL (fn122).body [] (aR 19 [.agg V.row,.str m]) h _;rw[<-RG,KQ];clear RG;obtain⟨RR,SJ⟩:∃RR,RR=NV:=⟨_,rfl⟩;obtain⟨RA,XL⟩:∃RA,RA=KR.DZ:=⟨_,rfl⟩;obtain⟨RB,XK⟩:∃RB,RB=KR.Dm:=⟨_,rfl⟩;rw[<-SJ,<-XL,<-XK];unfold DD fn122 gA;simp only[ai.tl,ai.hd];have RF:=@aC.box _ _ o;refine Rs (A6 t0 t1 @RF @CO @Hk @aF) ?_;obtain⟨H0,VS⟩:∃H0,H0=h++[ak.b V.row]:=⟨_,rfl⟩;have e0:Ext h H0:=by rw[VS];exact Xx
 rw[<-VS];refine WF.res T.c119 (r119 T (o.ext (e0.trans Xx)) m) ?_;rintro _ g1 ⟨rfl,hp⟩;refine Rs (A2 t0 t1) ?_;obtain⟨cm,Wh⟩:∃cm,cm=(H0++[ak.bf []]++[ak.b [AV.map H0.length]]).length:=⟨_,rfl⟩;rw[<-Wh]at hp ⊢;have pmap:∀(M:List (By×Bool)) (Z:ah),qh V m (cm+1) cm (H0++[ak.bf (M.map dA)]++[ak.b [AV.map H0.length]]++g1++Z):=by
  intro M Z;have hne:∀b,b≠H0.length->(H0++[ak.bf (M.map dA)]++[ak.b [AV.map H0.length]]++g1)[b]? =(H0++[ak.bf []]++[ak.b [AV.map H0.length]]++g1)[b]? :=λb hb=>by
   have:=qy (A:=H0) (B:=[ak.b [AV.map H0.length]]++g1) (K:=ak.bf (M.map dA)) (K':=ak.bf []) (b:=b) hb
   simpa only[YR]using this
  have hcl:cm=H0.length+2:=by rw[Wh];simp
  refine qh.ext ⟨(hne _ Om).trans hp.m,(hne _ Om).trans hp.r,(o.ext e0).ext Xx⟩ (Ext.app Z (Ext.refl _))
 refine WC.iterM T.mix T.c214 (a:=[]) (c:=[.ptr (cm+1) 0,.ptr cm 0]) (Sq t0) (rA T l hin m (cm+1) cm) (λy hy=>by obtain⟨z,_,rfl⟩:=Zv.1 hy;rfl)
  (λmm i h' g=>∃M:List (By×Bool),h' =H0++[ak.bf (M.map dA)]++[ak.b [AV.map H0.length]]++g1/\mm<=h'.length+1+g.length/\∀w,gq M w=decide (w∈((iV V m).take i).map λx=>x.1.line)) (λ_ _ _=>False)
  (λg=>⟨[],rfl,Y9 _,λw=>rfl⟩) (λmm i h' g g' hI=>by obtain⟨M,a1,a2,a3⟩:=hI;exact⟨M,a1,by rw[YP];omega,a3⟩) (λX=>pmap [] [X]) (λmm i h' g X hl hI=>?_) (λmm i hi h' g R B RT hI=>?_) (λe h' g hl hI=>?_)
 ·obtain⟨M,rfl,_⟩:=hI;rw[YR (H0++[ak.bf (M.map dA)]++[ak.b [AV.map H0.length]]++g1)];exact pmap M _
 ·obtain⟨M,rfl,WD,hM⟩:=hI;have hi':i<(iV V m).length:=by simpa using hi
  rw[Z6,XL,XK];have SG:(iV V m)[i]∈V.aE:=(aaa.1 (Za hi')).1;have R4:((iV V m).take (i+1)).map (λx=>x.1.line)=((iV V m).take i).map (λx=>x.1.line)++[(iV V m)[i].1.line]:=by
   rw[ZF,YU hi',Y5];rfl
  generalize (iV V m)[i]=x at *;have ox:=o.jw.2.1 x SG;have eL:∀K:List (By×Bool),(H0++[ak.bf (K.map dA)]).length=(H0++[ak.bf []]).length:=λK=>by simp
  have u0:∀{Z Y:ah},rn .s (.map H0.length) (.str x.1.line) (.bool true) (λz=>(H0++[ak.bf (M.map dA)]++[ak.b [AV.map H0.length]]++g1++[B]++Z++Y)[z]?)=some (az,.set H0.length (.bf ((rN M x.1.line true).map dA))):=λ{Z Y}=>rm C0
  have lb:∀{Z Y:ah}{n a},aq n (.ptr (H0++[ak.bf []]).length a) (λz=>(H0++[ak.bf (M.map dA)]++[ak.b [AV.map H0.length]]++g1++[B]++Z++Y)[z]?)=dE n a (.b [.map H0.length]):=λ{Z Y _ _}=>by
   rw[<-eL M];exact aA sF
  have lx:∀{n a},aq n (.ptr (H0++[ak.bf (M.map dA)]++[ak.b [AV.map H0.length]]++g1++[R]++g).length a) (λz=>(H0++[ak.bf (M.map dA)]++[ak.b [AV.map H0.length]]++g1++[B]++g++[ak.b [AV.str x.1.name,.str x.1.gives,.str x.1.line,x.2]])[z]?)=dE n a (.b [AV.str x.1.name,.str x.1.gives,.str x.1.line,x.2]):=λ{_ _}=>by
   have:(H0++[ak.bf (M.map dA)]++[ak.b [AV.map H0.length]]++g1++[R]++g).length=(H0++[ak.bf (M.map dA)]++[ak.b [AV.map H0.length]]++g1++[B]++g).length:=Si
   rw[this];exact aA a8
  unfold KR DD fn122 gA;simp only[ai.tl,ai.hd,ai.tv,ai.DZ,ai.Dm,setArgs,aV];refine Rs (A3 t0 t1 @ox) ?_;refine⟨_,g++[ak.b [AV.str x.1.name,.str x.1.gives,.str x.1.line,x.2]],by rw[<-YR],RT,?_⟩;rw[<-YR];refine Rs (A7 t0 t1 @ox @lb @lx @hP @u0) ?_;refine⟨_,g++[ak.b [AV.str x.1.name,.str x.1.gives,.str x.1.line,x.2]],by rw[<-YR],Si,λy hy=>YT ?_,_,rfl,?_,λw=>?_⟩
  ·simp only[YP,YV,YX]at hy WD;omega
  ·simp only[YP,YV,YX]at WD ⊢;omega
  ·rw[rP,R4];by_cases hw:w=x.1.line
   ·rw[Zb hw];simp[hw]
   ·rw[Y6 hw,hM];simp[hw]
 ·by_cases Sm:e=.normal
  case neg=>rw[Y6 Sm]at hI;exact hI.elim
  subst Sm;rw[Zb rfl]at hI;obtain⟨mm,M,rfl,_,hM⟩:=hI;rw[YY,ZA]at hM;rw[SJ];have eL:(H0++[ak.bf (M.map dA)]).length=(H0++[ak.bf []]).length:=Si
  obtain⟨K0,Wk⟩:∃K0,K0=H0++[ak.bf (M.map dA)]++[ak.b [AV.map H0.length]]++g1++[ak.dead]++g:=⟨_,rfl⟩;have eK:Ext H0 K0:=by rw[Wk];exact Xx
  have k1:K0[H0.length]? =some (.bf (M.map dA)):=by rw[Wk];exact sF
  have k2:K0[(H0++[ak.bf []]).length]? =some (.b [AV.map H0.length]):=by
   rw[Wk,<-eL];exact sG
  rw[<-Wk];have lr:∀{k n a},Ext K0 k->aq n (.ptr h.length a) (λz=>k[z]?)=dE n a (.b V.row):=λ{_ _ _} e=>aA ((eK.trans e).some (by rw[VS];exact a8))
  unfold NV fn122 gA;simp only[ai.tl];refine Rs (A4 t0 t1 @lr @fI) ?_;refine WF.res T.c216 (r216 T (o.i0.ext (e0.trans (eK.trans Xx))) (by have:=l.l0;omega) (λx=>gq M x.name) (λx hx k e=>bF.of (a:=[]) (c:=[.ptr (H0++[ak.bf []]).length 0]) T.c217 (r217 T (e.some k2) (e.some k1)))) ?_;rintro s1 g2 hf;have eh:=e0.trans eK;have es:V.lines.filter (λx=>gq M x.name)=jd V.an m:=by
   refine List.filter_congr λx _=>?_
   rw[hM,<-pr,aaA];rfl
  rw[es]at hf;have:=hf.ba;refine Rs (A2 t0 t1) ?_;exact⟨Ext.app _ eh,this⟩
end
def fQ(x:Nat×Bool):List AV:=[.i (x.1:Int),.bool x.2]
def j7:Kd->AV
 |.eF=>.nilFunc
 |.line=>.func (.func 148) [] []
 |.tape=>.func (.func 151) [] []
 |.gx=>.func (.func 155) [] []
 |.copy=>.func (.func 157) [] []
 |.accept=>.func (.func 159) [] []
 |.source=>.func (.func 161) [] []
 |.fW=>.func (.func 163) [] []
 |.merge=>.func (.func 165) [] []
 |.run=>.func (.func 167) [] []
 |.fV=>.func (.func 169) [] []
 |.fail=>.func (.func 171) [] []
 |.gy=>.func (.func 173) [] []
 |.rel=>.func (.func 175) [] []
def pv:Kd->AV
 |.eF=>.nilFunc
 |.line=>.func (.func 149) [] []
 |.tape=>.func (.func 152) [] []
 |.gx=>.func (.func 156) [] []
 |.copy=>.func (.func 158) [] []
 |.accept=>.func (.func 160) [] []
 |.source=>.func (.func 162) [] []
 |.fW=>.func (.func 164) [] []
 |.merge=>.func (.func 166) [] []
 |.run=>.func (.func 168) [] []
 |.fV=>.func (.func 170) [] []
 |.fail=>.func (.func 172) [] []
 |.gy=>.func (.func 174) [] []
 |.rel=>.func (.func 176) [] []
def Es:Kd->Option Nat
 |.eF=>none
 |.line=>some 0
 |.tape=>some 3
 |.gx=>some 1
 |.copy=>some 3
 |.accept=>some 0
 |.source=>some 1
 |.fW=>none
 |.merge=>none
 |.run=>none
 |.fV=>none
 |.fail=>none
 |.gy=>none
 |.rel=>none
def yt(h:ah)(d:Kd)(v:AV):Prop:=
 match Es d with
 |none=>v=.nilFunc
 |some 3=>v=.func (.func 153) [] []
 |some i=>∃b,v=.func (.func 240) [] [.ptr b 0]/\h[b]? =some (.b [.i (i:Int)])
structure AO(h:ah)(d:Kd)(v:AV):Prop where
 ex:∃rs a,v=.agg [rs,.i (cC d:Int),j7 d,pv d,a]/\aH h rs 2 ((bK d).map fQ)/\a.one=true/\yt h d a
def O3(vf:Kd->AV):List (AV×AV):=Gn.map λd=>(.str (bh d),vf d)
structure uK(h:ah)(r:Nat)(vf:Kd->AV):Prop where
 m:h[r]? =some (.bf (O3 vf))
 k:∀d,AO h d (vf d)
theorem y5{vf:Kd->AV}{k:By}:∀{L:List Kd},gY .s (.str k) (L.map λd=>(AV.str (bh d),vf d))=some ((L.find? λd=>bh d==k).map vf)
 |[]=>rfl
 |d::L=>by
  rw[ZP,List.find?_cons];by_cases hk:k=bh d
  ·subst hk;simp only[gY,cV,BEq.rfl,aaO]
  ·have h1:(k==bh d)=false:=by simp[hk]
   have h2:(bh d==k)=false:=by simp[aam hk]
   simp only[gY,cV,h1,h2];exact y5
def uK.look{h:ah}{r:Nat}{vf:Kd->AV}(o:uK h r vf){z:AV}{ok:Bool}{k:By}:gX .s z ok (.map r) (.str k) (λb=>h[b]?)=lH z ok ((gT k).map vf):=nY o.m y5
def GS(h g:ah)(s:AV)(rs:List (Nat×Bool)):Prop:=∀X,aH (h++[X]++g) s 2 (rs.map fQ)
theorem GS.app{h g s rs}(o:GS h g s rs)(g':ah):GS h (g++g') s rs:=λX=>by rw[<-YR];exact(o X).app g'
def RD(h g:ah)(b:Nat)(i:Int):Prop:=∀X,(h++[X]++g)[b]? =some (ak.b [.i i])
theorem yt.app{h d v}(o:yt h d v)(g:ah):yt (h++g) d v:=by
 unfold yt at *;split at o
 ·exact o
 ·exact o
 ·obtain⟨b,h1,h2⟩:=o;exact⟨b,h1,(Ext.app g (Ext.refl _)).some h2⟩
theorem AO.app{h d v}(o:AO h d v)(g:ah):AO (h++g) d v:=by
 obtain⟨rs,a,e,hs,ha,hb⟩:=o.ex;exact⟨rs,a,e,hs.app g,ha,hb.app g⟩
def lI(ds:List Kd)(vf:Kd->AV):List (AV×AV):=ds.map λd=>(.str (bh d),vf d)
def Er(vf:Kd->AV)(d:Kd)(v:AV):Kd->AV:=λx=>if x=d then v else vf x
def AR(a:Nat)(F:List (Nat×AV)):Bool:=decide (a<56)&&decide (a≠1)&&F.all λp=>decide (p.1≠a)
structure rX(h:ah)(ts:TS)(g:ah)(ds:List Kd)(vf:Kd->AV)(F:List (Nat×AV)):Prop where
 l:ts.length=56
 m:slot ts 1=.map h.length
 f:∀p∈F,slot ts p.1=p.2
 e:∀d∈ds,∀X,AO (h++[X]++g) d (vf d)
def rX.put{h ts g ds vf F}(s:rX h ts g ds vf F){a v}(g':ah)(hc:AR a F=true):rX h (ts.set a v) (g++g') ds vf ((a,v)::F):=by
 simp only[AR,Zx,ZJ,Zy]at hc;have hl:a+1<=ts.length:=by rw[s.l];omega
 refine⟨by simp only[bz,s.l],by simp only[bz,aar hc.1.2,s.m],λp hp=>?_,λd hd X=>?_⟩
 ·rcases ZC.1 hp with rfl|hp
  ·simp only[bz,hl]
  ·simp only[bz,aar (λe=>hc.2 p hp (Eq.symm e)),s.f p hp]
 ·rw[<-YR];exact(s.e d hd X).app g'
theorem Bc{vf k v}:∀{ds},ds.all (λx=>!(bh x==k))=true->mC .s (.str k) v (lI ds vf)=some (lI ds vf++[(.str k,v)])
 |[],_=>rfl
 |d::ds,hd=>by
  rw[aau,Zx]at hd;have h2:(bh d==k)=false:=by simpa using hd.1
  have h3:¬bh d=k:=by simpa using hd.1
  have h1:(k==bh d)=false:=by simp[aam h3]
  have:=Bc (vf:=vf) (v:=v) hd.2;unfold lI at *;simp only[ZP,mC,cV,h1,h2,this,aaO,Z5]
def iR:AV.one .nilFunc=true:=rfl
section
variable {P:Program}(T:fp P) {h:ah}
include T
def r147(t:Int):ay P 147 [.i t] h (λv _=>v=.agg [.i t,.bool false]):=by
 refine .of T.mix T.c147 ?_;unfold fn147 gA;exact Wn Tv
def r154(t:Int):ay P 154 [.i t] h (λv _=>v=.agg [.i t,.bool true]):=by
 refine .of T.mix T.c154 ?_;unfold fn154 gA;exact Wn Tv
def r150(i:Int):ay P 150 [.i i] h (λv h'=>v=.func (.func 240) [] [.ptr h.length 0]/\h' =h++[.b [.i i]]):=by
 refine .of T.mix T.c150 ?_;unfold fn150 gA;exact Wn Tv
section
variable {ks:List Kt}{ts:TS}{Q:Ex->TS->ah->Prop}{g:ah}{ds:List Kd}{vf:Kd->AV}{F:List (Nat×AV)}{a:Nat}{l:List bI}
def jK{t}(s:rX h ts g ds vf F)(hc:AR a F=true)(K:∀ts' g',rX h ts' (g++g') ds vf ((a,.agg [.i t,.bool false])::F)->WP P bL l ks ts' (h++[.bf (lI ds vf)]++(g++g')) Q):
  WP P bL (.c a 147 [.c (.i t)]::l) ks ts (h++[.bf (lI ds vf)]++g) Q:=by
 refine Wn ?_;refine WF.ce T.c147 (r147 T t) λg1=>?_
 exact J7
def jJ{t}(s:rX h ts g ds vf F)(hc:AR a F=true)(K:∀ts' g',rX h ts' (g++g') ds vf ((a,.agg [.i t,.bool true])::F)->WP P bL l ks ts' (h++[.bf (lI ds vf)]++(g++g')) Q):
  WP P bL (.c a 154 [.c (.i t)]::l) ks ts (h++[.bf (lI ds vf)]++g) Q:=by
 refine Wn ?_;refine WF.ce T.c154 (r154 T t) λg1=>?_
 exact J7
def Et{t}(s:rX h ts g ds vf F)(hc:AR a F=true)(K:∀ts' g' b,rX h ts' (g++g') ds vf ((a,.func (.func 240) [] [.ptr b 0])::F)->RD h (g++g') b t->WP P bL l ks ts' (h++[.bf (lI ds vf)]++(g++g')) Q):
  WP P bL (.c a 150 [.c (.i t)]::l) ks ts (h++[.bf (lI ds vf)]++g) Q:=by
 refine Wn ?_;refine WF.res T.c150 (r150 T t) ?_;rintro _ g1 ⟨rfl,hg⟩;have hg:=aaK hg;subst hg;rw[YR (h++[ak.bf (lI ds vf)]) g];refine K _ _ _ (s.put _ hc) λX=>?_
 have e:(h++[ak.bf (lI ds vf)]++g).length=(h++[X]++g).length:=Si
 rw[e,<-YR];exact a8
theorem Cl{N}(s:rX h ts g ds vf F)(hc:AR a []=true){n xs}(hN:N=(h++[ak.bf (lI ds vf)]++g).length)(hn:xs.length=n)(K:∀ts' g' s,rX h ts' (g++g') ds vf [(a,s)]->GS h (g++g') s xs->WP P bL l ks ts' (h++[.bf (lI ds vf)]++(g++g')) Q):
  WP P bL l ks (ts.set a (.slice N 0 n 2)) (h++[.bf (lI ds vf)]++g++[.cells (xs.map fQ).flatten true true]) Q:=by
 subst hN;subst hn;rw[YR (h++[ak.bf (lI ds vf)]) g];have s0:rX h ts g ds vf []:=⟨s.l,s.m,λ_ hp=>(by cases hp),s.e⟩;refine K _ _ _ (s0.put _ hc) λX=>?_
 have e:(h++[ak.bf (lI ds vf)]++g).length=(h++[X]++g).length:=Si
 rw[e,<-YR];have:=(Fr.push (N:=0) (h:=h++[X]++g) (Zw _) (xs.map fQ) (es:=2) (by intro c hc;obtain⟨x,_,rfl⟩:=Zv.1 hc;rfl)).ba
 rwa [YY]at this
def tu{a0 x0}(s:rX h ts g ds vf [(a0,.agg (fQ x0))])(hc:AR a []=true)(K:∀ts' g' s,rX h ts' (g++g') ds vf [(a,s)]->GS h (g++g') s [x0]->WP P bL l ks ts' (h++[.bf (lI ds vf)]++(g++g')) Q):
  WP P bL (.o a (.bd 2 1 [.i 0,.bool false] [(0,.t a0)])::l) ks ts (h++[.bf (lI ds vf)]++g) Q:=by
 have s0:slot ts a0=.agg [.i (x0.1:Int),.bool x0.2]:=s.f (a0,.agg (fQ x0)) Si;refine Ws @s0 ?_;exact Cl T s hc rfl rfl K
def vP{a0 a1 x0 x1}(s:rX h ts g ds vf [(a1,.agg (fQ x1)),(a0,.agg (fQ x0))])(hc:AR a []=true)(K:∀ts' g' s,rX h ts' (g++g') ds vf [(a,s)]->GS h (g++g') s [x0,x1]->WP P bL l ks ts' (h++[.bf (lI ds vf)]++(g++g')) Q):
  WP P bL (.o a (.bd 2 2 [.i 0,.bool false] [(0,.t a0),(2,.t a1)])::l) ks ts (h++[.bf (lI ds vf)]++g) Q:=by
 have s0:slot ts a0=.agg [.i (x0.1:Int),.bool x0.2]:=s.f (a0,.agg (fQ x0)) Si;have s1:slot ts a1=.agg [.i (x1.1:Int),.bool x1.2]:=s.f (a1,.agg (fQ x1)) Si;refine Ws (A2 @s0 @s1) ?_;exact Cl T s hc rfl rfl K
def Gq{a0 a1 a2 x0 x1 x2}(s:rX h ts g ds vf [(a2,.agg (fQ x2)),(a1,.agg (fQ x1)),(a0,.agg (fQ x0))])(hc:AR a []=true)(K:∀ts' g' s,rX h ts' (g++g') ds vf [(a,s)]->GS h (g++g') s [x0,x1,x2]->WP P bL l ks ts' (h++[.bf (lI ds vf)]++(g++g')) Q):
  WP P bL (.o a (.bd 2 3 [.i 0,.bool false] [(0,.t a0),(2,.t a1),(4,.t a2)])::l) ks ts (h++[.bf (lI ds vf)]++g) Q:=by
 have s0:slot ts a0=.agg [.i (x0.1:Int),.bool x0.2]:=s.f (a0,.agg (fQ x0)) Si;have s1:slot ts a1=.agg [.i (x1.1:Int),.bool x1.2]:=s.f (a1,.agg (fQ x1)) Si;have s2:slot ts a2=.agg [.i (x2.1:Int),.bool x2.2]:=s.f (a2,.agg (fQ x2)) Si;refine Ws (A3 @s0 @s1 @s2) ?_;exact Cl T s hc rfl rfl K
theorem LU{v}:WP P bL [.o a (.cA (.c v))] ks ts h Q=WE P bL .normal ks (ts.set a v) h Q:=by
 unfold bI.o;rw[Dg,Dd,yy,pQ]
theorem LV:WP P bL (.o a .mJ::l) ks ts h Q=WP P bL l ks (ts.set a (.map h.length)) (h++[.bf []]) Q:=wK
theorem Gp{z ps v}(d:Kd)(s:rX h ts g ds vf F)(hc:AR a []=true)(hd:ds.all (λx=>!(bh x==bh d))=true)
  (hv:rM (eI z (ps.map λp=>(p.1,p.2.1,val ts p.2.2)))=some v) (ok:∀X,AO (h++[X]++g) d v)
  (K:∀ts',rX h ts' g (ds++[d]) (Er vf d v) []->WP P bL l ks ts' (h++[.bf (lI (ds++[d]) (Er vf d v))]++g) Q):
  WP P bL (.o a (.build z ps):: .x (.fE .s (.t 1) (.c (.str (bh d))) (.t a))::l) ks ts (h++[.bf (lI ds vf)]++g) Q:=by
 have e1:rn .s (.map h.length) (.str (bh d)) v (λb=>(h++[ak.bf (lI ds vf)]++g)[b]?)=some (az,.set h.length (.bf (lI ds vf++[(.str (bh d),v)]))):=qt uw (Bc hd);have hn:∀x∈ds,x≠d:=λx hx e=>by
  have:=Zy.1 hd x hx;rw[e]at this;simp at this
 have eL:lI ds vf++[(.str (bh d),v)]=lI (ds++[d]) (Er vf d v):=by
  unfold lI;rw[Y5,List.map_singleton,Er,Zb rfl];exact Zz (· ++_) (List.map_congr_left λx hx=>by rw[Er,Y6 (hn x hx)])
 unfold bI.o bI.x;rw[rS,hv,uC,uH];simp only[AR,Zx,ZJ]at hc;have hl:a+1<=ts.length:=by rw[s.l];omega
 have e2:val (put ts (some a) v) (.t 1)=.map h.length:=by
  simp only[pQ,uS,bz,aar hc.1.2,s.m]
 have e3:val (put ts (some a) v) (.t a)=v:=by simp only[pQ,uS,bz,hl]
 rw[hP,e2,e3,yy,e1,rR,BY,pQ];have e4:(h++[ak.bf (lI ds vf)]++g).set h.length (.bf (lI ds vf++[(.str (bh d),v)]))=h++[.bf (lI ds vf++[(.str (bh d),v)])]++g:=yJ;rw[e4,eL];refine K _ ⟨by simp only[bz,s.l],by simp only[bz,aar hc.1.2,s.m],λ_ hp=>(by cases hp),λx hx X=>?_⟩;rcases YZ.1 hx with hx|hx
 ·rw[Er,Y6 (hn x hx)];exact s.e x hx X
 ·rw[Zm.1 hx,Er,Zb rfl];exact ok X
def pz{i f2 f3 n x4 r a4}(d:Kd)(s:rX h ts g ds vf F)(hc:AR a []=true)(hd:ds.all (λx=>!(bh x==bh d))=true)(hi:(i,r)∈F)(hb:GS h g r (bK d))(h4:val ts x4=a4)(o4:a4.one=true)(b4:∀X,yt (h++[X]++g) d a4)
  (hn:(cC d:Int)=n) (h2:j7 d=.func (.func f2) [] []) (h3:pv d=.func (.func f3) [] [])
  (K:∀ts',rX h ts' g (ds++[d]) (Er vf d (.agg [r,.i n,j7 d,pv d,a4])) []->WP P bL l ks ts' (h++[.bf (lI (ds++[d]) (Er vf d (.agg [r,.i n,j7 d,pv d,a4])))]++g) Q):
  WP P bL (.o a (.build [.af,.i 0,.nilFunc,.nilFunc,.nilFunc] [(0,1,.t i),(1,1,.c (.i n)),(2,1,.f f2),(3,1,.f f3),(4,1,x4)]):: .x (.fE .s (.t 1) (.c (.str (bh d))) (.t a))::l) ks ts (h++[.bf (lI ds vf)]++g) Q:=by
 have s0:slot ts i=r:=s.f (i,r) hi;have o0:r.one=true:=(hb (.bf [])).one;refine Gp T d s hc hd ?_ (λX=>⟨r,a4,by rw[hn],hb X,o4,b4 X⟩) K;exact Ws (A6 @s0 @h4 @o0 @o4 @h2 @h3) Tv
end
def r90:ay P 90 [] h (λv h'=>∃vf,v=.map h.length/\uK h' h.length vf):=by
 refine .Rh 56 T.mix T.c90 ?_;intro ts hlen;unfold fn90;have m0:slot ((ts.set 0 AV.db).set 1 (.map h.length)) 1=.map h.length:=by simp only[bz,hlen,reduceAdd,reduceLeDiff]
 have l0:((ts.set 0 AV.db).set 1 (.map h.length)).length=56:=by simp only[bz,hlen]
 dsimp only[ai.j,ai.s,ai.r];rw[rT,rV,LU T,qE,rT,rV,LV T];rw[<-Zr (h++[ak.bf []])];generalize (ts.set 0 AV.db).set 1 (.map h.length)=ts at *;clear hlen;have s:rX h ts [] [] (λ_=>az) []:=⟨l0,m0,λ_ hp=>(by cases hp),λ_ hd=>(by cases hd)⟩;clear l0 m0;refine Gp T .eF s rfl rfl (v:=.agg [.af,.i 0,.nilFunc,.nilFunc,.nilFunc]) rfl (λX=>⟨_,_,rfl,.nil,rfl,rfl⟩) ?_;intro ts s;refine jK T (t:=0) s rfl ?_;intro ts g s;refine tu T (x0:=(0,false)) s rfl ?_;intro ts g r s b;refine Et T (t:=0) s rfl ?_;intro ts g p s c;refine pz T .line s rfl rfl (by simp only[ZC,true_or,or_true]) (b.app g) (s.f (_,_) (ZS ..)) rfl (λX=>⟨p,rfl,c X⟩) rfl rfl rfl ?_
 intro ts s;refine jK T (t:=1) s rfl ?_;intro ts g s;refine tu T (x0:=(1,false)) s rfl ?_;intro ts g r s b;refine pz T .tape s rfl rfl (ZS ..) b rfl rfl (λ_=>rfl) rfl rfl rfl ?_;intro ts s;refine jK T (t:=2) s rfl ?_;intro ts g s;refine jJ T (t:=0) s rfl ?_;intro ts g s;refine jJ T (t:=1) s rfl ?_;intro ts g s;refine Gq T (x0:=(2,false)) (x1:=(0,true)) (x2:=(1,true)) s rfl ?_;intro ts g r s b;refine Et T (t:=1) s rfl ?_;intro ts g p s c;refine pz T .gx s rfl rfl (by simp only[ZC,true_or,or_true]) (b.app g) (s.f (_,_) (ZS ..)) rfl (λX=>⟨p,rfl,c X⟩) rfl rfl rfl ?_;intro ts s;refine jJ T (t:=1) s rfl ?_
 intro ts g s;refine jJ T (t:=1) s rfl ?_;intro ts g s;refine vP T (x0:=(1,true)) (x1:=(1,true)) s rfl ?_;intro ts g r s b;refine pz T .copy s rfl rfl (ZS ..) b rfl rfl (λ_=>rfl) rfl rfl rfl ?_;intro ts s;refine jJ T (t:=0) s rfl ?_;intro ts g s;refine tu T (x0:=(0,true)) s rfl ?_;intro ts g r s b;refine Et T (t:=0) s rfl ?_;intro ts g p s c;refine pz T .accept s rfl rfl (by simp only[ZC,true_or,or_true]) (b.app g) (s.f (_,_) (ZS ..)) rfl (λX=>⟨p,rfl,c X⟩) rfl rfl rfl ?_;intro ts s;refine jK T (t:=3) s rfl ?_;intro ts g s;refine jJ T (t:=0) s rfl ?_;intro ts g s;refine vP T (x0:=(3,false)) (x1:=(0,true)) s rfl ?_
 intro ts g r s b;refine Et T (t:=1) s rfl ?_;intro ts g p s c;refine pz T .source s rfl rfl (by simp only[ZC,true_or,or_true]) (b.app g) (s.f (_,_) (ZS ..)) rfl (λX=>⟨p,rfl,c X⟩) rfl rfl rfl ?_;intro ts s;refine jK T (t:=3) s rfl ?_;intro ts g s;refine jJ T (t:=3) s rfl ?_;intro ts g s;refine vP T (x0:=(3,false)) (x1:=(3,true)) s rfl ?_;intro ts g r s b;refine pz T .fW s rfl rfl (ZS ..) b rfl rfl (λ_=>rfl) rfl rfl rfl ?_;intro ts s;refine jK T (t:=3) s rfl ?_;intro ts g s;refine jJ T (t:=3) s rfl ?_;intro ts g s;refine jJ T (t:=3) s rfl ?_;intro ts g s;refine Gq T (x0:=(3,false)) (x1:=(3,true)) (x2:=(3,true)) s rfl ?_
 intro ts g r s b;refine pz T .merge s rfl rfl (ZS ..) b rfl rfl (λ_=>rfl) rfl rfl rfl ?_;intro ts s;refine jK T (t:=4) s rfl ?_;intro ts g s;refine jJ T (t:=3) s rfl ?_;intro ts g s;refine vP T (x0:=(4,false)) (x1:=(3,true)) s rfl ?_;intro ts g r s b;refine pz T .run s rfl rfl (ZS ..) b rfl rfl (λ_=>rfl) rfl rfl rfl ?_;intro ts s;refine jJ T (t:=4) s rfl ?_;intro ts g s;refine tu T (x0:=(4,true)) s rfl ?_;intro ts g r s b;refine pz T .fV s rfl rfl (ZS ..) b rfl rfl (λ_=>rfl) rfl rfl rfl ?_;intro ts s;refine jJ T (t:=4) s rfl ?_;intro ts g s;refine tu T (x0:=(4,true)) s rfl ?_;intro ts g r s b
 refine pz T .fail s rfl rfl (ZS ..) b rfl rfl (λ_=>rfl) rfl rfl rfl ?_;intro ts s;refine jK T (t:=5) s rfl ?_;intro ts g s;refine jJ T (t:=4) s rfl ?_;intro ts g s;refine vP T (x0:=(5,false)) (x1:=(4,true)) s rfl ?_;intro ts g r s b;refine pz T .gy s rfl rfl (ZS ..) b rfl rfl (λ_=>rfl) rfl rfl rfl ?_;intro ts s;refine jJ T (t:=5) s rfl ?_;intro ts g s;refine tu T (x0:=(5,true)) s rfl ?_;intro ts g r s b;refine pz T .rel s rfl rfl (ZS ..) b rfl rfl (λ_=>rfl) rfl rfl rfl ?_;intro ts s;have hlen:=s.l;have t1:=s.m;refine Rs t1 ?_;exact⟨_,uw,λd=>s.e d (by cases d<;>decide) _⟩
end
end Go.Abs
