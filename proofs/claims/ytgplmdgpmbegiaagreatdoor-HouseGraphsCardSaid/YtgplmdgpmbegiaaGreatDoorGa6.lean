/- A part of the proof that HouseGraphs holds. No condition. -/
import Derived.Test.YtgplmdgpmbegiaaGreatDoorGa4
import Derived.Test.YtgplmdgpmbegiaaGreatDoorGa0
set_option maxHeartbeats 4000000
set_option linter.all false
open Nat (reduceAdd reduceMul reduceLeDiff reduceEqDiff)
namespace Go.Abs
def eo:
  (∀{b o:Nat}{n:Option Nat}{X:ah}{K:ak}(_:b=X.length),ar n (.ptr b o) (λz=>(X++[K])[z]?)=dJ n o K)/\
  (∀{b o:Nat}{n:Option Nat}{X a:ah}(_:b<X.length),ar n (.ptr b o) (λz=>(X++a)[z]?)=ar n (.ptr b o) (λz=>X[z]?))/\
  (∀{b o y:Nat}{v:AV}{X:ah}{K:ak}(_:b=X.length),aW y (.ptr b o) v (λz=>(X++[K])[z]?)=kg y o v b K)/\
  (∀{b o y:Nat}{v:AV}{X a:ah}(_:b<X.length),aW y (.ptr b o) v (λz=>(X++a)[z]?)=aW y (.ptr b o) v (λz=>X[z]?))/\
  (∀{b:Nat}{X:ah}{K K':ak}(_:b=X.length),(X++[K]).set b K' =X++[K'])/\
  (∀{b:Nat}{X a:ah}{K':ak}(_:b<X.length),(X++a).set b K' =X.set b K'++a)/\
  (∀{b pos:Nat}{s:By}{X:ah}(_:b=X.length),fD (.ptr b 0) (λz=>(X++[.iter s pos])[z]?)=dZ b s pos)/\
  (∀{b:Nat}{X a:ah}(_:b<X.length),fD (.ptr b 0) (λz=>(X++a)[z]?)=fD (.ptr b 0) (λz=>X[z]?)):=by
 refine⟨λh=>?_,λh=>?_,λh=>?_,λh=>?_,λh=>?_,λh=>?_,λh=>?_,λh=>?_⟩
 ·subst h;exact aA bh
 ·simp only[ar,db _ h]
 ·subst h;exact aL bh
 ·simp only[aW,db _ h]
 ·subst h;exact yB
 ·exact eP _ _ h
 ·subst h;exact dL bh
 ·simp only[fD,db _ h]
end Go.Abs
namespace Go.Abs
def nf{h':ah}{X:ak}{g:ah}{n:Nat}(hn:h'.length=n):(h'++[X]++g)[n]? =some X:=by
 subst hn;exact z148
def ru{h':ah}{X Y:ak}{g:ah}{n:Nat}(hn:h'.length=n):(h'++[X]++g).set n Y=h'++[Y]++g:=by
 subst hn;rw[XV,YP _ _ (X8 _),YY,XV];rfl
structure Iter(P:Program)(f:FuncId)(a c:List AV)(L:List (List AV))(pre:ah->Prop):Prop where
 run:∀(l:Nat) (h:ah) (J:Nat->ah->Prop) (D:ah->Prop),(∀i k,J i k->pre k)->(∀i k g,J i k->J i (k++g))->
  (∀i (hi:i<L.length) k,J i k->∃b k',fg P (.func (.yield l) [] []) L[i] k (.bool b) k'/\(if b=true then J (i+1) k' else D k'))->
  (∀k,J L.length k->D k)->J 0 h->dq P f (a++[.func (.yield l) [] []]++c) h (λ_ k=>D k)
section
variable {P:Program}{ks:List Kt}{ts:TS}{h:ah}{Q:Ex->TS->ah->Prop}
def WC.iter(hmix:P.follows .mixedOrders=true){f A a c L pre g ps asg body}(hA:bV P f=some A)
  (hg:val ts g=.func (.func f) a c) (hi:Iter P f a c L pre) (hps:∀x∈L,x.length=ps.length) (I:Nat->ah->ah->Prop) (Fin:Ex->ah->ah->Prop)
  (h0:I 0 h []) (hcl:∀i h' g g2,I i h' g->I i h' (g++g2)) (hpre:∀i h' g X,h'.length=h.length->I i h' g->pre (h'++[X]++g))
  (step:∀i (hi:i<L.length) h' g (R B:ak),h'.length=h.length->I i h' g->
   WC P Cd asg [] (setArgs ts ps L[i]) (h'++[R]++g) λe1 T7 h2=>e1=.normal/\∃h1 g1,h2=h1++[R]++g1/\h1.length=h.length/\
    WC P Cd body [] T7 (h1++[B]++g1) λe2 _ h4=>∃h3 g3,h4=h3++[B]++g3/\h3.length=h.length/\(if e2=.normal then I (i+1) h3 g3 else Fin e2 h3 g3))
  (done:∀e h' g,h'.length=h.length->(if e=.normal then I L.length h' g else Fin e h' g)->WE P bT e ks ts (h'++[ak.dead]++g) Q):WC P bT (.eQ g ps asg body) ks ts h Q:=by
 let J:Nat->ah->Prop:=λi k=>∃h' g,k=h'++[.loop .ready .normal ts ps asg body]++g/\h'.length=h.length/\I i h' g
 let D:ah->Prop:=λk=>∃e h' g st,k=h'++[.loop st e ts ps asg body]++g/\h'.length=h.length/\st≠.busy/\(if e=.normal then I L.length h' g else Fin e h' g)
 obtain⟨v,h2,hs,e,h',g',st,rfl,hl,bW,So⟩:=hi.run h.length (h++[.loop .ready .normal ts ps asg body]) J D
  (λi k hJ=>by obtain⟨h',g,rfl,h1,h2⟩:=hJ;exact hpre i h' g _ h1 h2)
  (λi k g2 hJ=>by obtain⟨h',g,rfl,h1,h2⟩:=hJ;exact⟨h',g++g2,by rw[XV],h1,hcl _ _ _ _ h2⟩)
  (λi hi k hJ=>by
   obtain⟨h',g,rfl,h1,h2⟩:=hJ;obtain⟨e1,T7,k2,q1,rfl,h3,g3,rfl,h4,q2⟩:=W.sound hmix (step i hi h' g (.loop .ready .normal ts ps asg body) (.loop .busy .normal ts ps asg body) h1 h2);obtain⟨e2,ts3,k3,q3,h5,g5,rfl,h6,q4⟩:=W.sound hmix q2;have hy:fg P (.func (.yield h.length) [] []) L[i] (h'++[.loop .ready .normal ts ps asg body]++g) (.bool (decide (e2=.normal))) (List.set (h5++[ak.loop .busy .normal ts ps asg body]++g5) h.length (ak.loop (if e2=.normal then .ready else .done) e2 ts ps asg body)):=
    fg.yield (nf h1) (hps _ (Ya hi)) (λr=>q1 (some r) ⟨r,rfl⟩) (nf h4) (λr=>by rw[ru h4];exact q3 (some r) ⟨r,rfl⟩) (nf h6)
   rw[ru h6]at hy;refine⟨decide (e2=.normal),_,hy,?_⟩;by_cases he:e2=.normal
   ·exact JE
   ·rw[X5 he]at q4;simp only[he,Yp,YK,Yb];exact⟨e2,h5,g5,.done,rfl,h6,Si,by rw[X5 he];exact q4⟩)
  (λk hJ=>by obtain⟨h',g,rfl,h1,h2⟩:=hJ;exact⟨.normal,h',g,.ready,rfl,h1,Si,by rw[X9 rfl];exact h2⟩)
  ⟨h,[],by rw[Yo],rfl,h0⟩
 exact PQ
end
end Go.Abs
namespace Go.Abs
theorem uV:∀(l c pre:List AV),c.length=l.length->fN (pre++c) pre.length l=pre++l
 |[],c,pre,h=>by
  exact I8
 |x::l,[],pre,h=>by simp at h
 |x::l,y::c,pre,h=>by
  have e1:(pre++y::c).set pre.length x=(pre++[x])++c:=by
   exact Jz
  have e2:pre.length+1=(pre++[x]).length:=Si
  rw[ph,e1,e2,uV l c (pre++[x]) (by simpa using h),XV];rfl
theorem qa{es:Nat}{v:AV}:∀{cs:List (List AV)},(∀x∈cs,x.length=es)->∀{i off:Nat}(hi:i<cs.length),off<es->cs.flatten.set (i*es+off) v=(cs.set i (cs[i].set off v)).flatten
 |[],_,i,off,hi,_=>absurd hi (Nat.not_lt_zero _)
 |c::cs,h,0,off,hi,ho=>by
  have hc:c.length=es:=h c (YN ..);rw[Za,Z0,YJ,List.set_append_left _ _ Om];rfl
 |c::cs,h,i+1,off,hi,ho=>by
  have hc:c.length=es:=h c (YN ..);have h1:=qa (v:=v) (cs:=cs) (λx hx=>h x (YB _ hx)) (i:=i) (off:=off) (by simpa using hi) ho;rw[Za,YP _ _ (by rw[Zf];omega),show(i+1)*es+off-c.length=i*es+off by rw[Zf];omega,h1];rfl
def nW{es w N0 n:Nat}{z:List AV}{k k':IntKind}(h1:w*n<=2^48)(h2:n<2^63):th es w z (.int k n) (.int k' n) N0=some (.slice N0 0 n es,.push (.cells (dP n z) true true)):=by
 simp only[th];rw[X9 ⟨Om,Om,by exact_mod_cast h1,by exact_mod_cast h2⟩];rfl
def Fr.AQ{N n es h z}(hN:N<=h.length)(hz:z.length=es):Fr N (h++[.cells (dP n z) true true]) (.slice h.length 0 n es) es (List.replicate n z):=by
 have:=Fr.push (h:=h) (es:=es) hN (List.replicate n z) (λx hx=>by rw[(List.mem_replicate.1 hx).2];exact hz);rw[Y6]at this;exact this
section
variable {P:Program}{ro:Option Nat->Prop}{ks:List Kt}{ts:TS}{Q:Ex->TS->ah->Prop}{d:Option Nat}{l:List bI}
def WR.qo{q N b es w h y ys}(hb:h[b]? =some (.cells [] true false))(hN:N<=b)(hy:aH h y es ys)(eC:ys.length*w<=2^46)
  (K:∀s' g,Fr N (h++g) s' es ys->WP P ro l ks (put ts d s') (h++g) Q):WR P ro (pF es w (.slice b 0 0 es) y (λb=>h[b]?) h.length) q d l ks ts h Q:=by
 have hbl:b<h.length:=(XT.1 hb).1;simp only[pF,hy.ff,Yf];by_cases hk:ys.length=0
 ·have hys:ys=[]:=YW.1 hk;subst hys;simp only[X1,Yf,List.flatten_nil,List.isEmpty_nil];rw[jc];have:=K (.slice b 0 0 es) [] (by rw[Yo];exact Fr.mk (cs:=[]) hN hb Si)
  rwa [Yo]at this
 ·simp only[X5 hk,YJ,X9 eC,hb];rw[X9 Si,mC];exact K _ _ (Fr.push Om ys hy.rows)
def WR.vi{α:Type}{row:α->List AV}{L:List α}{h0 g:ah}{s v:AV}{es i off:Nat}{x':α}(hs:Fr h0.length (h0++g) s es (L.map row))(hi:i<L.length)(ho:off<es)(hv:v.one=true)(hx:row x' =(row L[i]).set off v)
  (K:∀g',g'.length=g.length->Fr h0.length (h0++g') s es ((L.set i x').map row)->(∀b,(∀b0 o n e,s=.slice b0 o n e->b≠b0)->(h0++g')[b]? =(h0++g)[b]?)->WP P ro l ks (put ts d az) (h0++g') Q):
  WR P ro (aW 1 (lK s es i off) v (λb=>(h0++g)[b]?)) false d l ks ts (h0++g) Q:=by
 have Sg:=hs.a8.rows;generalize Ti:L.map row=cs at hs;have hcl:cs.length=L.length:=by rw[<-Ti,X2]
 cases hs with
 |nil=>simp at hcl;omega
 | @mk b _ _ tl hN hb he=>
  have Rn:=eJ he;have hie:i*es+off<cs.flatten.length:=by
   rw[Rn,hcl];have:(i+1)*es<=L.length*es:=YZ _ hi;rw[Zf]at this;omega
  have aT:cs.flatten.set (i*es+off) v=((L.set i x').map row).flatten:=by
   have:=qa (v:=v) he (i:=i) (off:=off) Om ho;rw[this,Z1,hx,Ti];congr 2;simp[<-Ti]
  have hbl:b<(h0++g).length:=(XT.1 hb).1;show WR P ro (aW 1 (.ptr b (0+i*es+off)) v (λb=>(h0++g)[b]?)) false d l ks ts (h0++g) Q;rw[YJ,aL hb,bY hv Om,rP,aT,YP _ _ hN];refine K _ Si ?_ λb' hb'=>?_
  ·have hl2:((L.set i x').map row).length=cs.length:=by simp[hcl]
   rw[<-hl2];refine Fr.mk hN (tl:=tl) ?_ λy hy=>?_
   ·exact z156
   ·rw[Z1]at hy;rcases ZG hy with hy|hy
    ·exact he y (by rw[<-Ti];exact hy)
    ·rw[hy,hx,YD];exact he _ (by rw[<-Ti];exact Ym (Ya hi))
  ·exact JH
def WR.LO{h0 g s sy es cs ys x y}(hx:val ts x=s)(hy:val ts y=sy)(hs:Fr h0.length (h0++g) s es cs)(hsy:aH (h0++g) sy es ys)(hl:cs.length=ys.length)
  (K:∀g' v,g'.length=g.length->Fr h0.length (h0++g') s es ys->(∀b,(∀b0 o n e,s=.slice b0 o n e->b≠b0)->(h0++g')[b]? =(h0++g)[b]?)->WP P ro l ks (put ts d v) (h0++g') Q):
  WR P ro (stepT (.wI es x y) (val ts) (λb=>(h0++g)[b]?) (h0++g).length) false d l ks ts (h0++g) Q:=by
 simp only[stepT,ni,hx,hy,hsy.ff];have SE:=eJ hsy.rows;cases hs with
 |nil=>
  have:ys=[]:=YW.1 hl.symm;subst this;simp only;rw[jc];exact K g _ rfl .nil λ_ _=>rfl
 | @mk b _ _ tl hN hb he=>
  have hcl:=eJ he;have TX:min ys.length cs.length=ys.length:=Om
  simp only[Yf,TX];by_cases hk:ys.length=0
  ·have hys:ys=[]:=YW.1 hk;have Ti:cs=[]:=YW.1 Om;subst hys;subst Ti;simp only[X1,Yf];rw[jc];exact K g _ rfl (Fr.mk (cs:=[]) hN hb Si) λ_ _=>rfl
  ·have hbl:b<(h0++g).length:=(XT.1 hb).1;simp only[X5 hk,hb,YJ];rw[X9 (by rw[hcl,hl];omega),rP];have aT:fN cs.flatten 0 (ys.flatten.take (ys.length*es))=ys.flatten:=by
    rw[<-SE,Yz];have:=uV ys.flatten cs.flatten [] (by rw[hcl,SE,hl])
    simpa using this
   rw[aT,YP _ _ hN];refine K _ _ Si ?_ λb' hb'=>?_
   ·rw[hl];refine Fr.mk hN (tl:=tl) ?_ hsy.rows;exact z156
   ·exact JH
end
end Go.Abs
namespace Go.Abs
section
variable (P:Program) (ro:Option Nat->Prop)
def WQ(l:List bI)(cs:List Acc)(ks:List Kt)(ts:TS)(h:ah)(Q:Ex->TS->ah->Prop):Prop:=AM h l ts cs λts' cs=>eZ cs/\kq P ro ks Q .normal ts' (dR h cs)
def Gp(r:Option AV)(d:Option Nat)(l:List bI)(cs:List Acc)(ks:List Kt)(ts:TS)(h:ah)(Q:Ex->TS->ah->Prop):Prop:=
 match r with
 |some v=>WQ P ro l cs ks (put ts d v) h Q
 |none=>False
def Pn(a:AV)(r:Option (AV×iH))(d:Option Nat)(l:List bI)(cs:List Acc)(ks:List Kt)(ts:TS)(h:ah)(Q:Ex->TS->ah->Prop):Prop:=
 match a,r with
 |.ptr b _,some (v,.au)=>WQ P ro l (cs++[.rd b]) ks (put ts d v) h Q
 |_,_=>False
def Pm(a:AV)(r:Option (AV×iH))(d:Option Nat)(l:List bI)(cs:List Acc)(ks:List Kt)(ts:TS)(h:ah)(Q:Ex->TS->ah->Prop):Prop:=
 match a,r with
 |.ptr _ _,some (v,.set b k)=>WQ P ro l (cs++[.wr b k]) ks (put ts d v) h Q
 |_,_=>False
def MA(a:AV)(b q:Bool)(k:o6)(d:Option Nat)(l:List bI)(cs:List Acc)(ks:List Kt)(ts:TS)(h:ah)(Q:Ex->TS->ah->Prop):Prop:=
 match a with
 |.bool t=>if t=b then WQ P ro ({dst:=d,k:=k,gd:=none,q:=q} ::l) cs ks ts h Q else WQ P ro l cs ks (put ts d az) h Q
 |_=>WQ P ro l cs ks (put ts d az) h Q
end
section
variable {P:Program}{ro:Option Nat->Prop}{ks:List Kt}{ts:TS}{h:ah}{Q:Ex->TS->ah->Prop}{d:Option Nat}{q:Bool}{l:List bI}{cs:List Acc}
def qL:WC P ro (.sf l) ks ts h Q=WQ P ro l [] ks ts h Q:=rfl
def CX:WQ P ro [] cs ks ts h Q=(eZ cs/\WE P ro .normal ks ts (dR h cs) Q):=rfl
def oQ{v}:Gp P ro (some v) d l cs ks ts h Q=WQ P ro l cs ks (put ts d v) h Q:=rfl
def oS{v b o}:Pn P ro (.ptr b o) (some (v,.au)) d l cs ks ts h Q=WQ P ro l (cs++[.rd b]) ks (put ts d v) h Q:=rfl
def oR{v b b' o k}:Pm P ro (.ptr b o) (some (v,.set b' k)) d l cs ks ts h Q=WQ P ro l (cs++[.wr b' k]) ks (put ts d v) h Q:=rfl
def kG{k}(hp:fA k=true){r}(hr:stepT k (val ts) (λz=>h[z]?) h.length=r.map λv=>(v,.au)):
  WQ P ro ({dst:=d,k:=k,gd:=none,q:=q} ::l) cs ks ts h Q=Gp P ro r d l cs ks ts h Q:=by
 apply propext
 constructor
 ·rintro⟨v,c,⟨hn,_⟩|⟨_,hs⟩,H⟩
  ·exact absurd trivial hn
  rcases hs with⟨_,rfl,hs⟩|⟨n,a,b,off,hk,_⟩|⟨n,a,x,b,off,k',hk,_⟩
  ·have hs:stepT k (val ts) (λz=>h[z]?) h.length=some (v,.au):=hs;rw[hr]at hs;cases r with
   |none=>cases hs
   |some v'=>cases hs;exact H
  ·have hk:k=.load n a:=hk;rw[hk]at hp;cases hp
  ·have hk:k=.store n a x:=hk;rw[hk]at hp;cases hp
 ·intro H;cases r with
  |none=>exact H.elim
  |some v=>exact⟨v,.no,.inr ⟨trivial,.inl ⟨hp,rfl,hr⟩⟩,H⟩
def qI{n a}:WQ P ro ({dst:=d,k:=.load n a,gd:=none,q:=q} ::l) cs ks ts h Q=Pn P ro (val ts a) (ar n (val ts a) (λz=>h[z]?)) d l cs ks ts h Q:=by
 apply propext
 constructor
 ·rintro⟨v,c,⟨hn,_⟩|⟨_,hs⟩,H⟩
  ·exact absurd trivial hn
  rcases hs with⟨hp,_⟩|⟨n',a',b,off,hk,ha,rfl,hs⟩|⟨n',a',x,b,off,k',hk,_⟩
  ·cases hp
  ·cases hk;have hs:ar n (val ts a) (λz=>h[z]?)=some (v,.au):=hs;rw[hs,ha];exact H
  ·cases hk
 ·intro H;unfold Pn at H;split at H
  ·rename_i b o v ha hr;exact⟨v,.rd b,.inr ⟨trivial,.inr (.inl ⟨n,a,b,o,rfl,ha,rfl,hr⟩)⟩,H⟩
  ·exact H.elim
def oO{n a x}:WQ P ro ({dst:=d,k:=.store n a x,gd:=none,q:=q} ::l) cs ks ts h Q=Pm P ro (val ts a) (aW n (val ts a) (val ts x) (λz=>h[z]?)) d l cs ks ts h Q:=by
 apply propext
 constructor
 ·rintro⟨v,c,⟨hn,_⟩|⟨_,hs⟩,H⟩
  ·exact absurd trivial hn
  rcases hs with⟨hp,_⟩|⟨n',a',b,off,hk,_⟩|⟨n',a',x',b,off,k',hk,ha,rfl,hs⟩
  ·cases hp
  ·cases hk
  ·cases hk;have hs:aW n (val ts a) (val ts x) (λz=>h[z]?)=some (v,.set b k'):=hs;rw[hs,ha];exact H
 ·intro H;unfold Pm at H;split at H
  ·rename_i b o v b' k ha hr;have hb:b' =b:=by
    rw[ha]at hr;simp only[aW]at hr;split at hr
    ·split at hr
     ·cases hr;rfl
     ·cases hr
    ·cases hr
   subst hb;exact⟨v,.wr b' k,(.inr ⟨trivial,.inr (.inr ⟨n,a,x,b',o,k,rfl,ha,rfl,hr⟩)⟩),H⟩
  ·exact H.elim
def ze{k g b}:WQ P ro ({dst:=d,k:=k,gd:=some (g,b),q:=q} ::l) cs ks ts h Q=MA P ro (val ts (.t g)) b q k d l cs ks ts h Q:=by
 have key:∀t:Bool,val ts (.t g)=.bool t->(wanted (some (g,b)) ts↔t=b):=λt hg=>by
  show ts[g]? =some (.bool b)↔_;have hg:ts.getD g az=.bool t:=hg;have e:ts[g]? =some (.bool t):=by
   rw[YC]at hg;cases hx:ts[g]? with
   |none=>rw[hx]at hg;cases hg
   |some y=>rw[hx]at hg;exact Yx some hg
  rw[e];simp
 have neg:(∀t,val ts (.t g)≠.bool t)->¬wanted (some (g,b)) ts:=λhn hw=>by
  have hw:ts[g]? =some (.bool b):=hw;exact hn b (by show ts.getD g az=_;rw[YC,hw];rfl)
 have no:¬wanted (some (g,b)) ts->WQ P ro ({dst:=d,k:=k,gd:=some (g,b),q:=q} ::l) cs ks ts h Q=WQ P ro l cs ks (put ts d az) h Q:=λhy=>by
  apply propext
  constructor
  ·rintro⟨v,c,⟨_,rfl,rfl⟩|⟨hn,hs⟩,H⟩
   ·exact H
   ·exact absurd hn hy
  ·intro H;exact⟨az,.no,.inl ⟨hy,rfl,rfl⟩,H⟩
 unfold MA;split
 ·rename_i t ht;have hw:=key t ht;by_cases e:t=b
  ·rw[X9 e];have hy:=hw.2 e
   apply propext
   constructor
   ·rintro⟨v,c,⟨hn,_⟩|⟨_,hs⟩,H⟩
    ·exact absurd hy hn
    ·exact⟨v,c,.inr ⟨trivial,hs⟩,H⟩
   ·rintro⟨v,c,⟨hn,_⟩|⟨_,hs⟩,H⟩
    ·exact absurd trivial hn
    ·exact⟨v,c,.inr ⟨hy,hs⟩,H⟩
  ·rw[X5 e];exact no λz=>e (hw.1 z)
 ·rename_i hn;exact no (neg hn)
def uB{k}:MA P ro (.bool true) true q k d l cs ks ts h Q=WQ P ro ({dst:=d,k:=k,gd:=none,q:=q} ::l) cs ks ts h Q:=rfl
def uC{k}:MA P ro (.bool false) true q k d l cs ks ts h Q=WQ P ro l cs ks (put ts d az) h Q:=rfl
def qH{c a b}:WQ P ro ({dst:=d,k:=.pick c a b,gd:=none,q:=q} ::l) cs ks ts h Q=Gp P ro (s9 (val ts c) (val ts a) (val ts b)) d l cs ks ts h Q:=by
 refine kG rfl ?_;simp only[stepT,ni,s9];cases val ts c<;>rfl
def oP{x}:WQ P ro ({dst:=d,k:=.len .sl x,gd:=none,q:=q} ::l) cs ks ts h Q=Gp P ro (tZ (iV .sl (λb=>h[b]?) (val ts x))) d l cs ks ts h Q:=by
 refine kG rfl ?_;simp only[stepT,ni,tZ];cases iV .sl (λb=>h[b]?) (val ts x)<;>rfl
def uz{x}:WQ P ro ({dst:=d,k:=.aI x,gd:=none,q:=q} ::l) cs ks ts h Q=WQ P ro l cs ks (put ts d (val ts x)) h Q:=kG (r:=some (val ts x)) rfl rfl
def uA{op x y}:WQ P ro ({dst:=d,k:=.bin op x y,gd:=none,q:=q} ::l) cs ks ts h Q=Gp P ro (ez op (val ts x) (val ts y)) d l cs ks ts h Q:=by
 refine kG rfl ?_;exact Jg
def zd{op x}:WQ P ro ({dst:=d,k:=.un op x,gd:=none,q:=q} ::l) cs ks ts h Q=Gp P ro (wL op (val ts x)) d l cs ks ts h Q:=by
 refine kG rfl ?_;simp only[stepT,ni];cases wL op (val ts x)<;>rfl
def qK{off x}:WQ P ro ({dst:=d,k:=.aR off x,gd:=none,q:=q} ::l) cs ks ts h Q=Gp P ro (tC off (val ts x)) d l cs ks ts h Q:=by
 refine kG rfl ?_;simp only[stepT,ni,tC];cases val ts x<;>rfl
def mD{x}:WQ P ro ({dst:=d,k:=.bz x,gd:=none,q:=q} ::l) cs ks ts h Q=Gp P ro (po (val ts x)) d l cs ks ts h Q:=by
 refine kG rfl ?_;exact JC
end
def ux{a:List Acc}:[]++a=a:=rfl
def uw{c:Acc}{a b:List Acc}:(c::a)++b=c:: (a++b):=rfl
def oM{h}:dR h []=h:=rfl
def oK{h b cs}:dR h (.rd b::cs)=dR h cs:=rfl
def oI{h b k cs}:dR h (.wr b k::cs)=dR (h.set b k) cs:=rfl
def Av(b:Nat)(cs:List Acc):Prop:=∀x∈cs,x.dU≠some b
def oG(b:Nat)(cs:List Acc):Prop:=∀x∈cs,∀k,x≠Acc.wr b k
def Iu{b}:Av b []=True:=aax λx hx=>by cases hx
def Iv{b c cs}:Av b (c::cs)=(c.dU≠some b/\Av b cs):=by
 simp[Av]
def Fb{b}:oG b []=True:=aax λx hx=>by cases hx
def Fa{b b' cs}:oG b (.rd b'::cs)=oG b cs:=by
 simp[oG]
def E9{b b' k cs}:oG b (.wr b' k::cs)=(b'≠b/\oG b cs):=by
 unfold oG;simp only[YA,forall_eq_or_imp];refine propext ⟨λh=>⟨λe=>h.1 k (by rw[e]),h.2⟩,λh=>⟨λk' e=>h.1 (by cases e;rfl),h.2⟩⟩
def E8:eZ []=True:=rfl
def E7{b cs}:eZ (.rd b::cs)=(oG b cs/\eZ cs):=by
 unfold oG;simp only[eZ,Acc.dU,Yq];refine propext ⟨λh=>⟨λx hx k hk=>h.1 b rfl x hx (by rw[hk]) k k (.inr hk),h.2⟩,λh=>⟨λb' e x hx _ k k' hk=>?_,h.2⟩⟩;subst e;rcases hk with hk|hk
 ·cases hk
 ·exact h.1 x hx k' hk
def E6{b k cs}:eZ (.wr b k::cs)=(Av b cs/\eZ cs):=by
 unfold Av;simp only[eZ,Acc.dU,Yq];refine propext ⟨λh=>⟨λx hx hk=>h.1 b rfl x hx hk k k (.inl rfl),h.2⟩,λh=>⟨λb' e x hx hk _ _ _=>?_,h.2⟩⟩;subst e;exact h.1 x hx hk
def LU{b}:(Acc.rd b).dU=some b:=rfl
def LS{b k}:(Acc.wr b k).dU=some b:=rfl
def bg:
  (∀{ts:TS}{i j:Nat}{v:AV}(_:(i=j)=False),slot (ts.set i v) j=slot ts j)/\
  (∀{ts:TS}{i:Nat}{v:AV}(_:i+1<=ts.length),slot (ts.set i v) i=v)/\
  (∀{ts:TS}{i:Nat}{X:Prop}(_:i+1<=ts.length),Lh ts[i]? X=X)/\
  (∀{ts:TS}{i:Nat}{v:AV},(ts.set i v).length=ts.length)/\
  (∀{u:TypeId}{x:AV}{G:Nat->Option ak}{N:Nat},mK (.qn u) x G N=some (.qn u x,.au)):=by
 refine⟨λ{ts i j v} h=>?_,λ{ts i v} h=>?_,λ{ts i X} h=>by rw[XY h];rfl,λ{ts i v}=>YD,rfl⟩
 ·have hne:i≠j:=λe=>by rw[<-h];exact e
  unfold slot;rw[List.getD,List.getD,Yc hne]
 ·unfold slot;rw[List.getD,Yd h];rfl
end Go.Abs
namespace Go.Abs
abbrev ak.b(l:List AV):ak:=.cells l true false
abbrev AV.i(n:Int):AV:=.int .i64 n
def Rs{A B F:Prop}(f:F)(b:B)(e:F->(B->A)/\(∃x:Prop,x=B):=by(intro f;refine⟨λb=>?_,?_⟩;(focus (repeat (first|simp (config:={maxSteps:=1000000}) only[aQ,aT,ba,bd,reduceAdd,reduceMul,reduceLeDiff,reduceEqDiff,bg,hlen,Yb,Yf,f]|simp (config:={maxSteps:=1000000}) (disch:=first|(simp only[XS,XX,X1]<;>omega)|rfl|omega|fail) only[eo,aQ,aT,ba,bd,reduceAdd,reduceMul,reduceLeDiff,reduceEqDiff,bg,hlen,Yb,Yf,f]));all_goals exact b);first|exact⟨True,rfl⟩|exact⟨_,rfl⟩)):A:=(e f).1 b
def o9{A B F:Prop}(f:F)(b:B)(e:F->(B->A)/\(∃x:Prop,x=B):=by(intro f;refine⟨λb=>?_,?_⟩;(focus (repeat (first|simp (config:={maxSteps:=1000000}) only[aQ,aT,ba,bd,reduceAdd,reduceMul,reduceLeDiff,reduceEqDiff,bg,hlen,Yb,Yf,reduceCtorEq,f]|simp (config:={maxSteps:=1000000}) (disch:=first|(simp only[XS,XX,X1]<;>omega)|rfl|omega|fail) only[eo,aQ,aT,ba,bd,reduceAdd,reduceMul,reduceLeDiff,reduceEqDiff,bg,hlen,Yb,Yf,reduceCtorEq,f]));all_goals exact b);first|exact⟨True,rfl⟩|exact⟨_,rfl⟩)):A:=(e f).1 b
def Zs{A B F:Prop}(f:F)(b:B)(e:F->(B->A)/\(∃x:Prop,x=B):=by(intro f;refine⟨λb=>?_,?_⟩;(focus (simp only[aQ,aT,ba,bd,reduceAdd,reduceMul,reduceLeDiff,reduceEqDiff,bg,hlen,Yb,Yf,f]);all_goals exact b);first|exact⟨True,rfl⟩|exact⟨_,rfl⟩)):A:=(e f).1 b
def Zn{A B:Prop}(b:B)(e:(B->A)/\(∃x:Prop,x=B):=by(refine⟨λb=>?_,?_⟩;(focus (simp only[aQ,aT,ba,bd,reduceAdd,reduceMul,reduceLeDiff,reduceEqDiff,bg,hlen,Yb,Yf]);all_goals exact b);first|exact⟨True,rfl⟩|exact⟨_,rfl⟩)):A:=e.1 b
def Ws{A B F:Prop}(f:F)(b:B)(e:F->(B->A)/\(∃x:Prop,x=B):=by(intro f;refine⟨λb=>?_,?_⟩;(focus (simp only[aQ,aT,ba,bd,reduceAdd,reduceMul,reduceLeDiff,reduceEqDiff,Yf,Yb,f]);all_goals exact b);first|exact⟨True,rfl⟩|exact⟨_,rfl⟩)):A:=(e f).1 b
def Wn{A B:Prop}(b:B)(e:(B->A)/\(∃x:Prop,x=B):=by(refine⟨λb=>?_,?_⟩;(focus (simp only[aQ,aT,ba,bd,reduceAdd,reduceMul,reduceLeDiff,reduceEqDiff,Yf,Yb]);all_goals exact b);first|exact⟨True,rfl⟩|exact⟨_,rfl⟩)):A:=e.1 b
def Sq{A F:Prop}(f:F)(e:F->A:=by(intro f;simp only[aQ,aT,ba,bd,reduceAdd,reduceMul,reduceLeDiff,reduceEqDiff,bg,hlen,Yb,Yf,f])):A:=e f
def Sw{A:Prop}(e:A:=by simp only[aQ,aT,ba,bd,reduceAdd,reduceMul,reduceLeDiff,reduceEqDiff,bg,hlen,Yb,Yf]):A:=e
def QI{A F:Prop}(f:F)(e:F->A:=by(intro f;(simp only[aQ,aT,ba,bd,reduceAdd,reduceMul,reduceLeDiff,reduceEqDiff,bg,hlen,Yb,Yf,f];rfl))):A:=e f
def iQ{A:Prop}(e:A:=by(simp only[aQ,aT,ba,bd,reduceAdd,reduceMul,reduceLeDiff,reduceEqDiff,bg,hlen,Yb,Yf];rfl)):A:=e
def Sn{A:Prop}(e:A:=by simp only[bg,hlen]):A:=e
def Xx{A:Prop}(e:A:=by repeat first|with_reducible exact Ext.refl _|refine Ext.app _ ?_):A:=e
def ay.Qt{P:Program}{h:ah}(nt:Nat)(hmix:P.follows .mixedOrders=true){f:FuncId}{A:aq}(hA:bV P f=some A){R:AV->ah->Prop}(H:∀ts:TS,ts.length=nt->WC P bT A.body [] ts h (FQ A.rs (λv h'=>Ext h h'/\R v h')))(hn:A.nt=nt:=by rfl)(hl:(aU nt []).length=nt:=by rfl):ay P f [] h R:=by
 subst hn;exact .of hmix hA (H (aU A.nt []) hl)
def ay.kV{P:Program}{h:ah}(nt:Nat)(hmix:P.follows .mixedOrders=true){f:FuncId}{A:aq}(hA:bV P f=some A){a0:AV}{R:AV->ah->Prop}(H:∀ts:TS,ts.length=nt->slot ts 0=a0->WC P bT A.body [] ts h (FQ A.rs (λv h'=>Ext h h'/\R v h')))(hn:A.nt=nt:=by rfl)(hl:(aU nt [a0]).length=nt:=by rfl):ay P f [a0] h R:=by
 subst hn;exact .of hmix hA (H (aU A.nt [a0]) hl rfl)
def ay.eG{P:Program}{h:ah}(nt:Nat)(hmix:P.follows .mixedOrders=true){f:FuncId}{A:aq}(hA:bV P f=some A){a0 a1:AV}{R:AV->ah->Prop}(H:∀ts:TS,ts.length=nt->slot ts 0=a0->slot ts 1=a1->WC P bT A.body [] ts h (FQ A.rs (λv h'=>Ext h h'/\R v h')))(hn:A.nt=nt:=by rfl)(hl:(aU nt [a0,a1]).length=nt:=by rfl):ay P f [a0,a1] h R:=by
 exact Je
def dq.eG{P:Program}{h:ah}(nt:Nat)(hmix:P.follows .mixedOrders=true){f:FuncId}{A:aq}(hA:bV P f=some A){a0 a1:AV}{R:AV->ah->Prop}(H:∀ts:TS,ts.length=nt->slot ts 0=a0->slot ts 1=a1->WC P bT A.body [] ts h (FQ A.rs (R)))(hn:A.nt=nt:=by rfl)(hl:(aU nt [a0,a1]).length=nt:=by rfl):dq P f [a0,a1] h R:=by
 exact Je
def ay.nL{P:Program}{h:ah}(nt:Nat)(hmix:P.follows .mixedOrders=true){f:FuncId}{A:aq}(hA:bV P f=some A){a0 a1 a2:AV}{R:AV->ah->Prop}(H:∀ts:TS,ts.length=nt->slot ts 0=a0->slot ts 1=a1->slot ts 2=a2->WC P bT A.body [] ts h (FQ A.rs (λv h'=>Ext h h'/\R v h')))(hn:A.nt=nt:=by rfl)(hl:(aU nt [a0,a1,a2]).length=nt:=by rfl):ay P f [a0,a1,a2] h R:=by
 exact Jr
def dq.nL{P:Program}{h:ah}(nt:Nat)(hmix:P.follows .mixedOrders=true){f:FuncId}{A:aq}(hA:bV P f=some A){a0 a1 a2:AV}{R:AV->ah->Prop}(H:∀ts:TS,ts.length=nt->slot ts 0=a0->slot ts 1=a1->slot ts 2=a2->WC P bT A.body [] ts h (FQ A.rs (R)))(hn:A.nt=nt:=by rfl)(hl:(aU nt [a0,a1,a2]).length=nt:=by rfl):dq P f [a0,a1,a2] h R:=by
 exact Jr
def WF.ce{P:Program}{ro:Option Nat->Prop}{ks:List Kt}{ts:TS}{h:ah}{Q:Ex->TS->ah->Prop}{q:Bool}{f:FuncId}{A:aq}(hA:bV P f=some A){a c args:List AV}{d:Option Nat}{l:List bI}{V:AV}(H:ay P f (a++args++c) h (λv _=>v=V))(K:∀g,WP P ro l ks (put ts d V) (h++g) Q):WF P ro q (.func (.func f) a c) args d l ks ts h Q:=
 WF.res hA H λ_ g e=>e▸K g
def e9{W:ah}{b:Nat}{B:ak}(h:W[b]? =some B){k:ah}{n:Option Nat}{a:Nat}(e:Ext W k):ar n (.ptr b a) (λz=>k[z]?)=dJ n a B:=aA (e.some h)
def fF{k n:Nat}(h:k<n):decide ((k:Int)<(n:Int))=true:=XZ Om
def gK{k n:Nat}(h:¬k<n):decide ((k:Int)<(n:Int))=false:=XU Om
def bZ(c:Bool)(e:Int):Int:=if c then e else 0
def bE(n lo hi:Int):Int:=if n<lo\/hi<n then 3 else 0
def bj:List Int->Int
 |[]=>0
 |x::xs=>if x=0 then bj xs else x
def fW(c:UInt8):Bool:=(65<=c.toNat&&c.toNat<=90)||(97<=c.toNat&&c.toNat<=122)
def fc(c:UInt8):Bool:=48<=c.toNat&&c.toNat<=57
def jT(c:UInt8):Bool:=fW c||fc c||c.toNat==95
def ed:By->Bool
 |[]=>false
 |c::r=>decide (r.length<24)&&fW c&&r.all jT
inductive Kd where
 |fp
 |line
 |tape
 |gA
 |copy
 |accept
 |source
 |fY
 |merge
 |run
 |fX
 |fail
 |gB
 |rel
 deriving DecidableEq
def bA:Kd->By
 |.fp=>[117,110,100,111]
 |.line=>[108,105,110,101]
 |.tape=>[116,97,112,101]
 |.gA=>[115,104,111,116]
 |.copy=>[99,111,112,121]
 |.accept=>[97,99,99,101,112,116]
 |.source=>[115,111,117,114,99,101]
 |.fY=>[109,111,100,117,108,101]
 |.merge=>[109,101,114,103,101]
 |.run=>[114,117,110]
 |.fX=>[116,105,108,101]
 |.fail=>[102,97,105,108]
 |.gB=>[112,105,99,116,117,114,101]
 |.rel=>[114,101,108,101,97,115,101]
def F0:List Kd:=[.fp,.line,.tape,.gA,.copy,.accept,.source,.fY,.merge,.run,.fX,.fail,.gB,.rel]
def bM:Kd->List (Nat×Bool)
 |.fp=>[]
 |.line=>[(0,false)]
 |.tape=>[(1,false)]
 |.gA=>[(2,false),(0,true),(1,true)]
 |.copy=>[(1,true),(1,true)]
 |.accept=>[(0,true)]
 |.source=>[(3,false),(0,true)]
 |.fY=>[(3,false),(3,true)]
 |.merge=>[(3,false),(3,true),(3,true)]
 |.run=>[(4,false),(3,true)]
 |.fX=>[(4,true)]
 |.fail=>[(4,true)]
 |.gB=>[(5,false),(4,true)]
 |.rel=>[(5,true)]
def cF:Kd->Nat
 |.fp=>0
 |.line=>2
 |.tape=>2
 |.gA=>1
 |.copy=>1
 |.accept=>1
 |.source=>1
 |.fY=>2
 |.merge=>1
 |.run=>2
 |.fX=>3
 |.fail=>2
 |.gB=>1
 |.rel=>1
def gT(k:By):Option Kd:=F0.find? λd=>bA d==k
def mi(d:Kd):gT (bA d)=some d:=by cases d<;>rfl
def cC{k d}(h:gT k=some d):k=bA d:=by
 have:=aap h;exact(eq_of_beq this).symm
def dF{k}(h:gT k=none)(d:Kd):k≠bA d:=by
 rintro rfl;rw[mi]at h;cases h
structure gq where
 num:Int
 kind:By
 names:List (By)
 cE:List Int
 text:By
structure gN where
 name:By
 want:Int
 acc:Bool
structure rW where
 name:By
 last:Int
structure jP where
 name:By
 line:By
 aJ:List (By)
structure gy where
 name:By
 gives:By
 line:By
 bu:List (By)
structure jv where
 name:By
 mod:By
 bp:List Int
structure nE where
 name:By
 yQ:By
 nq:Int
 rel:Bool
structure gx where
 tick:Int
 lines:List gN
 aJ:List rW
 aj:List jP
 aD:List gy
 aG:List jv
 aO:List nE
def gx.zero:gx:=⟨0,[],[],[],[],[],[]⟩
def BY:gN:=⟨[],0,false⟩
def NS:rW:=⟨[],0⟩
def DV:jP:=⟨[],[],[]⟩
def BX:gy:=⟨[],[],[],[]⟩
def tU:jv:=⟨[],[],[]⟩
def Hd:nE:=⟨[],[],0,false⟩
def aZ(l:List (By))(n:By):Nat:=l.findIdx λx=>decide (x=n)
def rE{α:Type}(f:α->By)(l:List α)(n:By)(d:α):α:=l.getD (aZ (l.map f) n) d
def gP(R:gx):List (By):=R.lines.map gN.name
def jK(R:gx):List (By):=R.aJ.map rW.name
def mS(R:gx):List (By):=R.aj.map jP.name
def hO(R:gx):List (By):=R.aD.map gy.name
def fM(R:gx):List (By):=R.aG.map jv.name
def jg(R:gx):List (By):=R.aO.map nE.name
def IQ(R:gx):Nat->List (By)
 | 0=>gP R
 | 1=>jK R
 | 2=>mS R
 | 3=>hO R
 | 4=>fM R
 |_=>jg R
def dO(R:gx)(n:By):gN:=rE gN.name R.lines n BY
def jz(R:gx)(n:By):rW:=rE rW.name R.aJ n NS
def qX(R:gx)(n:By):jP:=rE jP.name R.aj n DV
def gS(R:gx)(n:By):gy:=rE gy.name R.aD n BX
def eS(R:gx)(n:By):jv:=rE jv.name R.aG n tU
def gX(R:gx)(n:By):nE:=rE nE.name R.aO n Hd
def dw(R:gx)(t:Nat)(n:By):Bool:=decide (n∈IQ R t)
def jA(R:gx)(t:Int)(n:By):Bool:=decide (t<=(jz R n).last)
def iI(R:gx)(x:jP)(t:Int):Bool:=x.aJ.any (jA R t)
def kf(R:gx)(t:Int):List (By):=(R.aj.filter λx=>!iI R x t).map jP.name
def zI(R:gx)(n:By):List jP:=R.aj.filter λx=>decide (x.line=n)
def cJ:List Int->Nat->List Int
 |[],_=>[]
 |x::r,i=>if x<0 then(i:Int)::cJ r (i+1)else cJ r (i+1)
def qd(R:gx)(j:By):Bool:=R.aO.any λp=>decide (p.yQ=j)
def cS(m:By)(l:List gy):List (By):=l.foldl (λn x=>if x.name∈n then n++x.bu else n) [m]
def jm(R:gx)(m:By):List gy:=R.aD.filter λx=>decide (x.name∈cS m R.aD.reverse)
def fq(R:gx)(m:By):List gN:=R.lines.filter λl=>decide (l.name∈(jm R m).map gy.line)
def iJ(R:gx)(p:By):List (By):=
 (R.aj.filter λx=>decide (x.line∈(fq R (eS R (gX R p).yQ).mod).map gN.name)).map jP.name
def ga(l:List Int):Int:=l.foldl (λx s=>(257*x+s).tmod 16777213) 1
def aP(e:gq)(i:Nat):By:=e.names.getD i []
def bH(e:gq)(i:Nat):Int:=e.cE.getD i 0
def dS:By:=[115,104,111,116,115]
def mq:By:=[115,101,99,116,105,111,110]
def n8:By:=[105,109,97,103,101]
def mP(n:Int):By:=if n=1 then dS else if n=2 then dS else if n=3 then mq else n8
def jN(n:Int):By:=if n=1 then dS else if n=2 then mq else n8
def gV(e:gq):Int:=
 if bE e.num 1 1000≠0 then 3 else
 match gT e.kind with
 |none=>13
 |some d=>if e.names.length≠(bM d).length\/e.cE.length≠cF d then 2
  else if e.names.any (λs=>!ed s)then 8
  else if e.cE.any (λn=>decide (bE n 0 999999999≠0))then 3
  else if e.text≠[]then 1 else 0
def mO(R:gx)(e:gq):List (Nat×Bool)->Nat->Bool
 |[],_=>false
 |r::l,i=>(r.2 && !dw R r.1 (aP e i))||mO R e l (i+1)
def qQ(R:gx)(e:gq):List (Nat×Bool)->Nat->Bool
 |[],_=>false
 |r::l,i=>(!r.2&&dw R r.1 (aP e i))||qQ R e l (i+1)
def kX(d:Kd)(R:gx)(e:gq):Int:=if mO R e (bM d) 0 then 10 else if qQ R e (bM d) 0 then 9 else 0
def fJ(R:gx)(e:gq):Int:=(eS R (aP e 0)).bp.getD (bH e 1).toNat 0
def jO(R:gx)(e:gq):Int:=if qd R (aP e 0)then 23 else if((eS R (aP e 0)).bp.length:Int)<=bH e 1 then 3 else 0
def bC(R:gx)(e:gq):Kd->Int
 |.fp=>0
 |.line=>if bE (bH e 1) 1 64≠0 then 3 else if 16<=R.lines.length then 5 else 0
 |.tape=>if 999999999<bH e 0+bH e 1 then 4 else if 16<=R.aJ.length then 5 else 0
 |.gA=>if(dO R (aP e 1)).acc then 23 else if !jA R (bH e 0) (aP e 2)then 30 else if 64<=R.aj.length then 5 else 0
 |.copy=>if aP e 0=aP e 1 then 24 else if !jA R (bH e 0) (aP e 0)then 30 else if !jA R (bH e 0) (aP e 1)then 30 else 0
 |.accept=>if(dO R (aP e 0)).acc then 23 else if((zI R (aP e 0)).length:Int)<(dO R (aP e 0)).want then 16 else if(zI R (aP e 0)).any (λx=>!iI R x (bH e 0))then 30 else 0
 |.source=>if 32<=R.aD.length then 5 else 0
 |.fY=>if bE (bH e 1) 1 4≠0 then 13 else if(gS R (aP e 1)).gives≠mP (bH e 1)then 2 else if 32<=R.aD.length then 5 else 0
 |.merge=>if aP e 1=aP e 2 then 24 else if(gS R (aP e 1)).gives≠(gS R (aP e 2)).gives then 2 else if 32<=R.aD.length then 5 else 0
 |.run=>if(fq R (aP e 1)).any (λx=>!x.acc)then 32 else if bE (bH e 1) 1 32≠0 then 3 else if 16<=R.aG.length then 5 else 0
 |.fX=>if jO R e≠0 then jO R e else if 0<=fJ R e then 9 else 0
 |.fail=>if jO R e≠0 then jO R e else if fJ R e<0 then 7 else 0
 |.gB=>if qd R (aP e 1)then 23 else if cJ (eS R (aP e 1)).bp 0≠[]then 32 else if 16<=R.aO.length then 5 else 0
 |.rel=>if(gX R (aP e 0)).rel then 23 else 0
def kD(a b:By)(x:jP):jP:=if a∈x.aJ/\b∉x.aJ then {x with aJ:=x.aJ++[b] } else x
def mT(R:gx)(e:gq)(s:Int):List jv:=R.aG.set (aZ (fM R) (aP e 0)) {eS R (aP e 0)with bp:=(eS R (aP e 0)).bp.set (bH e 1).toNat s}
def dz(R:gx)(e:gq):Kd->gx
 |.fp=>R
 |.line=>{R with lines:=R.lines++[⟨aP e 0,bH e 1,false⟩] }
 |.tape=>{R with aJ:=R.aJ++[⟨aP e 0,bH e 0+bH e 1⟩] }
 |.gA=>{R with aj:=R.aj++[⟨aP e 0,aP e 1,[aP e 2]⟩] }
 |.copy=>{R with aj:=R.aj.map (kD (aP e 0) (aP e 1)) }
 |.accept=>{R with lines:=R.lines.set (aZ (gP R) (aP e 0)) {dO R (aP e 0)with acc:=true} }
 |.source=>{R with aD:=R.aD++[⟨aP e 0,dS,aP e 1,[]⟩] }
 |.fY=>{R with aD:=R.aD++[⟨aP e 0,jN (bH e 1),[],e.names.drop 1⟩] }
 |.merge=>{R with aD:=R.aD++[⟨aP e 0,(gS R (aP e 1)).gives,[],e.names.drop 1⟩] }
 |.run=>{R with aG:=R.aG++[⟨aP e 0,aP e 1,List.replicate (bH e 1).toNat (-1)⟩] }
 |.fX=>{R with aG:=mT R e (bH e 2) }
 |.fail=>{R with aG:=mT R e (-1) }
 |.gB=>{R with aO:=R.aO++[⟨aP e 0,aP e 1,ga (eS R (aP e 1)).bp,false⟩] }
 |.rel=>{R with aO:=R.aO.set (aZ (jg R) (aP e 0)) {gX R (aP e 0)with rel:=true} }
def jr(R:gx)(e:gq)(d:Kd):Int:=if bH e 0<R.tick then 22 else if kX d R e≠0 then kX d R e else bC R e d
def sg(R:gx)(e:gq)(d:Kd):gx:={dz R e d with tick:=bH e 0}
structure kI where
 dt:List gq
 fw:List gq
 cU:List gx
def kI.zero:kI:=⟨[],[],[]⟩
def kI.now(H:kI):gx:=H.cU.getLastD gx.zero
def pv(e:gq):Kd:=(gT e.kind).getD .fp
def ke(H:kI)(e:gq):Int:=
 if e.num≠(H.dt.length:Int)+1 then 11 else
 if pv e=.fp then
  (match H.fw.getLast? with
  |none=>12
  |some c=>if pv c=.rel then 21 else 0)
 else jr H.now e (pv e)
def nC(H:kI)(e:gq):kI:=
 if pv e=.fp then⟨H.dt++[e],H.fw.dropLast,H.cU.dropLast⟩
 else⟨H.dt++[e],H.fw++[e],H.cU++[sg H.now e (pv e)]⟩
def fU(H:kI)(e:gq):Int:=if gV e≠0 then gV e else ke H e
def rZ(H:kI):List gq->Nat->kI×Int×Int
 |[],_=>(H,0,0)
 |e::l,i=>if fU H e≠0 then(kI.zero,(i:Int)+1,fU H e)else rZ (nC H e) l (i+1)
def cj(l:List gq):kI×Int×Int:=if 1000<l.length then(kI.zero,0,5)else rZ kI.zero l 0
def cM{l n}(h:n∈l):aZ l n<l.length:=
 List.findIdx_lt_length_of_exists ⟨n,h,Si⟩
def rj{l n}(h:n∈l):l[aZ l n]'(cM h)=n:=by
 have:=List.findIdx_getElem (p:=λx=>decide (x=n)) (xs:=l) (w:=cM h);exact Zb this
def cV{α:Type}{f:α->By}{l:List α}{n:By}{d:α}(h:n∈l.map f):rE f l n d=l[aZ (l.map f) n]'(by simpa using cM h):=by
 have:aZ (l.map f) n<l.length:=by simpa using cM h
 rw[rE,YC,XY this];rfl
def gI{α:Type}{f:α->By}{l:List α}{n:By}{d:α}(h:n∈l.map f):rE f l n d∈l:=by
 rw[cV h];exact Ya _
def iu{α:Type}{f:α->By}{l:List α}{n:By}{d:α}(h:n∈l.map f):f (rE f l n d)=n:=by
 rw[cV h];have:=rj h;rw[Y7]at this;exact this
def ug{α:Type}{f:α->By}{l:List α}{x d:α}(hn:(l.map f).Nodup)(h:x∈l):rE f l (f x) d=x:=by
 have hm:f x∈l.map f:=Ym h;obtain⟨i,hi,rfl⟩:=Z2 h;rw[cV hm];have h1:=rj hm;have h2:(l.map f)[i]'(by simpa using hi)=f l[i]:=Y7 ..;have:=(List.getElem_inj hn).1 (h1.trans h2.symm);congr 1
structure pM(l:List (By)):Prop where
 nd:l.Nodup
 nm:∀n∈l,ed n=true
def pM.nil:pM []:=⟨List.nodup_nil,λ_ h=>by cases h⟩
def pM.add{l n}(h:pM l)(hn:ed n=true)(hl:n∉l):pM (l++[n]):=by
 refine⟨List.nodup_append.2 ⟨h.nd,Si,?_⟩,λx hx=>?_⟩
 ·intro a ha b hb e;rw[Yl]at hb;exact hl (hb▸e▸ha)
 ·rcases X3.1 hx with hx|hx
  ·exact h.nm x hx
  ·rw[Yl]at hx;rw[hx];exact hn
structure fk(R:gx):Prop where
 n0:pM (gP R)
 n1:pM (jK R)
 n2:pM (mS R)
 n3:pM (hO R)
 n4:pM (fM R)
 n5:pM (jg R)
 tk:0<=R.tick/\R.tick<=999999999
 l0:R.lines.length<=16
 l1:R.aJ.length<=16
 l2:R.aj.length<=64
 l3:R.aD.length<=32
 l4:R.aG.length<=16
 l5:R.aO.length<=16
 ln:∀x∈R.lines,1<=x.want/\x.want<=64
 tp:∀x∈R.aJ,0<=x.last/\x.last<=999999999
 sh:∀x∈R.aj,x.line∈gP R/\x.aJ≠[]/\x.aJ.Nodup/\∀t∈x.aJ,t∈jK R
 md:∀x∈R.aD,((x.bu=[]/\x.line∈gP R)\/(x.bu≠[]/\x.line=[]))/\x.bu.length<=2/\∀t∈x.bu,t∈hO R
 jb:∀x∈R.aG,x.mod∈hO R/\1<=x.bp.length/\x.bp.length<=32/\∀s∈x.bp,-1<=s/\s<=999999999
 pc:∀x∈R.aO,x.yQ∈fM R/\0<=x.nq/\x.nq<16777213
theorem fk.zero:fk gx.zero:=by
 refine⟨.nil,.nil,.nil,.nil,.nil,.nil,De,De,De,De,De,De,De,?_,?_,?_,?_,?_,?_⟩
 all_goals intro x hx;cases hx
structure kT(e:gq)(d:Kd):Prop where
 kd:gT e.kind=some d
 nu:1<=e.num/\e.num<=1000
 nl:e.names.length=(bM d).length
 vl:e.cE.length=cF d
 nm:∀n∈e.names,ed n=true
 vr:∀v∈e.cE,0<=v/\v<=999999999
 tx:e.text=[]
def iw{n lo hi}(h:¬bE n lo hi≠0):lo<=n/\n<=hi:=by
 unfold bE at h;split at h
 ·exact absurd De h
 ·omega
def xZ{e}(h:gV e=0):∃d,kT e d:=by
 unfold gV at h;split at h
 ·cases h
 case isFalse h0=>
 cases hk:gT e.kind with
 |none=>rw[hk]at h;cases h
 |some d=>
  rw[hk]at h;simp only at h;split at h
  ·cases h
  case isFalse h1=>
  split at h
  ·cases h
  case isFalse h2=>
  split at h
  ·cases h
  case isFalse h3=>
  split at h
  ·cases h
  case isFalse h4=>
  refine⟨d,hk,iw h0,Om,Om,?_,?_,by simpa using h4⟩
  ·intro n hn;cases hc:ed n with
   |true=>rfl
   |false=>exact absurd (ZC.2 ⟨n,hn,by simp[hc]⟩) h2
  ·intro v hv;refine iw λhc=>h3 (ZC.2 ⟨v,hv,by simpa using hc⟩)
def DW{e i}(h:i<e.names.length):aP e i∈e.names:=by
 rw[aP,YC,XY h];exact Ya h
def qu{e i}(h:i<e.cE.length):bH e i∈e.cE:=by
 rw[bH,YC,XY h];exact Ya h
def gE{α:Type}{l m:List α}{x:α}(h:x∈l):x∈l++m:=X3.2 (.inl h)
def ja{α:Type}{p:α->Prop}{l:List α}{y:α}(h:∀x∈l,p x)(hy:p y):∀x∈l++[y],p x:=by
 intro x hx;rcases X3.1 hx with hx|hx
 ·exact h x hx
 ·rw[Yl]at hx;rw[hx];exact hy
def qE{α:Type}{p:α->Prop}{l:List α}{y:α}{i:Nat}(h:∀x∈l,p x)(hy:p y):∀x∈l.set i y,p x:=by
 intro x hx;rcases ZG hx with hx|hx
 ·exact h x hx
 ·rw[hx];exact hy
def map_set{α:Type}{f:α->By}{l:List α}{n:By}{d y:α}(hn:n∈l.map f)(hy:f y=n):(l.set (aZ (l.map f) n) y).map f=l.map f:=by
 rw[Z1];have:=rj hn;rw[hy]
 conv=>lhs;arg 3;rw[<-this]
 exact List.set_getElem_self _
structure sI(R:gx)(e:gq)(d:Kd):Prop where
 kn:∀i t,(bM d)[i]? =some (t,true)->aP e i∈IQ R t
 fr:∀i t,(bM d)[i]? =some (t,false)->aP e i∉IQ R t
theorem AY{R e}:∀{l}{i},mO R e l i=false->∀j t,l[j]? =some (t,true)->aP e (i+j)∈IQ R t
 |[],i,_,j,t,h=>by simp at h
 |r::l,i,h,j,t,hj=>by
  rw[mO,Bool.or_eq_false_iff]at h;cases j with
  |zero=>
   simp only[Y8,Yq]at hj;subst hj;have:=h.1;simp only[Zw,Bool.not_eq_false',dw,YG]at this;exact this
  |succ j=>
   simp only[Zh]at hj;have:=AY h.2 j t hj
   rwa [Nat.add_assoc,Nat.add_comm 1 j]at this
theorem Bb{R e}:∀{l}{i},qQ R e l i=false->∀j t,l[j]? =some (t,false)->aP e (i+j)∉IQ R t
 |[],i,_,j,t,h=>by simp at h
 |r::l,i,h,j,t,hj=>by
  rw[qQ,Bool.or_eq_false_iff]at h;cases j with
  |zero=>
   simp only[Y8,Yq]at hj;subst hj;have:=h.1;simp only[Yr,Zw,dw,ZK]at this;exact this
  |succ j=>
   simp only[Zh]at hj;have:=Bb h.2 j t hj
   rwa [Nat.add_assoc,Nat.add_comm 1 j]at this
def yJ{R e d}(h:kX d R e=0):sI R e d:=by
 unfold kX at h;split at h
 ·cases h
 case isFalse h1=>
 split at h
 ·cases h
 case isFalse h2=>
 refine⟨λi t hi=>?_,λi t hi=>?_⟩
 ·have:=AY (by simpa using h1) i t hi;rwa [YJ]at this
 ·have:=Bb (by simpa using h2) i t hi;rwa [YJ]at this
def Ag(x s:Int)(hx:0<=x)(hs:0<=s):0<=(257*x+s).tmod 16777213/\(257*x+s).tmod 16777213<16777213:=by
 rw[Int.tmod_eq_emod_of_nonneg Om];omega
theorem wj:∀(l:List Int) (x:Int),(∀s∈l,0<=s)->0<=x->x<16777213->0<=l.foldl (λx s=>(257*x+s).tmod 16777213) x/\l.foldl (λx s=>(257*x+s).tmod 16777213) x<16777213
 |[],x,_,h1,h2=>⟨h1,h2⟩
 |s::l,x,hs,h1,h2=>by
  have:=Ag x s h1 (hs s Si);exact wj l _ (λt ht=>hs t (YB _ ht)) this.1 this.2
def En{l}(hs:∀s∈l,0<=s):0<=ga l/\ga l<16777213:=wj l 1 hs De De
theorem ti:∀{l}{i},cJ l i=[]->∀s∈l,0<=s
 |[],_,_,s,hs=>by cases hs
 |x::r,i,h,s,hs=>by
  rw[cJ]at h;split at h
  ·cases h
  ·rcases YA.1 hs with rfl|hs
   ·omega
   ·exact ti h s hs
theorem fk.tick{R}(w:fk R){t}(h:0<=t/\t<=999999999):fk {R with tick:=t}:={w with tk:=h}
section
variable {R:gx}{e:gq}(w:fk R)
include w
theorem fk.Ld{n}(hn:n∈fM R):eS R n∈R.aG/\(eS R n).name=n:=⟨gI hn,iu hn⟩
def fk.FO(s:Int)(hn:aP e 0∈fM R)(hs:-1<=s/\s<=999999999):fk {R with aG:=mT R e s}:=by
 have hj:=w.Ld hn;have hm:List.map jv.name (mT R e s)=fM R:=map_set (d:=tU) hn hj.2;refine {w with n4:=?_,l4:=?_,jb:=?_,pc:=?_}
 ·show pM (List.map jv.name (mT R e s));rw[hm];exact w.n4
 ·show(mT R e s).length<=16;rw[mT,YD];exact w.l4
 ·refine qE (λx hx=>w.jb x hx) ?_;have:=w.jb _ hj.1;refine⟨this.1,?_,?_,qE this.2.2.2 hs⟩
  ·show 1<=(List.set _ _ _).length;rw[YD];exact this.2.1
  ·show(List.set _ _ _).length<=32;rw[YD];exact this.2.2.1
 ·intro x hx;have:=w.pc x hx;exact⟨by show x.yQ∈List.map jv.name (mT R e s);rw[hm];exact this.1,this.2⟩
def fk.act{d:Kd}(he:kT e d)(hk:sI R e d)(hc:bC R e d=0):fk (dz R e d):=by
 have gn:∀i,i<(bM d).length->ed (aP e i)=true:=λi hi=>he.nm _ (DW (by rw[he.nl];exact hi))
 have gv:∀i,i<cF d->0<=bH e i/\bH e i<=999999999:=λi hi=>he.vr _ (qu (by rw[he.vl];exact hi))
 cases d with
 |fp=>exact w
 |line=>
  have f0:aP e 0∉gP R:=hk.fr 0 0 rfl;rw[bC]at hc;split at hc
  ·cases hc
  case isFalse h1=>
  split at hc
  ·cases hc
  case isFalse h2=>
  have h1:=iw h1;have em:gP (dz R e .line)=gP R++[aP e 0]:=X4;refine {w with n0:=?_,l0:=?_,ln:=?_,sh:=?_,md:=?_}
  ·rw[em];exact w.n0.add (gn 0 De) f0
  ·show(R.lines++[_]).length<=16;rw[XS,Yn];omega
  ·exact ja w.ln h1
  ·intro x hx;have:=w.sh x hx;exact⟨by rw[em];exact gE this.1,this.2⟩
  ·intro x hx;obtain⟨h3,h4⟩:=w.md x hx;refine⟨?_,h4⟩;rcases h3 with h3|h3
   ·exact .inl ⟨h3.1,by rw[em];exact gE h3.2⟩
   ·exact .inr h3
 |tape=>
  have f0:aP e 0∉jK R:=hk.fr 0 1 rfl;have v0:=gv 0 De;have v1:=gv 1 De;rw[bC]at hc;split at hc
  ·cases hc
  case isFalse h1=>
  split at hc
  ·cases hc
  case isFalse h2=>
  have em:jK (dz R e .tape)=jK R++[aP e 0]:=X4;refine {w with n1:=?_,l1:=?_,tp:=?_,sh:=?_}
  ·rw[em];exact w.n1.add (gn 0 De) f0
  ·show(R.aJ++[_]).length<=16;rw[XS,Yn];omega
  ·exact ja w.tp (by show 0<=bH e 0+bH e 1/\bH e 0+bH e 1<=999999999;omega)
  ·intro x hx;obtain⟨h3,h4,h5,h6⟩:=w.sh x hx;exact⟨h3,h4,h5,λt ht=>by rw[em];exact gE (h6 t ht)⟩
 |gA=>
  have f0:aP e 0∉mS R:=hk.fr 0 2 rfl;have k1:aP e 1∈gP R:=hk.kn 1 0 rfl;have k2:aP e 2∈jK R:=hk.kn 2 1 rfl;rw[bC]at hc;split at hc
  ·cases hc
  split at hc
  ·cases hc
  split at hc
  ·cases hc
  case isFalse h2=>
  have em:mS (dz R e .gA)=mS R++[aP e 0]:=X4;refine {w with n2:=?_,l2:=?_,sh:=?_}
  ·rw[em];exact w.n2.add (gn 0 De) f0
  ·show(R.aj++[_]).length<=64;rw[XS,Yn];omega
  ·refine ja w.sh ⟨k1,Si,Si,λt ht=>?_⟩;rw[Yl]at ht;rw[ht];exact k2
 |copy=>
  have k1:aP e 1∈jK R:=hk.kn 1 1 rfl;have en:∀x,(kD (aP e 0) (aP e 1) x).name=x.name:=λx=>by unfold kD;split<;>rfl
  have el:∀x,(kD (aP e 0) (aP e 1) x).line=x.line:=λx=>by unfold kD;split<;>rfl
  have em:mS (dz R e .copy)=mS R:=by
   show List.map _ (List.map _ _)=_;rw[ZD];exact List.map_congr_left λx _=>en x
  refine {w with n2:=?_,l2:=?_,sh:=?_}
  ·rw[em];exact w.n2
  ·show(List.map _ _).length<=64;rw[X2];exact w.l2
  ·intro y hy;obtain⟨x,hx,rfl⟩:=Ys.1 (show y∈List.map _ R.aj from hy);obtain⟨h1,h2,h3,h4⟩:=w.sh x hx;rw[el];refine⟨h1,?_⟩;unfold kD;split
   case isFalse=>exact⟨h2,h3,h4⟩
   case isTrue h5=>
    refine⟨Si,?_,ja h4 k1⟩;refine List.nodup_append.2 ⟨h3,Si,λa ha b hb eq=>?_⟩;rw[Yl]at hb;exact h5.2 (hb▸eq▸ha)
 |accept=>
  have k0:aP e 0∈gP R:=hk.kn 0 0 rfl;have em:gP (dz R e .accept)=gP R:=map_set (d:=BY) k0 (iu k0);refine {w with n0:=?_,l0:=?_,ln:=?_,sh:=?_,md:=?_}
  ·rw[em];exact w.n0
  ·show(List.set _ _ _).length<=16;rw[YD];exact w.l0
  ·exact qE w.ln (w.ln (dO R (aP e 0)) (gI k0))
  ·intro x hx;have:=w.sh x hx;exact⟨by rw[em];exact this.1,this.2⟩
  ·intro x hx;obtain⟨h3,h4⟩:=w.md x hx;refine⟨?_,h4⟩;rcases h3 with h3|h3
   ·exact .inl ⟨h3.1,by rw[em];exact h3.2⟩
   ·exact .inr h3
 |source=>
  have f0:aP e 0∉hO R:=hk.fr 0 3 rfl;have k1:aP e 1∈gP R:=hk.kn 1 0 rfl;rw[bC]at hc;split at hc
  ·cases hc
  case isFalse h2=>
  have em:hO (dz R e .source)=hO R++[aP e 0]:=X4;refine {w with n3:=?_,l3:=?_,md:=?_,jb:=?_}
  ·exact Gz
  ·exact MD
  ·refine ja (λx hx=>?_) ⟨.inl ⟨rfl,k1⟩,Yt _,λt ht=>by cases ht⟩;exact z72
  ·intro x hx;have:=w.jb x hx;exact⟨by rw[em];exact gE this.1,this.2⟩
 |fY=>
  have f0:aP e 0∉hO R:=hk.fr 0 3 rfl;have k1:aP e 1∈hO R:=hk.kn 1 3 rfl;have hl:e.names.length=2:=he.nl;have hdr:e.names.drop 1=[aP e 1]:=by
   match hn:e.names,hl with
   |[a,b],_=>simp[aP,hn]
  rw[bC]at hc;split at hc
  ·cases hc
  split at hc
  ·cases hc
  split at hc
  ·cases hc
  case isFalse h2=>
  have em:hO (dz R e .fY)=hO R++[aP e 0]:=X4;refine {w with n3:=?_,l3:=?_,md:=?_,jb:=?_}
  ·exact Gz
  ·exact MD
  ·refine ja (λx hx=>?_) ?_
   ·exact z72
   ·simp only[hdr];exact⟨.inr Si,Si,λt ht=>by rw[Yl]at ht;rw[ht,em];exact gE k1⟩
  ·intro x hx;have:=w.jb x hx;exact⟨by rw[em];exact gE this.1,this.2⟩
 |merge=>
  have f0:aP e 0∉hO R:=hk.fr 0 3 rfl;have k1:aP e 1∈hO R:=hk.kn 1 3 rfl;have k2:aP e 2∈hO R:=hk.kn 2 3 rfl;have hl:e.names.length=3:=he.nl;have hdr:e.names.drop 1=[aP e 1,aP e 2]:=by
   match hn:e.names,hl with
   |[a,b,c],_=>simp[aP,hn]
  rw[bC]at hc;split at hc
  ·cases hc
  split at hc
  ·cases hc
  split at hc
  ·cases hc
  case isFalse h2=>
  have em:hO (dz R e .merge)=hO R++[aP e 0]:=X4;refine {w with n3:=?_,l3:=?_,md:=?_,jb:=?_}
  ·exact Gz
  ·exact MD
  ·refine ja (λx hx=>?_) ?_
   ·exact z72
   ·simp only[hdr];refine⟨.inr Si,Si,λt ht=>?_⟩;rw[em];rcases YA.1 ht with ht|ht
    ·rw[ht];exact gE k1
    ·rw[Yl]at ht;rw[ht];exact gE k2
  ·intro x hx;have:=w.jb x hx;exact⟨by rw[em];exact gE this.1,this.2⟩
 |run=>
  have f0:aP e 0∉fM R:=hk.fr 0 4 rfl;have k1:aP e 1∈hO R:=hk.kn 1 3 rfl;rw[bC]at hc;split at hc
  ·cases hc
  split at hc
  ·cases hc
  case isFalse h1=>
  split at hc
  ·cases hc
  case isFalse h2=>
  have h1:=iw h1;have em:fM (dz R e .run)=fM R++[aP e 0]:=X4;refine {w with n4:=?_,l4:=?_,jb:=?_,pc:=?_}
  ·rw[em];exact w.n4.add (gn 0 De) f0
  ·show(R.aG++[_]).length<=16;rw[XS,Yn];omega
  ·refine ja w.jb ⟨k1,?_,?_,λs hs=>?_⟩
   ·show 1<=(List.replicate _ _).length;rw[Y6];omega
   ·show(List.replicate _ _).length<=32;rw[Y6];omega
   ·rw[(List.mem_replicate.1 hs).2];decide
  ·intro x hx;have:=w.pc x hx;exact⟨by rw[em];exact gE this.1,this.2⟩
 |fX=>exact w.FO _ (hk.kn 0 4 rfl) (by have:=gv 2 De;omega)
 |fail=>exact w.FO _ (hk.kn 0 4 rfl) De
 |gB=>
  have f0:aP e 0∉jg R:=hk.fr 0 5 rfl;have k1:aP e 1∈fM R:=hk.kn 1 4 rfl;rw[bC]at hc;split at hc
  ·cases hc
  split at hc
  ·cases hc
  case isFalse h1=>
  split at hc
  ·cases hc
  case isFalse h2=>
  have em:jg (dz R e .gB)=jg R++[aP e 0]:=X4;refine {w with n5:=?_,l5:=?_,pc:=?_}
  ·rw[em];exact w.n5.add (gn 0 De) f0
  ·show(R.aO++[_]).length<=16;rw[XS,Yn];omega
  ·exact ja w.pc ⟨k1,En (ti (Classical.not_not.1 h1))⟩
 |rel=>
  have k0:aP e 0∈jg R:=hk.kn 0 5 rfl;have em:jg (dz R e .rel)=jg R:=map_set (d:=Hd) k0 (iu k0);refine {w with n5:=?_,l5:=?_,pc:=?_}
  ·rw[em];exact w.n5
  ·show(List.set _ _ _).length<=16;rw[YD];exact w.l5
  ·exact qE w.pc (w.pc (gX R (aP e 0)) (gI k0))
def fk.step{d}(he:kT e d)(hd:d≠.fp)(h:jr R e d=0):fk (sg R e d):=by
 unfold jr at h;split at h
 ·cases h
 split at h
 case isTrue h1=>exact absurd h h1
 case isFalse h1=>
 have h1:=Classical.not_not.1 h1;refine(w.act he (yJ h1) h).tick (he.vr _ (qu ?_));rw[he.vl];cases d<;>first|exact absurd rfl hd|decide
end
def cP{α:Type}(p:α->Bool)(L:List α):Int:=
 match L.findIdx? p with
 |some i=>(i:Int)
 |none=>-1
def n7{α:Type}(p:α->Bool)(L:List α):decide (0<=cP p L)=L.any p:=by
 unfold cP;cases hx:L.findIdx? p with
 |none=>
  simp only[List.findIdx?_eq_none_iff]at hx;have:L.any p=false:=by rw[List.any_eq_false];intro x QV;simp[hx x QV]
  rw[this];rfl
 |some i=>
  have h1:=List.findIdx?_isSome (xs:=L) (p:=p);rw[hx]at h1;rw[<-h1];simp
def ao(x:By):List AV:=[.str x]
def cB(x:gN):List AV:=[.str x.name,.i x.want,.bool x.acc]
def dV(x:rW):List AV:=[.str x.name,.i x.last]
def bn(x:jP×AV):List AV:=[.str x.1.name,.str x.1.line,x.2]
def aV(x:gy×AV):List AV:=[.str x.1.name,.str x.1.gives,.str x.1.line,x.2]
def bK(x:jv×AV):List AV:=[.str x.1.name,.str x.1.mod,x.2]
def dm(x:nE):List AV:=[.str x.name,.str x.yQ,.i x.nq,.bool x.rel]
structure RV where
 tick:Int
 lines:List gN
 aJ:List rW
 aj:List (jP×AV)
 aD:List (gy×AV)
 aG:List (jv×AV)
 aO:List nE
 s0:AV
 s1:AV
 s2:AV
 s3:AV
 s4:AV
 s5:AV
def RV.an(V:RV):gx:=⟨V.tick,V.lines,V.aJ,V.aj.map Prod.fst,V.aD.map Prod.fst,V.aG.map Prod.fst,V.aO⟩
def RV.row(V:RV):List AV:=[.i V.tick,V.s0,V.s1,V.s2,V.s3,V.s4,V.s5]
def RV.zero:RV:=⟨0,[],[],[],[],[],[],.af,.af,.af,.af,.af,.af⟩
structure aC(h:ah)(V:RV):Prop where
 i0:aH h V.s0 3 (V.lines.map cB)
 i1:aH h V.s1 2 (V.aJ.map dV)
 i2:aH h V.s2 3 (V.aj.map bn)
 i3:aH h V.s3 4 (V.aD.map aV)
 i4:aH h V.s4 3 (V.aG.map bK)
 i5:aH h V.s5 4 (V.aO.map dm)
 e2:∀x∈V.aj,aH h x.2 1 (x.1.aJ.map ao)
 e3:∀x∈V.aD,aH h x.2 1 (x.1.bu.map ao)
 e4:∀x∈V.aG,aH h x.2 1 (x.1.bp.map aK)
theorem aC.ext{h k V}(o:aC h V)(e:Ext h k):aC k V:=
 ⟨o.i0.ext e,o.i1.ext e,o.i2.ext e,o.i3.ext e,o.i4.ext e,o.i5.ext e,λx hx=>(o.e2 x hx).ext e,λx hx=>(o.e3 x hx).ext e,λx hx=>(o.e4 x hx).ext e⟩
theorem aC.zero{h}:aC h RV.zero:=by
 refine⟨.nil,.nil,.nil,.nil,.nil,.nil,?_,?_,?_⟩
 all_goals intro x hx;cases hx
def sB:AV->Option Nat
 |.slice b _ _ _=>some b
 |_=>none
def Nb{v b}(h:sB v=some b):∃o n e,v=.slice b o n e:=by
 cases v with
 |slice b' o n e=>cases h;exact⟨o,n,e,rfl⟩
 |_=>cases h
def Fr.bQ{N h s es cs}(hs:Fr N h s es cs){b}(hb:sB s=some b):N<=b/\b<h.length:=by
 obtain⟨o,n,e,rfl⟩:=Nb hb;exact hs.lt rfl
def Fr.aB{N h k s es cs}(hs:Fr N h s es cs)(hk:∀b,sB s=some b->k[b]? =h[b]?):Fr N k s es cs:=by
 exact z146
def RV.bl(V:RV):List (Option Nat):=[sB V.s0,sB V.s1,sB V.s2,sB V.s3,sB V.s4,sB V.s5]++(V.aj.map λx=>sB x.2)++(V.aD.map λx=>sB x.2)++(V.aG.map λx=>sB x.2)
def lh(l:List (Option Nat)):Prop:=l.Pairwise λx y=>∀b,x=some b->y≠some b
structure cK(N:Nat)(h:ah)(V:RV):Prop where
 i0:Fr N h V.s0 3 (V.lines.map cB)
 i1:Fr N h V.s1 2 (V.aJ.map dV)
 i2:Fr N h V.s2 3 (V.aj.map bn)
 i3:Fr N h V.s3 4 (V.aD.map aV)
 i4:Fr N h V.s4 3 (V.aG.map bK)
 i5:Fr N h V.s5 4 (V.aO.map dm)
 e2:∀x∈V.aj,Fr N h x.2 1 (x.1.aJ.map ao)
 e3:∀x∈V.aD,Fr N h x.2 1 (x.1.bu.map ao)
 e4:∀x∈V.aG,Fr N h x.2 1 (x.1.bp.map aK)
 di:lh V.bl
def cK.ok{N h V}(o:cK N h V):aC h V:=
 ⟨o.i0.a8,o.i1.a8,o.i2.a8,o.i3.a8,o.i4.a8,o.i5.a8,λx hx=>(o.e2 x hx).a8,λx hx=>(o.e3 x hx).a8,λx hx=>(o.e4 x hx).a8⟩
theorem cK.app{N h V}(o:cK N h V)(g:ah):cK N (h++g) V:=
 ⟨o.i0.app g,o.i1.app g,o.i2.app g,o.i3.app g,o.i4.app g,o.i5.app g,λx hx=>(o.e2 x hx).app g,λx hx=>(o.e3 x hx).app g,λx hx=>(o.e4 x hx).app g,o.di⟩
def cK.au{N h k V}(o:cK N h V)(hk:∀b,some b∈V.bl->k[b]? =h[b]?):cK N k V:=by
 have m6:∀x∈[sB V.s0,sB V.s1,sB V.s2,sB V.s3,sB V.s4,sB V.s5],x∈V.bl:=λx hx=>by simp only[RV.bl,X3];exact .inl (.inl (.inl hx))
 refine⟨o.i0.aB λb hb=>hk b (hb▸m6 _ Si),o.i1.aB λb hb=>hk b (hb▸m6 _ Si),o.i2.aB λb hb=>hk b (hb▸m6 _ Si),o.i3.aB λb hb=>hk b (hb▸m6 _ Si),o.i4.aB λb hb=>hk b (hb▸m6 _ Si),o.i5.aB λb hb=>hk b (hb▸m6 _ Si),
  λx hx=>(o.e2 x hx).aB λb hb=>hk b ?_,λx hx=>(o.e3 x hx).aB λb hb=>hk b ?_,λx hx=>(o.e4 x hx).aB λb hb=>hk b ?_,o.di⟩
 ·exact JB
 ·exact Jy
 ·exact Js
structure EV where
 ev:gq
 sn:AV
 sv:AV
def EV.row(x:EV):List AV:=[.i x.ev.num,.str x.ev.kind,x.sn,x.sv,.str x.ev.text]
structure bt(h:ah)(x:EV):Prop where
 n:aH h x.sn 1 (x.ev.names.map ao)
 v:aH h x.sv 1 (x.ev.cE.map aK)
theorem bt.ext{h k x}(o:bt h x)(e:Ext h k):bt k x:=⟨o.n.ext e,o.v.ext e⟩
structure fo(h:ah)(L:List EV)(s:AV):Prop where
 sl:aH h s 5 (L.map EV.row)
 all:∀x∈L,bt h x
theorem fo.ext{h k L s}(o:fo h L s)(e:Ext h k):fo k L s:=⟨o.sl.ext e,λx hx=>(o.all x hx).ext e⟩
end Go.Abs
namespace Go.Abs
inductive Ow (N:Nat) (h:ah):AV->Nat->List (List AV)->Prop
 |nil {es:Nat}:Ow N h .af es []
 |mk {b es:Nat}{cs:List (List AV)}{junk:List AV}(hN:N<=b) (hb:h[b]? =some (.cells (cs.flatten++junk) true true)) (he:∀x∈cs,x.length=es):Ow N h (.slice b 0 cs.length es) es cs
def Ow.a8{N h s es cs}(hs:Ow N h s es cs):aH h s es cs:=by
 cases hs with
 |nil=>exact .nil
 |mk hN hb he=>
  have hl:=eJ he;exact .mk hb (by rw[Zj,<-hl,List.take_left]) (by rw[XS];omega) he
def Ow.bQ{N h s es cs}(hs:Ow N h s es cs){b}(hb:sB s=some b):N<=b/\b<h.length:=by
 cases hs with
 |nil=>cases hb
 |mk hN hb' he=>cases hb;exact⟨hN,(XT.1 hb').1⟩
def Ow.aB{N h k s es cs}(hs:Ow N h s es cs)(hk:∀b,sB s=some b->k[b]? =h[b]?):Ow N k s es cs:=by
 exact z146
def Ow.cut{N h s es cs}(hs:Ow N h s es cs){n:Nat}(hn:n<=cs.length){k}:
  ∃s',AJ es s none (some (.int k (n:Int)))=some (s',.au)/\sB s' =sB s/\Ow N h s' es (cs.take n):=by
 cases hs with
 |nil=>
  have:n=0:=by simpa using hn
  subst this;exact⟨.af,by simp only[AJ,jH (X8 0)],rfl,by rw[List.take_nil];exact .nil⟩
 | @mk b _ _ junk hN hb he=>
  refine⟨.slice b 0 n es,?_,rfl,?_⟩
  ·simp only[AJ,Yf,jH hn,Z0,aao,Nat.sub_zero]
  ·have hl:(cs.take n).length=n:=by rw[YQ];omega
   have hf:cs.flatten++junk=(cs.take n).flatten++((cs.drop n).flatten++junk):=by
    rw[<-XV,<-ZF,Zl]
   rw[hf]at hb;have:=Ow.mk (cs:=cs.take n) hN hb (λx hx=>he x (Y5 hx))
   rwa [hl]at this
section
variable {P:Program}{ro:Option Nat->Prop}{ks:List Kt}{ts:TS}{Q:Ex->TS->ah->Prop}
def WR.Io{h s y es cs ys N w d l}(hs:Ow N h s es cs)(hy:aH h y es ys)(hN:N<=h.length)(hes:0<es)(hne:0<ys.length)(eC:(cs.length+ys.length)*w<=2^46)
  (K:∀h',h'.length=h.length+1->Ow N h' (.slice h.length 0 (cs++ys).length es) es (cs++ys)->(∀b,b<h.length->sB s≠some b->h'[b]? =h[b]?)->WP P ro l ks (put ts d (.slice h.length 0 (cs++ys).length es)) h' Q):
  WR P ro (pF es w s y (λb=>h[b]?) h.length) false d l ks ts h Q:=by
 have SG:∀x∈cs++ys,x.length=es:=λx hx=>by
  exact z143
 have hk:¬ys.length=0:=Om
 simp only[pF,hy.ff];have mk:∀h1:ah,h1.length=h.length->Ow N (h1++[.cells (cs++ys).flatten true true]) (.slice h.length 0 (cs++ys).length es) es (cs++ys):=by
  intro h1 h1l;refine Ow.mk (junk:=[]) hN ?_ SG;rw[Yo,<-h1l];exact bh
 cases hs with
 |nil=>
  simp only[X1,YJ]at eC;simp only[X5 hk,X9 eC];rw[mC];have hK:=K (h++[.cells ys.flatten true true]) Si (mk h rfl) (λb hb _=>XW hb);exact hK
 | @mk b _ _ junk hbN hb hre=>
  have hcl:=eJ hre;simp only[Yf,X5 hk,X9 eC,hb,YJ];rw[X9 (by rw[XS];omega),nD];have hbl:b<h.length:=(XT.1 hb).1;have hc:List.take (cs.length*es) (List.drop 0 (cs.flatten++junk))=cs.flatten:=by rw[Zj,<-hcl,List.take_left]
  rw[hc];have hK:=K (h.set b .dead++[.cells (cs++ys).flatten true true]) Si (mk _ Si) (λi hi hne=>by
   have:b≠i:=λe=>hne (by rw[<-e];rfl)
   rw[XW (by simpa using hi),Yc this])
  simp only[ZF,XS]at hK ⊢;exact hK
end
def fL(ex:List (Option Nat))(h:ah):ah:=h.mapIdx λb k=>if some b∈ex then .dead else k
def tY{ex h b}(hb:some b∉ex):(fL ex h)[b]? =h[b]? :=by
 rw[fL,List.getElem?_mapIdx];cases h[b]? with
 |none=>rfl
 |some k=>simp[hb]
def rn{ex h b c mu tl}(hb:(fL ex h)[b]? =some (.cells c mu tl)):some b∉ex/\h[b]? =some (.cells c mu tl):=by
 rw[fL,List.getElem?_mapIdx]at hb;cases hk:h[b]? with
 |none=>rw[hk]at hb;cases hb
 |some k=>
  rw[hk]at hb;simp only[ZP,Yq]at hb;split at hb
  ·cases hb
  case isFalse h1=>exact⟨h1,by rw[hb]⟩
def jt(k h:ah):Prop:=∀(b:Nat) (c:List AV) (mu tl:Bool),k[b]? =some (ak.cells c mu tl)->h[b]? =some (ak.cells c mu tl)
def aH.sub{k h s es cs}(o:aH k s es cs)(e:jt k h):aH h s es cs:=by
 cases o with
 |nil=>exact .nil
 |mk hb hf ho he=>exact .mk (e _ _ _ _ hb) hf ho he
theorem aC.sub{k h V}(o:aC k V)(e:jt k h):aC h V:=
 ⟨o.i0.sub e,o.i1.sub e,o.i2.sub e,o.i3.sub e,o.i4.sub e,o.i5.sub e,λx hx=>(o.e2 x hx).sub e,λx hx=>(o.e3 x hx).sub e,λx hx=>(o.e4 x hx).sub e⟩
theorem bt.sub{k h x}(o:bt k x)(e:jt k h):bt h x:=⟨o.n.sub e,o.v.sub e⟩
theorem jt.fL(ex:List (Option Nat))(h:ah):jt (fL ex h) h:=λ_ _ _ _ hb=>(rn hb).2
theorem aH.fL{h s es cs}(o:aH h s es cs){ex}(hx:∀b,sB s=some b->some b∉ex):aH (Go.Abs.fL ex h) s es cs:=by
 cases o with
 |nil=>exact .nil
 |mk hb hf ho he=>exact .mk ((tY (hx _ rfl)).trans hb) hf ho he
def aC.au{h k V}(o:aC h V)(hk:∀b,some b∈V.bl->k[b]? =h[b]?):aC k V:=by
 have m6:∀x∈[sB V.s0,sB V.s1,sB V.s2,sB V.s3,sB V.s4,sB V.s5],x∈V.bl:=λx hx=>by simp only[RV.bl,X3];exact .inl (.inl (.inl hx))
 have kp:∀{s:AV}{es:Nat}{cs:List (List AV)},aH h s es cs->(∀b,sB s=some b->k[b]? =h[b]?)->aH k s es cs:=λ{s es cs} hs hb=>by
  cases hs with
  |nil=>exact .nil
  |mk h1 h2 h3 h4=>exact .mk ((hb _ rfl).trans h1) h2 h3 h4
 refine⟨kp o.i0 λb hb=>hk b (hb▸m6 _ Si),kp o.i1 λb hb=>hk b (hb▸m6 _ Si),kp o.i2 λb hb=>hk b (hb▸m6 _ Si),kp o.i3 λb hb=>hk b (hb▸m6 _ Si),kp o.i4 λb hb=>hk b (hb▸m6 _ Si),kp o.i5 λb hb=>hk b (hb▸m6 _ Si),
  λx hx=>kp (o.e2 x hx) λb hb=>hk b ?_,λx hx=>kp (o.e3 x hx) λb hb=>hk b ?_,λx hx=>kp (o.e4 x hx) λb hb=>hk b ?_⟩
 ·exact JB
 ·exact Jy
 ·exact Js
structure HV where
 dt:List EV
 fw:List EV
 cU:List RV
 se:AV
 sc:AV
 sr:AV
def HV.bW(V:HV):kI:=⟨V.dt.map EV.ev,V.fw.map EV.ev,V.cU.map RV.an⟩
def HV.ex(b:Nat)(V:HV):List (Option Nat):=[some b,sB V.se,sB V.sc,sB V.sr]
structure cI(N:Nat)(h:ah)(b:Nat)(V:HV):Prop where
 hN:N<=b
 hb:h[b]? =some (.b [V.se,V.sc,V.sr])
 oe:Ow N h V.se 5 (V.dt.map EV.row)
 oc:Ow N h V.sc 5 (V.fw.map EV.row)
 og:Ow N h V.sr 7 (V.cU.map RV.row)
 di:lh (V.ex b)
 ae:∀x∈V.dt,bt (fL (V.ex b) h) x
 ac:∀x∈V.fw,bt (fL (V.ex b) h) x
 ag:∀x∈V.cU,aC (fL (V.ex b) h) x
 lo:∀x∈V.cU,∀j,some j∈x.bl->N<=j
def nI{ex ex' h h'}(hk:∀b,b<h.length->some b∉ex->h'[b]? =h[b]?)(he:∀b,b<h.length->some b∈ex'->some b∈ex):jt (fL ex h) (fL ex' h'):=by
 intro b c mu tl hb;obtain⟨h1,h2⟩:=rn hb;have hlt:b<h.length:=(XT.1 h2).1;rw[tY λh3=>h1 (he b hlt h3),hk b hlt h1,h2]
def cI.app{N h b V}(o:cI N h b V)(g:ah):cI N (h++g) b V:=by
 have hs:jt (fL (V.ex b) h) (fL (V.ex b) (h++g)):=nI (λb hb _=>XW hb) (λb _ hb=>hb);have hbl:=(XT.1 o.hb).1;exact⟨o.hN,(XW hbl).trans o.hb,o.oe.aB λb hb=>XW (o.oe.bQ hb).2,o.oc.aB λb hb=>XW (o.oc.bQ hb).2,o.og.aB λb hb=>XW (o.og.bQ hb).2,o.di,
  λx hx=>(o.ae x hx).sub hs,λx hx=>(o.ac x hx).sub hs,λx hx=>(o.ag x hx).sub hs,o.lo⟩
end Go.Abs
namespace Go.Abs
def j5:By->Bool
 |[]=>true
 |c::r=>fW c&&r.all jT
def tg(s:By):ed s=(decide (s≠[])&&decide (s.length<=24)&&j5 s):=by
 cases s with
 |nil=>rfl
 |cons c r=>
  have:(r.length<24)=((c::r).length<=24):=by simp;omega
  simp only[ed,j5,this];simp[Bool.and_assoc]
def Ac{s:By}{k:Nat}(hk:k<s.length):j5 (s.take (k+1))=(j5 (s.take k)&&(if k=0 then fW s[k]else jT s[k])):=by
 cases s with
 |nil=>simp at hk
 |cons c r=>
  cases k with
  |zero=>simp[j5]
  |succ k=>
   have hk':k<r.length:=by simpa using hk
   simp only[ZO,j5,List.getElem_cons_succ];rw[YF,XY hk',Option.toList_some];rw[List.all_append,Zv,List.all_nil,Bool.and_true,Bool.and_assoc,X5 Om]
def Ab{s k}(h:j5 (s.take k)=false):j5 s=false:=by
 cases s with
 |nil=>simp[j5]at h
 |cons c r=>
  cases k with
  |zero=>simp[j5]at h
  |succ k=>
   simp only[ZO,j5,Bool.and_eq_false_iff]at h ⊢;rcases h with h|h
   ·exact .inl h
   ·right
    rw[List.all_eq_false]at h ⊢;obtain⟨x,hx,hr⟩:=h;exact⟨x,Y5 hx,hr⟩
def dec_lt{s i}(hi:i<s.length)(h:s[i].toNat<128):Utf8.decode ⟨⟨s⟩⟩ i=(s[i].toNat,1):=by
 have hg:(ByteArray.get! ⟨⟨s⟩⟩ i).toNat=s[i].toNat:=by
  simp[ByteArray.get!,hi]
 simp only[Utf8.decode,aao,hg,X9 h]
def H7{s i}(hi:i<s.length)(h:128<=s[i].toNat):128<=(Utf8.decode ⟨⟨s⟩⟩ i).1:=by
 have hg:(ByteArray.get! ⟨⟨s⟩⟩ i).toNat=s[i].toNat:=by
  simp[ByteArray.get!,hi]
 simp only[Utf8.decode,aao,hg];rw[X5 Om];simp only[Utf8.runeError]
 repeat' split
 all_goals first
  |(simp only;omega)
  |(simp only[Yv,YG]at *;omega)
section
variable {P:Program}(T:fI P) {h:ah}
include T
def r85(c:Bool)(e:Int):ay P 85 [.bool c,.i e] h (λv _=>v=.i (bZ c e)):=by
 refine .of T.mix T.c85 ?_;unfold fn85 Dk;simp only[uset];cases c<;>simp only[aQ]<;>rfl
def r82(c:Bool)(e:Int):ay P 82 [.bool c,.i e] h (λv _=>v=.i (bZ c e)):=by
 refine .of T.mix T.c82 ?_;unfold fn82 Dk;simp only[uset];cases c<;>simp only[aQ]<;>rfl
def r94(n lo hi:Int):ay P 94 [.i n,.i lo,.i hi] h (λv _=>v=.i (bE n lo hi)):=by
 refine .of T.mix T.c94 ?_;unfold fn94;simp only[uset];simp+contextual only[aQ,mN,Yi,Yp];refine⟨λh1=>?_,λh1=>?_⟩<;>
 ·refine WF.res T.c85 (r85 T _ _) ?_;rintro _ g rfl;simp only[aQ];simp[bZ,bE,h1]
def r74{s l}(hs:aH h s 1 (l.map aK))(hl:l.length<2^63):ay P 74 [s] h (λv _=>v=.i (bj l)):=by
 refine .of T.mix T.c74 ?_;unfold fn74;simp only[uset];have e1:(l.map aK).length=l.length:=Si
 simp only[aQ,hs.iV,e1];refine WL.inv T.mix (λn ts h'=>∃k:Nat,k<=l.length/\n=l.length-k/\h' =h/\bj l=bj (l.drop k)/\ts.length=15/\slot ts 5=s/\slot ts 6=.i l.length/\slot ts 7=.i k) l.length
  ⟨0,Om,rfl,rfl,rfl,rfl,rfl,rfl,rfl⟩ ?_
 rintro _ ts _ ⟨k,hk,rfl,rfl,hf,hlen,h5,h6,h7⟩;rw[k8 ts 15 hlen];by_cases hlt:k<l.length
 ·have hd:l.drop k=l[k]::l.drop (k+1):=Si
  have e2:(l.map aK)[k]'Om=[AV.i l[k]]:=Si
  have e3:(k:Int)<l.length:=Om
  simp+contextual (disch:=omega) only[aQ,mN,h5,h6,h7,e3,Yi,hs.bf,Int.toNat_natCast,hs.FZ _ e2,bw];exact PI
 ·have e3:¬(k:Int)<l.length:=Om
  have e4:k=l.length:=Om
  simp+contextual (disch:=omega) only[aQ,h5,h6,h7,e3,Yp,Yf];rw[hf,e4,YS];rfl
def r83{s l}(hs:aH h s 1 (l.map aK))(hl:l.length<2^63):ay P 83 [s] h (λv _=>v=.i (bj l)):=by
 refine .of T.mix T.c83 ?_;unfold fn83;simp only[uset];have e1:(l.map aK).length=l.length:=Si
 simp only[aQ,hs.iV,e1];refine WL.inv T.mix (λn ts h'=>∃k:Nat,k<=l.length/\n=l.length-k/\h' =h/\bj l=bj (l.drop k)/\ts.length=19/\slot ts 0=s/\slot ts 3=.i k) l.length
  ⟨0,Om,rfl,rfl,rfl,rfl,rfl,rfl⟩ ?_
 rintro _ ts _ ⟨k,hk,rfl,rfl,hf,hlen,h0,h3⟩;rw[k8 ts 19 hlen];by_cases hlt:k<l.length
 ·have hd:l.drop k=l[k]::l.drop (k+1):=Si
  have e2:(l.map aK)[k]'Om=[AV.i l[k]]:=Si
  have e3:(k:Int)<l.length:=Om
  simp+contextual (disch:=omega) only[aQ,mN,h0,h3,e3,e1,Yi,hs.iV,hs.bf,Int.toNat_natCast,hs.FZ _ e2,bw];exact PI
 ·have e3:¬(k:Int)<l.length:=Om
  have e4:k=l.length:=Om
  simp+contextual (disch:=omega) only[aQ,h0,h3,e1,e3,Yp,hs.iV,Yf];rw[hf,e4,YS];rfl
def r193(c:UInt8):ay P 193 [.int .u8 c.toNat] h (λv _=>v=.bool (fW c)):=by
 refine .of T.mix T.c193 ?_;unfold fn193;simp only[uset];simp+contextual only[aQ,mN,Yi,Yp]
 grind [fW]
def r194(c:UInt8):ay P 194 [.int .u8 c.toNat] h (λv _=>v=.bool (fc c)):=by
 refine .of T.mix T.c194 ?_;unfold fn194;simp only[uset];simp+contextual only[aQ,mN,Yi,Yp]
 grind [fc]
def r102(s:By)(hl:s.length<2^63):ay P 102 [.str s] h (λv _=>v=.bool (ed s)):=by
 refine .of T.mix T.c102 ?_;unfold fn102;simp only[uset];cases s with
 |nil=>
  simp only[aQ,X1];simp only[show((0:Nat):Int)=0 from rfl,Yi,aQ];rfl
 |cons c r=>
  have e1:¬(((c::r).length:Nat):Int)=0:=by simp;omega
  simp+contextual only[aQ,mN,e1,Yi,Yp];refine⟨λh1=>?_,λh1=>?_⟩
  ·have:¬r.length<24:=by simp at h1;omega
   simp[ed,this]
  ·rw[vH];simp only[aQ];refine WF.ce T.c193 (r193 T _) λg=>?_
   have hlt:r.length<24:=by simp at h1;omega
   cases hc:fW c with
   |false=>
    simp only[aQ,Yr];simp[ed,hc]
   |true=>
    simp only[aQ,Yk];have key:ed (c::r)=r.all jT:=by simp[ed,hc,hlt]
    refine WL.inv T.mix (λn ts h'=>∃k:Nat,k<=r.length/\n=r.length-k/\Ext h h'/\r.all jT=(r.drop k).all jT/\ts.length=42/\slot ts 0=.str (c::r)/\slot ts 3=.i (k+1)) r.length
     ⟨0,Om,rfl,⟨_,rfl⟩,rfl,rfl,rfl,rfl⟩ ?_
    rintro _ ts _ ⟨k,hk,rfl,⟨g',rfl⟩,hf,hlen,h0,h3⟩;rw[k8 ts 42 hlen];have hlc:(c::r).length=r.length+1:=rfl;by_cases hlt:k<r.length
    ·have hd:r.drop k=r[k]::r.drop (k+1):=Si
     have e3:(k:Int)+1<((c::r).length:Nat):=Om
     have e4:vI (.str (c::r)) (.i (k+1))=some (.int .u8 r[k].toNat):=jL (s:=c::r) (i:=k+1) Om;simp only[aQ,h0,h3,e3,Yi,e4];refine WF.ce T.c193 (r193 T _) λg1=>?_
     cases hx:fW r[k]with
     |true=>
      simp (disch:=omega) only[aQ,Yk,bw];exact⟨_,Om,k+1,Om,rfl,by rw[hf,hd,Zv,jT,hx,Bool.true_or,Bool.true_or,Zw],rfl⟩
     |false=>
      simp only[aQ,Yr,h0,h3,e4];refine WF.ce T.c194 (r194 T _) λg2=>?_
      cases hy:fc r[k]with
      |true=>
       simp (disch:=omega) only[aQ,Yk,bw];exact⟨_,Om,k+1,Om,rfl,by rw[hf,hd,Zv,jT,hx,hy,Bool.or_true,Bool.true_or,Zw],rfl⟩
      |false=>
       simp+contextual (disch:=omega) only[aQ,mN,Yr,h0,h3,e4,bw];refine⟨λh9=>?_,λh9=>⟨_,Om,k+1,Om,rfl,?_,rfl⟩⟩
       ·rw[key,hf,hd,Zv,jT,hx,hy];simp;omega
       ·rw[hf,hd,Zv,jT,hx,hy];simp;omega
    ·have e3:¬(k:Int)+1<((c::r).length:Nat):=Om
     have e4:k=r.length:=Om
     simp only[aQ,h0,h3,e3,Yp,Yf];rw[key,hf,e4,YS];rfl
def r132(s:By):ay P 132 [.str s] h (λv _=>v=.bool (ed s)):=by
 refine .of T.mix T.c132 ?_;unfold fn132;simp only[uset];simp only[aQ,aT];refine WL.inv T.mix (λn ts h'=>∃k:Nat,k<=s.length/\n=s.length-k/\h' =h++[.iter s k]/\j5 (s.take k)=true/\ts.length=54/\slot ts 0=.str s/\slot ts 8=.ptr h.length 0) s.length
  ⟨0,Om,rfl,rfl,rfl,rfl,rfl,rfl⟩ ?_
 rintro _ ts _ ⟨k,hk,rfl,rfl,hf,hlen,h0,h8⟩;rw[k8 ts 54 hlen];by_cases hlt:k<s.length
 ·have Rw:=Ac hlt;rw[hf,Zw]at Rw;obtain⟨c,w,Te,hcw⟩:∃c w,Utf8.decode ⟨⟨s⟩⟩ k=(c,w)/\(c=s[k].toNat/\w=1\/128<=c/\128<=s[k].toNat):=by
   by_cases hc:s[k].toNat<128
   ·exact⟨_,_,dec_lt hlt hc,.inl ⟨rfl,rfl⟩⟩
   ·exact z193
  have SU:(if k=0 then fW s[k]else jT s[k])=false->AV.bool false=AV.bool (ed s):=λhb=>by
   rw[hb]at Rw;rw[tg,Ab Rw,Bool.and_false]
  have Wl:∀w',c=s[k].toNat/\w' =1->(if k=0 then fW s[k]else jT s[k])=true->∃m,m<s.length-k/\∃k_1,k_1<=s.length/\m=s.length-k_1/\h++[ak.iter s (k+w')]=h++[ak.iter s k_1]/\j5 (List.take k_1 s)=true/\True:=λw' hw hb=>by
   rw[hb]at Rw;exact⟨_,Om,k+1,Om,rfl,by rw[hw.2],Rw,trivial⟩
  have hl:fW s[k]=(decide (65<=s[k].toNat)&&decide (s[k].toNat<=90)||decide (97<=s[k].toNat)&&decide (s[k].toNat<=122)):=rfl;have hr:jT s[k]=(fW s[k]||(decide (48<=s[k].toNat)&&decide (s[k].toNat<=57))||s[k].toNat==95):=rfl;have h0':((k:Int)=0)=(k=0):=Si
  by_cases a1:(65:Int)<=c<;>by_cases a2:(c:Int)<=90<;>by_cases a3:(97:Int)<=c<;>by_cases a4:(c:Int)<=122<;>first|(exfalso;omega)|skip
  all_goals by_cases a5:(48:Int)<=c<;>by_cases a6:(c:Int)<=57<;>by_cases a7:(c:Int)=95<;>first|(exfalso;omega)|skip
  all_goals first|have b7:=Zr a7|have b7:=aax a7
  all_goals simp only[aQ,aT,h0,h8,dZ,hlt,Yf,Te,a1,a2,a3,a4,a5,a6,b7,Yi,Yp,Yk,Yr]
  all_goals first
   |exact Wl _ Om (by grind)
   |(by_cases hk0:(k:Int)=0<;>simp only[aQ,aT,hk0,Yi,Yp,Yk,Yr]<;>first
     |exact SU (by grind)
     |exact Wl _ Om (by grind))
   |exact SU (by grind)
 ·simp only[aQ,aT,h0,h8,dZ,hlt,Yb,Yf];have e4:k=s.length:=Om
  rw[e4,Yz]at hf;by_cases he:s=[]<;>simp only[aQ,he,Yi,Yp,ne_eq,not_true_eq_false,not_false_eq_true]
  ·rfl
  ·rw[tg,hf];simp[he];omega
end
end Go.Abs
namespace Go.Abs
def ep{α:Type}{f:α->By}{L:List α}{n:By}(h:n∈L.map f):cP (λx=>decide (f x=n)) L=(aZ (L.map f) n:Int):=by
 have e:aZ (L.map f) n=L.findIdx λx=>decide (f x=n):=by
  rw[aZ,List.findIdx_map];rfl
 have hlt:=cM h;rw[e,X2]at hlt;rw[e,cP,List.findIdx?_eq_guard_findIdx_lt];simp[Option.guard,hlt]
def fi{α:Type}{f:α->By}{L:List α}{n:By}:decide (0<=cP (λx=>decide (f x=n)) L)=decide (n∈L.map f):=by
 rw[n7];rw[Bool.eq_iff_iff];simp[ZC]
section
variable {P:Program}(T:fI P) {h:ah}
include T
def r230{α:Type}{row L s f}(hs:aH h s 3 (L.map row))(hl:L.length<2^63)(p:α->Bool)
  (hf:∀x,x∈L->∀k,Ext h k->bF P f [.agg (row x)] k (λv _=>v=.bool (p x))):ay P 230 [s,f] h (λv _=>v=.i (cP p L)):=by
 refine .of T.mix T.c230 ?_;unfold fn230 kM;exact z1
def r232{α:Type}{row L s f}(hs:aH h s 2 (L.map row))(hl:L.length<2^63)(p:α->Bool)
  (hf:∀x,x∈L->∀k,Ext h k->bF P f [.agg (row x)] k (λv _=>v=.bool (p x))):ay P 232 [s,f] h (λv _=>v=.i (cP p L)):=by
 refine .of T.mix T.c232 ?_;unfold fn232 kM;exact z1
def r228{α:Type}{row L s f}(hs:aH h s 3 (L.map row))(hl:L.length<2^63)(p:α->Bool)
  (hf:∀x,x∈L->∀k,Ext h k->bF P f [.agg (row x)] k (λv _=>v=.bool (p x))):ay P 228 [s,f] h (λv _=>v=.i (cP p L)):=by
 refine .of T.mix T.c228 ?_;unfold fn228 kM;exact z1
def r234{α:Type}{row L s f}(hs:aH h s 4 (L.map row))(hl:L.length<2^63)(p:α->Bool)
  (hf:∀x,x∈L->∀k,Ext h k->bF P f [.agg (row x)] k (λv _=>v=.bool (p x))):ay P 234 [s,f] h (λv _=>v=.i (cP p L)):=by
 refine .of T.mix T.c234 ?_;unfold fn234 kM;exact z1
def r236{α:Type}{row L s f}(hs:aH h s 3 (L.map row))(hl:L.length<2^63)(p:α->Bool)
  (hf:∀x,x∈L->∀k,Ext h k->bF P f [.agg (row x)] k (λv _=>v=.bool (p x))):ay P 236 [s,f] h (λv _=>v=.i (cP p L)):=by
 refine .of T.mix T.c236 ?_;unfold fn236 kM;exact z1
def r238{α:Type}{row L s f}(hs:aH h s 4 (L.map row))(hl:L.length<2^63)(p:α->Bool)
  (hf:∀x,x∈L->∀k,Ext h k->bF P f [.agg (row x)] k (λv _=>v=.bool (p x))):ay P 238 [s,f] h (λv _=>v=.i (cP p L)):=by
 refine .of T.mix T.c238 ?_;unfold fn238 kM;exact z1
def r246{α:Type}{row:α->List AV}{L:List α}{s f:AV}(hs:aH h s 3 (L.map row))(hl:L.length<2^63)(p:α->Bool)
  (hf:∀x,x∈L->∀k,Ext h k->bF P f [.agg (row x)] k (λv _=>v=.bool (p x))):ay P 246 [s,f] h (λv _=>v=.bool (L.any p)):=by
 refine .of T.mix T.c246 ?_;unfold fn246 pN;refine Wn ?_;refine WF.ce T.c230 (r230 T hs hl p hf) λg=>?_
 exact Ws @n7 Tv
def r243{α:Type}{row:α->List AV}{L:List α}{s f:AV}(hs:aH h s 3 (L.map row))(hl:L.length<2^63)(p:α->Bool)
  (hf:∀x,x∈L->∀k,Ext h k->bF P f [.agg (row x)] k (λv _=>v=.bool (p x))):ay P 243 [s,f] h (λv _=>v=.bool (L.any p)):=by
 refine .of T.mix T.c243 ?_;unfold fn243 pN;refine Wn ?_;refine WF.ce T.c228 (r228 T hs hl p hf) λg=>?_
 exact Ws @n7 Tv
def r268{α:Type}{row:α->List AV}{L:List α}{s f:AV}(hs:aH h s 4 (L.map row))(hl:L.length<2^63)(p:α->Bool)
  (hf:∀x,x∈L->∀k,Ext h k->bF P f [.agg (row x)] k (λv _=>v=.bool (p x))):ay P 268 [s,f] h (λv _=>v=.bool (L.any p)):=by
 refine .of T.mix T.c268 ?_;unfold fn268 pN;refine Wn ?_;refine WF.ce T.c238 (r238 T hs hl p hf) λg=>?_
 exact Ws @n7 Tv
def r123(x:gN):ay P 123 [.agg (cB x)] h (λv _=>v=.str x.name):=by
 refine .of T.mix T.c123 ?_;unfold fn123 kO cB;exact Wn Tv
def r231(x:gN){b n}(hb:h[b]? =some (.b [.str n])):ay P 231 [.agg (cB x),.ptr b 0] h (λv _=>v=.bool (decide (x.name=n))):=by
 refine .of T.mix T.c231 ?_;unfold fn231 kL;have hlt:=(XT.1 hb).1;have hld:∀g:ah,ar none (.ptr b 0) (λz=>(h++g)[z]?)=dJ none 0 (.b [.str n]):=λg=>aA (by rw[db _ hlt];exact hb)
 have R8:∀g g':ah,ar none (.ptr b 0) (λz=>(h++g++g')[z]?)=dJ none 0 (.b [.str n]):=λg g'=>aA (by rw[XV,db _ hlt];exact hb)
 unfold cB;refine Ws (A3 @hld @R8 @j7) ?_;refine WF.val (bF.zK T.m123 T.c123 (r123 T x)) ?_;rintro _ g1 rfl;exact zl
def r142{L s}(hs:aH h s 3 (L.map cB))(hl:L.length<2^63)(n:By):ay P 142 [s,.str n] h (λv _=>v=.i (cP (λx=>decide (x.name=n)) L)):=by
 refine .of T.mix T.c142 ?_;unfold fn142 kN;refine Wn ?_;refine WF.ce T.c230 (r230 T (hs.ext (by repeat first|exact Ext.refl _|refine Ext.app _ ?_)) hl (λx=>decide (x.name=n)) (λx hx k e=>bF.of (a:=[]) (c:=[.ptr h.length 0]) T.c231 (r231 T x (e.some bh)))) λg1=>?_
 exact Wn Tv
def r322(x:rW):ay P 322 [.agg (dV x)] h (λv _=>v=.str x.name):=by
 refine .of T.mix T.c322 ?_;unfold fn322 kO dV;exact Wn Tv
def r233(x:rW){b n}(hb:h[b]? =some (.b [.str n])):ay P 233 [.agg (dV x),.ptr b 0] h (λv _=>v=.bool (decide (x.name=n))):=by
 refine .of T.mix T.c233 ?_;unfold fn233 kL;have hlt:=(XT.1 hb).1;have hld:∀g:ah,ar none (.ptr b 0) (λz=>(h++g)[z]?)=dJ none 0 (.b [.str n]):=λg=>aA (by rw[db _ hlt];exact hb)
 have R8:∀g g':ah,ar none (.ptr b 0) (λz=>(h++g++g')[z]?)=dJ none 0 (.b [.str n]):=λg g'=>aA (by rw[XV,db _ hlt];exact hb)
 unfold dV;refine Ws (A3 @hld @R8 @j7) ?_;refine WF.val (bF.zK T.m322 T.c322 (r322 T x)) ?_;rintro _ g1 rfl;exact zl
def r143{L s}(hs:aH h s 2 (L.map dV))(hl:L.length<2^63)(n:By):ay P 143 [s,.str n] h (λv _=>v=.i (cP (λx=>decide (x.name=n)) L)):=by
 refine .of T.mix T.c143 ?_;unfold fn143 kN;refine Wn ?_;refine WF.ce T.c232 (r232 T (hs.ext (by repeat first|exact Ext.refl _|refine Ext.app _ ?_)) hl (λx=>decide (x.name=n)) (λx hx k e=>bF.of (a:=[]) (c:=[.ptr h.length 0]) T.c233 (r233 T x (e.some bh)))) λg1=>?_
 exact Wn Tv
def r140(x:jP×AV)(ho:x.2.one=true):ay P 140 [.agg (bn x)] h (λv _=>v=.str x.1.name):=by
 refine .of T.mix T.c140 ?_;unfold fn140 kO bn;exact Ws @ho Tv
def r229(x:jP×AV)(ho:x.2.one=true){b n}(hb:h[b]? =some (.b [.str n])):ay P 229 [.agg (bn x),.ptr b 0] h (λv _=>v=.bool (decide (x.1.name=n))):=by
 refine .of T.mix T.c229 ?_;unfold fn229 kL;have hlt:=(XT.1 hb).1;have hld:∀g:ah,ar none (.ptr b 0) (λz=>(h++g)[z]?)=dJ none 0 (.b [.str n]):=λg=>aA (by rw[db _ hlt];exact hb)
 have R8:∀g g':ah,ar none (.ptr b 0) (λz=>(h++g++g')[z]?)=dJ none 0 (.b [.str n]):=λg g'=>aA (by rw[XV,db _ hlt];exact hb)
 unfold bn;refine Ws (A4 @hld @R8 @ho @j7) ?_;refine WF.val (bF.zK T.m140 T.c140 (r140 T x ho)) ?_;rintro _ g1 rfl;exact zl
def r136{L s}(hs:aH h s 3 (L.map bn))(ho:∀x∈L,x.2.one=true)(hl:L.length<2^63)(n:By):ay P 136 [s,.str n] h (λv _=>v=.i (cP (λx=>decide (x.1.name=n)) L)):=by
 refine .of T.mix T.c136 ?_;unfold fn136 kN;refine Wn ?_;refine WF.ce T.c228 (r228 T (hs.ext (by repeat first|exact Ext.refl _|refine Ext.app _ ?_)) hl (λx=>decide (x.1.name=n)) (λx hx k e=>bF.of (a:=[]) (c:=[.ptr h.length 0]) T.c229 (r229 T x (ho x hx) (e.some bh)))) λg1=>?_
 exact Wn Tv
def r120(x:gy×AV)(ho:x.2.one=true):ay P 120 [.agg (aV x)] h (λv _=>v=.str x.1.name):=by
 refine .of T.mix T.c120 ?_;unfold fn120 kO aV;exact Ws @ho Tv
def r235(x:gy×AV)(ho:x.2.one=true){b n}(hb:h[b]? =some (.b [.str n])):ay P 235 [.agg (aV x),.ptr b 0] h (λv _=>v=.bool (decide (x.1.name=n))):=by
 refine .of T.mix T.c235 ?_;unfold fn235 kL;have hlt:=(XT.1 hb).1;have hld:∀g:ah,ar none (.ptr b 0) (λz=>(h++g)[z]?)=dJ none 0 (.b [.str n]):=λg=>aA (by rw[db _ hlt];exact hb)
 have R8:∀g g':ah,ar none (.ptr b 0) (λz=>(h++g++g')[z]?)=dJ none 0 (.b [.str n]):=λg g'=>aA (by rw[XV,db _ hlt];exact hb)
 unfold aV;refine Ws (A4 @hld @R8 @ho @j7) ?_;refine WF.val (bF.zK T.m120 T.c120 (r120 T x ho)) ?_;rintro _ g1 rfl;exact zl
def r144{L s}(hs:aH h s 4 (L.map aV))(ho:∀x∈L,x.2.one=true)(hl:L.length<2^63)(n:By):ay P 144 [s,.str n] h (λv _=>v=.i (cP (λx=>decide (x.1.name=n)) L)):=by
 refine .of T.mix T.c144 ?_;unfold fn144 kN;refine Wn ?_;refine WF.ce T.c234 (r234 T (hs.ext (by repeat first|exact Ext.refl _|refine Ext.app _ ?_)) hl (λx=>decide (x.1.name=n)) (λx hx k e=>bF.of (a:=[]) (c:=[.ptr h.length 0]) T.c235 (r235 T x (ho x hx) (e.some bh)))) λg1=>?_
 exact Wn Tv
def r324(x:jv×AV)(ho:x.2.one=true):ay P 324 [.agg (bK x)] h (λv _=>v=.str x.1.name):=by
 refine .of T.mix T.c324 ?_;unfold fn324 kO bK;exact Ws @ho Tv
def r237(x:jv×AV)(ho:x.2.one=true){b n}(hb:h[b]? =some (.b [.str n])):ay P 237 [.agg (bK x),.ptr b 0] h (λv _=>v=.bool (decide (x.1.name=n))):=by
 refine .of T.mix T.c237 ?_;unfold fn237 kL;have hlt:=(XT.1 hb).1;have hld:∀g:ah,ar none (.ptr b 0) (λz=>(h++g)[z]?)=dJ none 0 (.b [.str n]):=λg=>aA (by rw[db _ hlt];exact hb)
 have R8:∀g g':ah,ar none (.ptr b 0) (λz=>(h++g++g')[z]?)=dJ none 0 (.b [.str n]):=λg g'=>aA (by rw[XV,db _ hlt];exact hb)
 unfold bK;refine Ws (A4 @hld @R8 @ho @j7) ?_;refine WF.val (bF.zK T.m324 T.c324 (r324 T x ho)) ?_;rintro _ g1 rfl;exact zl
def r145{L s}(hs:aH h s 3 (L.map bK))(ho:∀x∈L,x.2.one=true)(hl:L.length<2^63)(n:By):ay P 145 [s,.str n] h (λv _=>v=.i (cP (λx=>decide (x.1.name=n)) L)):=by
 refine .of T.mix T.c145 ?_;unfold fn145 kN;refine Wn ?_;refine WF.ce T.c236 (r236 T (hs.ext (by repeat first|exact Ext.refl _|refine Ext.app _ ?_)) hl (λx=>decide (x.1.name=n)) (λx hx k e=>bF.of (a:=[]) (c:=[.ptr h.length 0]) T.c237 (r237 T x (ho x hx) (e.some bh)))) λg1=>?_
 exact Wn Tv
def r323(x:nE):ay P 323 [.agg (dm x)] h (λv _=>v=.str x.name):=by
 refine .of T.mix T.c323 ?_;unfold fn323 kO dm;exact Wn Tv
def r239(x:nE){b n}(hb:h[b]? =some (.b [.str n])):ay P 239 [.agg (dm x),.ptr b 0] h (λv _=>v=.bool (decide (x.name=n))):=by
 refine .of T.mix T.c239 ?_;unfold fn239 kL;have hlt:=(XT.1 hb).1;have hld:∀g:ah,ar none (.ptr b 0) (λz=>(h++g)[z]?)=dJ none 0 (.b [.str n]):=λg=>aA (by rw[db _ hlt];exact hb)
 have R8:∀g g':ah,ar none (.ptr b 0) (λz=>(h++g++g')[z]?)=dJ none 0 (.b [.str n]):=λg g'=>aA (by rw[XV,db _ hlt];exact hb)
 unfold dm;refine Ws (A3 @hld @R8 @j7) ?_;refine WF.val (bF.zK T.m323 T.c323 (r323 T x)) ?_;rintro _ g1 rfl;exact zl
def r146{L s}(hs:aH h s 4 (L.map dm))(hl:L.length<2^63)(n:By):ay P 146 [s,.str n] h (λv _=>v=.i (cP (λx=>decide (x.name=n)) L)):=by
 refine .of T.mix T.c146 ?_;unfold fn146 kN;refine Wn ?_;refine WF.ce T.c238 (r238 T (hs.ext (by repeat first|exact Ext.refl _|refine Ext.app _ ?_)) hl (λx=>decide (x.name=n)) (λx hx k e=>bF.of (a:=[]) (c:=[.ptr h.length 0]) T.c239 (r239 T x (e.some bh)))) λg1=>?_
 exact Wn Tv
end
def aH.NU{h s es cs}(hs:aH h s es cs):(s=.af/\cs=[])\/(∀neg:Bool,uk neg (pC .xM s .af)=some (.bool neg)):=by
 cases hs with
 |nil=>exact .inl ⟨rfl,rfl⟩
 |mk hb hf ho he=>right;intro neg;cases neg<;>rfl
def B0:uk false (pC .xM .af .af)=some (.bool true):=rfl
attribute [local irreducible] WP WC WE WB WR WF WL WG gg
section
variable {P:Program}(T:fI P) {h:ah}
include T
def r177{s cs}(hs:aH h s 1 cs)(hl:cs.length<=2^40):ay P 177 [s] h (λv h'=>Fr h.length h' v 1 cs):=by
 refine .of T.mix T.c177 ?_;unfold fn177;exact MQ
def r178{s cs}(hs:aH h s 1 cs)(hl:cs.length<=2^40):ay P 178 [s] h (λv h'=>Fr h.length h' v 1 cs):=by
 refine .of T.mix T.c178 ?_;unfold fn178;exact MQ
def r179{s cs}(hs:aH h s 2 cs)(hl:cs.length<=2^40):ay P 179 [s] h (λv h'=>Fr h.length h' v 2 cs):=by
 refine .of T.mix T.c179 ?_;unfold fn179;exact MQ
def r181(x:jP×AV)(hx:aH h x.2 1 (x.1.aJ.map ao))(hl:x.1.aJ.length<=2^40):ay P 181 [.agg (bn x)] h (λv h'=>∃s',v=.agg (bn (x.1,s'))/\Fr h.length h' s' 1 (x.1.aJ.map ao)):=by
 refine .of T.mix T.c181 ?_;obtain⟨ts,QP⟩:∃ts,ts=aU 8 [.agg (bn x)]:=⟨_,rfl⟩;have hlen:ts.length=8:=by rw[QP];rfl
 have t0:slot ts 0=.agg (bn x):=by rw[QP];rfl
 unfold fn181 yq;show WC P bT _ [] (aU 8 [.agg (bn x)]) h _;rw[<-QP];clear QP;have o1:=hx.one;unfold bn at t0 ⊢;exact PM
def r183(x:gy×AV)(hx:aH h x.2 1 (x.1.bu.map ao))(hl:x.1.bu.length<=2^40):ay P 183 [.agg (aV x)] h (λv h'=>∃s',v=.agg (aV (x.1,s'))/\Fr h.length h' s' 1 (x.1.bu.map ao)):=by
 refine .of T.mix T.c183 ?_;obtain⟨ts,QP⟩:∃ts,ts=aU 8 [.agg (aV x)]:=⟨_,rfl⟩;have hlen:ts.length=8:=by rw[QP];rfl
 have t0:slot ts 0=.agg (aV x):=by rw[QP];rfl
 unfold fn183;show WC P bT _ [] (aU 8 [.agg (aV x)]) h _;rw[<-QP];clear QP;have o1:=hx.one;unfold aV at t0 ⊢;exact PM
def r185(x:jv×AV)(hx:aH h x.2 1 (x.1.bp.map aK))(hl:x.1.bp.length<=2^40):ay P 185 [.agg (bK x)] h (λv h'=>∃s',v=.agg (bK (x.1,s'))/\Fr h.length h' s' 1 (x.1.bp.map aK)):=by
 refine .of T.mix T.c185 ?_;obtain⟨ts,QP⟩:∃ts,ts=aU 8 [.agg (bK x)]:=⟨_,rfl⟩;have hlen:ts.length=8:=by rw[QP];rfl
 have t0:slot ts 0=.agg (bK x):=by rw[QP];rfl
 unfold fn185 yq;show WC P bT _ [] (aU 8 [.agg (bK x)]) h _;rw[<-QP];clear QP;have o1:=hx.one;unfold bK at t0 ⊢;refine Rs (A2 t0 @o1) ?_;refine WF.res T.c178 (r178 T (hx.ext Xx) (by simp;omega)) ?_;rintro s' g1 hf;have o2:=hf.a8.one;refine Rs (A3 t0 @o1 @o2) ?_;exact⟨s',rfl,(Fr.swap hf Si).low Si⟩
set_option maxRecDepth 10000 in
def r91(x:EV)(hx:bt h x)(hl:x.ev.names.length<=2^40/\x.ev.cE.length<=2^40):ay P 91 [.agg x.row] h (λv h'=>∃x':EV,x'.ev=x.ev/\v=.agg x'.row/\Fr h.length h' x'.sn 1 (x.ev.names.map ao)/\Fr h.length h' x'.sv 1 (x.ev.cE.map aK)):=by
 refine .of T.mix T.c91 ?_;obtain⟨ts,QP⟩:∃ts,ts=aU 12 [.agg x.row]:=⟨_,rfl⟩;have hlen:ts.length=12:=by rw[QP];rfl
 have t0:slot ts 0=.agg x.row:=by rw[QP];rfl
 unfold fn91;show WC P bT _ [] (aU 12 [.agg x.row]) h _;rw[<-QP];clear QP;have o1:=hx.n.one;have o2:=hx.v.one;unfold EV.row at t0 ⊢;refine Rs (A3 t0 @o1 @o2) ?_;refine WF.res T.c177 (r177 T (hx.n.ext Xx) (by simp;omega)) ?_;rintro s1 g1 Ue;have o3:=Ue.a8.one;refine Rs (A4 t0 @o1 @o2 @o3) ?_;refine WF.res T.c178 (r178 T (hx.v.ext Xx) (by simp;omega)) ?_;rintro s2 g2 Tx;have o4:=Tx.a8.one;refine Rs (A5 t0 @o1 @o2 @o3 @o4) ?_;refine⟨⟨x.ev,s1,s2⟩,rfl,rfl,?_,?_⟩
 ·exact((Fr.swap Ue Si).app _).low Si
 ·exact(Fr.swap Tx Si).low Si
def r130{L:List (By)}{s f:AV}(hs:aH h s 1 (L.map ao))(hl:L.length<=2^40)(F:(By)->Int)(hf:∀x,x∈L->∀k,Ext h k->bF P f [.str x] k (λv _=>v=.i (F x))):
  ay P 130 [s,f] h (λv h'=>Fr h.length h' v 1 ((L.map F).map aK)):=by
 refine .of T.mix T.c130 ?_;unfold fn130 Dj;refine Ws hs.aM ?_;refine WL.inv T.mix (λn ts h'=>∃(k:Nat) (out:AV),k<=L.length/\n=L.length-k/\Ext h h'/\Fr h.length h' out 1 (((L.take k).map F).map aK)/\ts.length=22/\slot ts 1=f/\slot ts 5=out/\slot ts 8=s/\slot ts 9=.i L.length/\slot ts 10=.i k) L.length
  ⟨0,.af,Om,rfl,Ext.refl h,.nil,rfl,rfl,rfl,rfl,rfl,rfl⟩ ?_
 rintro _ ts _ ⟨k,out,hk,rfl,⟨g,rfl⟩,hfr,hlen,t1,t5,t8,t9,t10⟩;rw[k8 ts 22 hlen];by_cases hlt:k<L.length
 ·have e3:(k:Int)<L.length:=Om
  have hvk:=hf L[k] Si;have Vo:∀{kk:ah},Ext h kk->ar none (cW s 1 k) (λb=>kk[b]?)=some (.str L[k],.au):=λ{kk} e=>hs.kS hlt rfl e
  simp only[aQ,aT,ba,bd,reduceAdd,reduceMul,reduceLeDiff,reduceEqDiff,t1,t5,t8,t9,t10,e3,Yi,hs.dM hlt,Vo];refine WF.val (hvk _ (by repeat first|exact Ext.refl _|refine Ext.app _ ?_)) ?_;rintro _ g1 rfl;refine Wn ?_;refine WR.fQ (h0:=h) (cs:=((L.take k).map F).map aK) (ys:=[aK (F L[k])]) (((hfr.app _).app _)) (Fr.push (N:=0) (Yt _) [aK (F L[k])] (by simp[aK])).a8 De Si (by simp;omega) (by simp only[sE]) ?_;intro g' Q1 hff hkp;have hrow:((L.take k).map F).map aK++[aK (F L[k])]=((L.take (k+1)).map F).map aK:=by rw[YF,XY hlt,X4,X4];rfl
  exact z6
 ·exact z5
def r92{L:List (Int)}{s f:AV}(hs:aH h s 1 (L.map aK))(hl:L.length<=2^40)(F:(Int)->Int)(hf:∀x,x∈L->∀k,Ext h k->bF P f [.i x] k (λv _=>v=.i (F x))):
  ay P 92 [s,f] h (λv h'=>Fr h.length h' v 1 ((L.map F).map aK)):=by
 refine .of T.mix T.c92 ?_;unfold fn92 Dj;refine Ws hs.aM ?_;refine WL.inv T.mix (λn ts h'=>∃(k:Nat) (out:AV),k<=L.length/\n=L.length-k/\Ext h h'/\Fr h.length h' out 1 (((L.take k).map F).map aK)/\ts.length=22/\slot ts 1=f/\slot ts 5=out/\slot ts 8=s/\slot ts 9=.i L.length/\slot ts 10=.i k) L.length
  ⟨0,.af,Om,rfl,Ext.refl h,.nil,rfl,rfl,rfl,rfl,rfl,rfl⟩ ?_
 rintro _ ts _ ⟨k,out,hk,rfl,⟨g,rfl⟩,hfr,hlen,t1,t5,t8,t9,t10⟩;rw[k8 ts 22 hlen];by_cases hlt:k<L.length
 ·have e3:(k:Int)<L.length:=Om
  have hvk:=hf L[k] Si;have Vo:∀{kk:ah},Ext h kk->ar none (cW s 1 k) (λb=>kk[b]?)=some (.i L[k],.au):=λ{kk} e=>hs.kS hlt rfl e
  simp only[aQ,aT,ba,bd,reduceAdd,reduceMul,reduceLeDiff,reduceEqDiff,t1,t5,t8,t9,t10,e3,Yi,hs.dM hlt,Vo];refine WF.val (hvk _ (by repeat first|exact Ext.refl _|refine Ext.app _ ?_)) ?_;rintro _ g1 rfl;refine Wn ?_;refine WR.fQ (h0:=h) (cs:=((L.take k).map F).map aK) (ys:=[aK (F L[k])]) (((hfr.app _).app _)) (Fr.push (N:=0) (Yt _) [aK (F L[k])] (by simp[aK])).a8 De Si (by simp;omega) (by simp only[sE]) ?_;intro g' Q1 hff hkp;have hrow:((L.take k).map F).map aK++[aK (F L[k])]=((L.take (k+1)).map F).map aK:=by rw[YF,XY hlt,X4,X4];rfl
  exact z6
 ·exact z5
def r199{L:List (Int)}{s f:AV}(hs:aH h s 1 (L.map aK))(hl:L.length<=2^40)(F:(Int)->By)(hf:∀x,x∈L->∀k,Ext h k->bF P f [.i x] k (λv _=>v=.str (F x))):
  ay P 199 [s,f] h (λv h'=>Fr h.length h' v 1 ((L.map F).map ao)):=by
 refine .of T.mix T.c199 ?_;unfold fn199;refine Ws hs.aM ?_;refine WL.inv T.mix (λn ts h'=>∃(k:Nat) (out:AV),k<=L.length/\n=L.length-k/\Ext h h'/\Fr h.length h' out 1 (((L.take k).map F).map ao)/\ts.length=22/\slot ts 1=f/\slot ts 5=out/\slot ts 8=s/\slot ts 9=.i L.length/\slot ts 10=.i k) L.length
  ⟨0,.af,Om,rfl,Ext.refl h,.nil,rfl,rfl,rfl,rfl,rfl,rfl⟩ ?_
 rintro _ ts _ ⟨k,out,hk,rfl,⟨g,rfl⟩,hfr,hlen,t1,t5,t8,t9,t10⟩;rw[k8 ts 22 hlen];by_cases hlt:k<L.length
 ·have e3:(k:Int)<L.length:=Om
  have hvk:=hf L[k] Si;have Vo:∀{kk:ah},Ext h kk->ar none (cW s 1 k) (λb=>kk[b]?)=some (.i L[k],.au):=λ{kk} e=>hs.kS hlt rfl e
  simp only[aQ,aT,ba,bd,reduceAdd,reduceMul,reduceLeDiff,reduceEqDiff,t1,t5,t8,t9,t10,e3,Yi,hs.dM hlt,Vo];refine WF.val (hvk _ (by repeat first|exact Ext.refl _|refine Ext.app _ ?_)) ?_;rintro _ g1 rfl;refine Wn ?_;refine WR.fQ (h0:=h) (cs:=((L.take k).map F).map ao) (ys:=[ao (F L[k])]) (((hfr.app _).app _)) (Fr.push (N:=0) (Yt _) [ao (F L[k])] (by simp[ao])).a8 De Si (by simp;omega) (by simp only[sE]) ?_;intro g' Q1 hff hkp;have hrow:((L.take k).map F).map ao++[ao (F L[k])]=((L.take (k+1)).map F).map ao:=by rw[YF,XY hlt,X4,X4];rfl
  exact z6
 ·exact z5
def r137{L:List (jP×AV)}{s f:AV}(hs:aH h s 3 (L.map bn))(ho:∀x∈L,x.2.one=true)(hl:L.length<=2^40)(F:(jP×AV)->By)(hf:∀x,x∈L->∀k,Ext h k->bF P f [.agg (bn x)] k (λv _=>v=.str (F x))):
  ay P 137 [s,f] h (λv h'=>Fr h.length h' v 1 ((L.map F).map ao)):=by
 refine .of T.mix T.c137 ?_;unfold fn137;refine Ws hs.aM ?_;refine WL.inv T.mix (λn ts h'=>∃(k:Nat) (out:AV),k<=L.length/\n=L.length-k/\Ext h h'/\Fr h.length h' out 1 (((L.take k).map F).map ao)/\ts.length=22/\slot ts 1=f/\slot ts 5=out/\slot ts 8=s/\slot ts 9=.i L.length/\slot ts 10=.i k) L.length
  ⟨0,.af,Om,rfl,Ext.refl h,.nil,rfl,rfl,rfl,rfl,rfl,rfl⟩ ?_
 rintro _ ts _ ⟨k,out,hk,rfl,⟨g,rfl⟩,hfr,hlen,t1,t5,t8,t9,t10⟩;rw[k8 ts 22 hlen];by_cases hlt:k<L.length
 ·have e3:(k:Int)<L.length:=Om
  have hvk:=hf L[k] Si;simp only[aQ,aT,ba,bd,reduceAdd,reduceMul,reduceLeDiff,reduceEqDiff,t1,t5,t8,t9,t10,e3,Yi,hs.dM hlt,hs.kR hlt,bn,ho L[k] Si];exact z4
 ·exact z5
def r121{L:List (gN)}{s f:AV}(hs:aH h s 3 (L.map cB))(hl:L.length<=2^40)(F:(gN)->By)(hf:∀x,x∈L->∀k,Ext h k->bF P f [.agg (cB x)] k (λv _=>v=.str (F x))):
  ay P 121 [s,f] h (λv h'=>Fr h.length h' v 1 ((L.map F).map ao)):=by
 refine .of T.mix T.c121 ?_;unfold fn121;refine Ws hs.aM ?_;refine WL.inv T.mix (λn ts h'=>∃(k:Nat) (out:AV),k<=L.length/\n=L.length-k/\Ext h h'/\Fr h.length h' out 1 (((L.take k).map F).map ao)/\ts.length=22/\slot ts 1=f/\slot ts 5=out/\slot ts 8=s/\slot ts 9=.i L.length/\slot ts 10=.i k) L.length
  ⟨0,.af,Om,rfl,Ext.refl h,.nil,rfl,rfl,rfl,rfl,rfl,rfl⟩ ?_
 rintro _ ts _ ⟨k,out,hk,rfl,⟨g,rfl⟩,hfr,hlen,t1,t5,t8,t9,t10⟩;rw[k8 ts 22 hlen];by_cases hlt:k<L.length
 ·have e3:(k:Int)<L.length:=Om
  have hvk:=hf L[k] Si;simp only[aQ,aT,ba,bd,reduceAdd,reduceMul,reduceLeDiff,reduceEqDiff,t1,t5,t8,t9,t10,e3,Yi,hs.dM hlt,hs.kR hlt,cB];exact z4
 ·exact z5
def r117{L:List (gy×AV)}{s f:AV}(hs:aH h s 4 (L.map aV))(ho:∀x∈L,x.2.one=true)(hl:L.length<=2^40)(F:(gy×AV)->By)(hf:∀x,x∈L->∀k,Ext h k->bF P f [.agg (aV x)] k (λv _=>v=.str (F x))):
  ay P 117 [s,f] h (λv h'=>Fr h.length h' v 1 ((L.map F).map ao)):=by
 refine .of T.mix T.c117 ?_;unfold fn117;refine Ws hs.aM ?_;refine WL.inv T.mix (λn ts h'=>∃(k:Nat) (out:AV),k<=L.length/\n=L.length-k/\Ext h h'/\Fr h.length h' out 1 (((L.take k).map F).map ao)/\ts.length=22/\slot ts 1=f/\slot ts 5=out/\slot ts 8=s/\slot ts 9=.i L.length/\slot ts 10=.i k) L.length
  ⟨0,.af,Om,rfl,Ext.refl h,.nil,rfl,rfl,rfl,rfl,rfl,rfl⟩ ?_
 rintro _ ts _ ⟨k,out,hk,rfl,⟨g,rfl⟩,hfr,hlen,t1,t5,t8,t9,t10⟩;rw[k8 ts 22 hlen];by_cases hlt:k<L.length
 ·have e3:(k:Int)<L.length:=Om
  have hvk:=hf L[k] Si;simp only[aQ,aT,ba,bd,reduceAdd,reduceMul,reduceLeDiff,reduceEqDiff,t1,t5,t8,t9,t10,e3,Yi,hs.dM hlt,hs.kR hlt,aV,ho L[k] Si];exact z4
 ·exact z5
def r115{L:List (EV)}{s f:AV}(hs:aH h s 5 (L.map EV.row))(ho:∀x∈L,x.sn.one=true/\x.sv.one=true)(hl:L.length<=2^40)(F:(EV)->By)(hf:∀x,x∈L->∀k,Ext h k->bF P f [.agg (EV.row x)] k (λv _=>v=.str (F x))):
  ay P 115 [s,f] h (λv h'=>Fr h.length h' v 1 ((L.map F).map ao)):=by
 refine .of T.mix T.c115 ?_;unfold fn115;refine Ws hs.aM ?_;refine WL.inv T.mix (λn ts h'=>∃(k:Nat) (out:AV),k<=L.length/\n=L.length-k/\Ext h h'/\Fr h.length h' out 1 (((L.take k).map F).map ao)/\ts.length=22/\slot ts 1=f/\slot ts 5=out/\slot ts 8=s/\slot ts 9=.i L.length/\slot ts 10=.i k) L.length
  ⟨0,.af,Om,rfl,Ext.refl h,.nil,rfl,rfl,rfl,rfl,rfl,rfl⟩ ?_
 rintro _ ts _ ⟨k,out,hk,rfl,⟨g,rfl⟩,hfr,hlen,t1,t5,t8,t9,t10⟩;rw[k8 ts 22 hlen];by_cases hlt:k<L.length
 ·have e3:(k:Int)<L.length:=Om
  have hvk:=hf L[k] Si;simp only[aQ,aT,ba,bd,reduceAdd,reduceMul,reduceLeDiff,reduceEqDiff,t1,t5,t8,t9,t10,e3,Yi,hs.dM hlt,hs.kR hlt,EV.row,(ho L[k] Si).1,(ho L[k] Si).2];exact z4
 ·exact z5
set_option maxRecDepth 10000 in
def r138{L:List (jP×AV)}{s f:AV}(hs:aH h s 3 (L.map bn))(ho:∀x∈L,x.2.one=true)(hl:L.length<=2^38)(p:(jP×AV)->Bool)(hf:∀x,x∈L->∀k,Ext h k->bF P f [.agg (bn x)] k (λv _=>v=.bool (p x))):
  ay P 138 [s,f] h (λv h'=>Fr h.length h' v 3 ((L.filter p).map bn)):=by
 refine .of T.mix T.c138 ?_;unfold fn138;refine Ws hs.aM ?_;refine WL.inv T.mix (λn ts h'=>∃(k:Nat) (out:AV),k<=L.length/\n=L.length-k/\Ext h h'/\Fr h.length h' out 3 (((L.take k).filter p).map bn)/\ts.length=23/\slot ts 1=f/\slot ts 5=out/\slot ts 8=s/\slot ts 9=.i L.length/\slot ts 10=.i k) L.length
  ⟨0,.af,Om,rfl,Ext.refl h,.nil,rfl,rfl,rfl,rfl,rfl,rfl⟩ ?_
 rintro _ ts _ ⟨k,out,hk,rfl,⟨g,rfl⟩,hfr,hlen,t1,t5,t8,t9,t10⟩;rw[k8 ts 23 hlen];by_cases hlt:k<L.length
 ·have e3:(k:Int)<L.length:=Om
  have hvk:=hf L[k] Si;have Rc:(L.take (k+1)).filter p=(L.take k).filter p++(if p L[k]=true then [L[k]]else []):=by
   exact MG
  have Rn:((L.take k).filter p).length<=L.length:=YI (Yu _ _) (by rw[YQ];omega);simp only[aQ,aT,ba,bd,reduceAdd,reduceMul,reduceLeDiff,reduceEqDiff,t1,t5,t8,t9,t10,e3,Yi,hs.dM hlt,hs.kR hlt,bn,ho L[k] Si];refine WF.val (hvk _ (by repeat first|exact Ext.refl _|refine Ext.app _ ?_)) ?_;rintro _ g1 rfl;cases hp:p L[k]with
  |true=>
   rw[hp,X9 rfl]at Rc;simp only[aQ,aT,ba,bd,reduceAdd,reduceMul,reduceLeDiff,reduceEqDiff,ho L[k] Si];refine WR.fQ (h0:=h) (cs:=((L.take k).filter p).map bn) (ys:=[bn L[k]]) (((hfr.app _).app _).app _) (Fr.push (N:=0) (Yt _) [bn L[k]] (by simp[bn])).a8 De Si (by simp only[X2,XX,X1];omega) (by simp only[sE]) ?_;intro g' Q1 hff hkp;have hrow:((L.take k).filter p).map bn++[bn L[k]]=((L.take (k+1)).filter p).map bn:=by rw[Rc,X4];rfl
   exact z6
  |false=>
   exact z37
 ·exact z5
set_option maxRecDepth 10000 in
def r216{L:List (gN)}{s f:AV}(hs:aH h s 3 (L.map cB))(hl:L.length<=2^38)(p:(gN)->Bool)(hf:∀x,x∈L->∀k,Ext h k->bF P f [.agg (cB x)] k (λv _=>v=.bool (p x))):
  ay P 216 [s,f] h (λv h'=>Fr h.length h' v 3 ((L.filter p).map cB)):=by
 refine .of T.mix T.c216 ?_;unfold fn216;refine Ws hs.aM ?_;refine WL.inv T.mix (λn ts h'=>∃(k:Nat) (out:AV),k<=L.length/\n=L.length-k/\Ext h h'/\Fr h.length h' out 3 (((L.take k).filter p).map cB)/\ts.length=23/\slot ts 1=f/\slot ts 5=out/\slot ts 8=s/\slot ts 9=.i L.length/\slot ts 10=.i k) L.length
  ⟨0,.af,Om,rfl,Ext.refl h,.nil,rfl,rfl,rfl,rfl,rfl,rfl⟩ ?_
 rintro _ ts _ ⟨k,out,hk,rfl,⟨g,rfl⟩,hfr,hlen,t1,t5,t8,t9,t10⟩;rw[k8 ts 23 hlen];by_cases hlt:k<L.length
 ·have e3:(k:Int)<L.length:=Om
  have hvk:=hf L[k] Si;have Rc:(L.take (k+1)).filter p=(L.take k).filter p++(if p L[k]=true then [L[k]]else []):=by
   exact MG
  have Rn:((L.take k).filter p).length<=L.length:=YI (Yu _ _) (by rw[YQ];omega);simp only[aQ,aT,ba,bd,reduceAdd,reduceMul,reduceLeDiff,reduceEqDiff,t1,t5,t8,t9,t10,e3,Yi,hs.dM hlt,hs.kR hlt,cB];refine WF.val (hvk _ (by repeat first|exact Ext.refl _|refine Ext.app _ ?_)) ?_;rintro _ g1 rfl;cases hp:p L[k]with
  |true=>
   rw[hp,X9 rfl]at Rc;refine Wn ?_;refine WR.fQ (h0:=h) (cs:=((L.take k).filter p).map cB) (ys:=[cB L[k]]) (((hfr.app _).app _).app _) (Fr.push (N:=0) (Yt _) [cB L[k]] (by simp[cB])).a8 De Si (by simp only[X2,XX,X1];omega) (by simp only[sE]) ?_;intro g' Q1 hff hkp;have hrow:((L.take k).filter p).map cB++[cB L[k]]=((L.take (k+1)).filter p).map cB:=by rw[Rc,X4];rfl
   exact z6
  |false=>
   exact z37
 ·exact z5
set_option maxRecDepth 10000 in
def r88{L:List (EV)}{s f:AV}(hs:aH h s 5 (L.map EV.row))(ho:∀x∈L,x.sn.one=true/\x.sv.one=true)(hl:L.length<=2^38)(p:(EV)->Bool)(hf:∀x,x∈L->∀k,Ext h k->bF P f [.agg (EV.row x)] k (λv _=>v=.bool (p x))):
  ay P 88 [s,f] h (λv h'=>Fr h.length h' v 5 ((L.filter p).map EV.row)):=by
 refine .of T.mix T.c88 ?_;unfold fn88;refine Ws hs.aM ?_;refine WL.inv T.mix (λn ts h'=>∃(k:Nat) (out:AV),k<=L.length/\n=L.length-k/\Ext h h'/\Fr h.length h' out 5 (((L.take k).filter p).map EV.row)/\ts.length=23/\slot ts 1=f/\slot ts 5=out/\slot ts 8=s/\slot ts 9=.i L.length/\slot ts 10=.i k) L.length
  ⟨0,.af,Om,rfl,Ext.refl h,.nil,rfl,rfl,rfl,rfl,rfl,rfl⟩ ?_
 rintro _ ts _ ⟨k,out,hk,rfl,⟨g,rfl⟩,hfr,hlen,t1,t5,t8,t9,t10⟩;rw[k8 ts 23 hlen];by_cases hlt:k<L.length
 ·have e3:(k:Int)<L.length:=Om
  have hvk:=hf L[k] Si;have Rc:(L.take (k+1)).filter p=(L.take k).filter p++(if p L[k]=true then [L[k]]else []):=by
   exact MG
  have Rn:((L.take k).filter p).length<=L.length:=YI (Yu _ _) (by rw[YQ];omega);simp only[aQ,aT,ba,bd,reduceAdd,reduceMul,reduceLeDiff,reduceEqDiff,t1,t5,t8,t9,t10,e3,Yi,hs.dM hlt,hs.kR hlt,EV.row,(ho L[k] Si).1,(ho L[k] Si).2];refine WF.val (hvk _ (by repeat first|exact Ext.refl _|refine Ext.app _ ?_)) ?_;rintro _ g1 rfl;cases hp:p L[k]with
  |true=>
   rw[hp,X9 rfl]at Rc;simp only[aQ,aT,ba,bd,reduceAdd,reduceMul,reduceLeDiff,reduceEqDiff,(ho L[k] Si).1,(ho L[k] Si).2];refine WR.fQ (h0:=h) (cs:=((L.take k).filter p).map EV.row) (ys:=[EV.row L[k]]) (((hfr.app _).app _).app _) (Fr.push (N:=0) (Yt _) [EV.row L[k]] (by simp[EV.row])).a8 De Si (by simp only[X2,XX,X1];omega) (by simp only[sE]) ?_;intro g' Q1 hff hkp;have hrow:((L.take k).filter p).map EV.row++[EV.row L[k]]=((L.take (k+1)).filter p).map EV.row:=by rw[Rc,X4];rfl
   exact z6
  |false=>
   exact z37
 ·exact z5
end
section
variable {P:Program}(T:fI P) {h:ah}
include T
set_option maxRecDepth 10000 in
def r180{L:List (jP×AV)}{s:AV}(hs:aH h s 3 (L.map bn))(he:∀x∈L,aH h x.2 1 (x.1.aJ.map ao))(hl:L.length<=2^30)(hle:∀x∈L,x.1.aJ.length<=2^40):
  ay P 180 [s,.func (.func 181) [] []] h (λv h'=>∃L':List (jP×AV),L'.map Prod.fst=L.map Prod.fst/\Fr h.length h' v 3 (L'.map bn)/\(∀x∈L',Fr h.length h' x.2 1 (x.1.aJ.map ao))/\lh (sB v::L'.map λx=>sB x.2)):=by
 refine .of T.mix T.c180 ?_;unfold fn180 yr;refine Ws hs.aM ?_;refine WL.inv T.mix (λn ts h'=>∃(k:Nat) (out:AV) (L':List (jP×AV)),k<=L.length/\n=L.length-k/\Ext h h'/\L'.map Prod.fst=(L.take k).map Prod.fst/\Fr h.length h' out 3 (L'.map bn)/\(∀x∈L',Fr h.length h' x.2 1 (x.1.aJ.map ao))/\lh (sB out::L'.map λx=>sB x.2)/\
   ts.length=22/\slot ts 1=.func (.func 181) [] []/\slot ts 5=out/\slot ts 8=s/\slot ts 9=.i L.length/\slot ts 10=.i k) L.length
  ⟨0,.af,[],Om,rfl,Ext.refl h,rfl,.nil,(λx hx=>by cases hx),Zy _ _,rfl,rfl,rfl,rfl,rfl,rfl⟩ ?_
 rintro _ ts _ ⟨k,out,L',hk,rfl,⟨g,rfl⟩,hm,hfr,hin,RF,hlen,t1,t5,t8,t9,t10⟩;rw[k8 ts 22 hlen];have Vi:L'.length=k:=by have:=Yx List.length hm;simp at this;omega
 by_cases hlt:k<L.length
 ·have e3:(k:Int)<L.length:=Om
  have V9:=he L[k] Si;have S9:=hle L[k] Si;have ox:=V9.one;have e9:∀{kk:ah},Ext h kk->ar (some 3) (cW s 3 k) (λb=>kk[b]?)=some (.agg (bn L[k]),.au):=λ{kk} e=>hs.kR hlt e
  unfold bn at e9;simp only[aQ,aT,ba,bd,reduceAdd,reduceMul,reduceLeDiff,reduceEqDiff,t1,t5,t8,t9,t10,e3,Yi,hs.dM hlt,e9,ox];have hown:=λkk (e:Ext h kk)=>r181 T (h:=kk) L[k] (V9.ext e) S9
  unfold bn at hown;refine WF.res T.c181 (hown _ (by repeat first|exact Ext.refl _|refine Ext.app _ ?_)) ?_;rintro _ g1 ⟨s',rfl,XH⟩;have os:=XH.a8.one;refine Ws @os ?_;refine WR.fQ (h0:=h) (cs:=L'.map bn) (ys:=[bn (L[k].1,s')]) ((((hfr.app _).app _).app _)) (Fr.push (N:=0) (Yt _) [bn (L[k].1,s')] (by simp[bn])).a8 De Si (by simp only[X2,XX,X1];omega) (by simp only[sE]) ?_;intro g' Q1 hff hkp;have hrow:L'.map bn++[bn (L[k].1,s')]=(L'++[(L[k].1,s')]).map bn:=by rw[X4];rfl
  exact z2
 ·exact ML
set_option maxRecDepth 10000 in
def r182{L:List (gy×AV)}{s:AV}(hs:aH h s 4 (L.map aV))(he:∀x∈L,aH h x.2 1 (x.1.bu.map ao))(hl:L.length<=2^30)(hle:∀x∈L,x.1.bu.length<=2^40):
  ay P 182 [s,.func (.func 183) [] []] h (λv h'=>∃L':List (gy×AV),L'.map Prod.fst=L.map Prod.fst/\Fr h.length h' v 4 (L'.map aV)/\(∀x∈L',Fr h.length h' x.2 1 (x.1.bu.map ao))/\lh (sB v::L'.map λx=>sB x.2)):=by
 refine .of T.mix T.c182 ?_;unfold fn182;refine Ws hs.aM ?_;refine WL.inv T.mix (λn ts h'=>∃(k:Nat) (out:AV) (L':List (gy×AV)),k<=L.length/\n=L.length-k/\Ext h h'/\L'.map Prod.fst=(L.take k).map Prod.fst/\Fr h.length h' out 4 (L'.map aV)/\(∀x∈L',Fr h.length h' x.2 1 (x.1.bu.map ao))/\lh (sB out::L'.map λx=>sB x.2)/\
   ts.length=22/\slot ts 1=.func (.func 183) [] []/\slot ts 5=out/\slot ts 8=s/\slot ts 9=.i L.length/\slot ts 10=.i k) L.length
  ⟨0,.af,[],Om,rfl,Ext.refl h,rfl,.nil,(λx hx=>by cases hx),Zy _ _,rfl,rfl,rfl,rfl,rfl,rfl⟩ ?_
 rintro _ ts _ ⟨k,out,L',hk,rfl,⟨g,rfl⟩,hm,hfr,hin,RF,hlen,t1,t5,t8,t9,t10⟩;rw[k8 ts 22 hlen];have Vi:L'.length=k:=by have:=Yx List.length hm;simp at this;omega
 by_cases hlt:k<L.length
 ·have e3:(k:Int)<L.length:=Om
  have V9:=he L[k] Si;have S9:=hle L[k] Si;have ox:=V9.one;have e9:∀{kk:ah},Ext h kk->ar (some 4) (cW s 4 k) (λb=>kk[b]?)=some (.agg (aV L[k]),.au):=λ{kk} e=>hs.kR hlt e
  unfold aV at e9;simp only[aQ,aT,ba,bd,reduceAdd,reduceMul,reduceLeDiff,reduceEqDiff,t1,t5,t8,t9,t10,e3,Yi,hs.dM hlt,e9,ox];have hown:=λkk (e:Ext h kk)=>r183 T (h:=kk) L[k] (V9.ext e) S9
  unfold aV at hown;refine WF.res T.c183 (hown _ (by repeat first|exact Ext.refl _|refine Ext.app _ ?_)) ?_;rintro _ g1 ⟨s',rfl,XH⟩;have os:=XH.a8.one;refine Ws @os ?_;refine WR.fQ (h0:=h) (cs:=L'.map aV) (ys:=[aV (L[k].1,s')]) ((((hfr.app _).app _).app _)) (Fr.push (N:=0) (Yt _) [aV (L[k].1,s')] (by simp[aV])).a8 De Si (by simp only[X2,XX,X1];omega) (by simp only[sE]) ?_;intro g' Q1 hff hkp;have hrow:L'.map aV++[aV (L[k].1,s')]=(L'++[(L[k].1,s')]).map aV:=by rw[X4];rfl
  exact z2
 ·exact ML
set_option maxRecDepth 10000 in
def r184{L:List (jv×AV)}{s:AV}(hs:aH h s 3 (L.map bK))(he:∀x∈L,aH h x.2 1 (x.1.bp.map aK))(hl:L.length<=2^30)(hle:∀x∈L,x.1.bp.length<=2^40):
  ay P 184 [s,.func (.func 185) [] []] h (λv h'=>∃L':List (jv×AV),L'.map Prod.fst=L.map Prod.fst/\Fr h.length h' v 3 (L'.map bK)/\(∀x∈L',Fr h.length h' x.2 1 (x.1.bp.map aK))/\lh (sB v::L'.map λx=>sB x.2)):=by
 refine .of T.mix T.c184 ?_;unfold fn184 yr;refine Ws hs.aM ?_;refine WL.inv T.mix (λn ts h'=>∃(k:Nat) (out:AV) (L':List (jv×AV)),k<=L.length/\n=L.length-k/\Ext h h'/\L'.map Prod.fst=(L.take k).map Prod.fst/\Fr h.length h' out 3 (L'.map bK)/\(∀x∈L',Fr h.length h' x.2 1 (x.1.bp.map aK))/\lh (sB out::L'.map λx=>sB x.2)/\
   ts.length=22/\slot ts 1=.func (.func 185) [] []/\slot ts 5=out/\slot ts 8=s/\slot ts 9=.i L.length/\slot ts 10=.i k) L.length
  ⟨0,.af,[],Om,rfl,Ext.refl h,rfl,.nil,(λx hx=>by cases hx),Zy _ _,rfl,rfl,rfl,rfl,rfl,rfl⟩ ?_
 rintro _ ts _ ⟨k,out,L',hk,rfl,⟨g,rfl⟩,hm,hfr,hin,RF,hlen,t1,t5,t8,t9,t10⟩;rw[k8 ts 22 hlen];have Vi:L'.length=k:=by have:=Yx List.length hm;simp at this;omega
 by_cases hlt:k<L.length
 ·have e3:(k:Int)<L.length:=Om
  have V9:=he L[k] Si;have S9:=hle L[k] Si;have ox:=V9.one;have e9:∀{kk:ah},Ext h kk->ar (some 3) (cW s 3 k) (λb=>kk[b]?)=some (.agg (bK L[k]),.au):=λ{kk} e=>hs.kR hlt e
  unfold bK at e9;simp only[aQ,aT,ba,bd,reduceAdd,reduceMul,reduceLeDiff,reduceEqDiff,t1,t5,t8,t9,t10,e3,Yi,hs.dM hlt,e9,ox];have hown:=λkk (e:Ext h kk)=>r185 T (h:=kk) L[k] (V9.ext e) S9
  unfold bK at hown;refine WF.res T.c185 (hown _ (by repeat first|exact Ext.refl _|refine Ext.app _ ?_)) ?_;rintro _ g1 ⟨s',rfl,XH⟩;have os:=XH.a8.one;refine Ws @os ?_;refine WR.fQ (h0:=h) (cs:=L'.map bK) (ys:=[bK (L[k].1,s')]) ((((hfr.app _).app _).app _)) (Fr.push (N:=0) (Yt _) [bK (L[k].1,s')] (by simp[bK])).a8 De Si (by simp only[X2,XX,X1];omega) (by simp only[sE]) ?_;intro g' Q1 hff hkp;have hrow:L'.map bK++[bK (L[k].1,s')]=(L'++[(L[k].1,s')]).map bK:=by rw[X4];rfl
  exact z2
 ·exact ML
end
theorem aC.row{h V}(o:aC h V):V.row.all AV.one=true:=by
 simp only[RV.row,CR,CQ,BU,o.i0.one,o.i1.one,o.i2.one,o.i3.one,o.i4.one,o.i5.one,Bool.and_self]
def aC.box{h V}(o:aC h V){N}:oz (.agg V.row) N=some (.ptr N 0,.push (.cells V.row true false)):=by
 have:(AV.agg V.row).cells=V.row:=rfl;simp only[oz,this,o.row,Yf]
def sV{V:RV}:V.row[0]? =some (.int .i64 V.tick):=rfl
def gk{V:RV}:V.row[1]? =some (V.s0):=rfl
def lA{V:RV}:V.row[2]? =some (V.s1):=rfl
def fK{V:RV}:V.row[3]? =some (V.s2):=rfl
def fS{V:RV}:V.row[4]? =some (V.s3):=rfl
def fy{V:RV}:V.row[5]? =some (V.s4):=rfl
def gW{V:RV}:V.row[6]? =some (V.s5):=rfl
def aE{V:RV}{mu tl:Bool}:dJ (some 7) 0 (.cells V.row mu tl)=some (.agg V.row,.au):=rfl
def lh.app{l m}(hl:lh l)(hm:lh m)(h:∀x∈l,∀y∈m,∀b,x=some b->y≠some b):lh (l++m):=Zc.2 ⟨hl,hm,h⟩
def lh.one{x}:lh [x]:=Zy _ _
theorem lh.perm{l m}(hl:lh l)(h:l.Perm m):lh m:=List.Pairwise.perm hl h λ{x y} hxy b hy hx=>hxy b hx hy
def lT{n z}:dP n z=(List.replicate n z).flatten:=by
 induction n with
 |zero=>rfl
 |succ n ih=>rw[AO,Zx,Za,ih]
def Ds{h X:ah}{A B B':ak}{b:Nat}(hb:h.length+2<=b):(h++([A]++([B']++X)))[b]? =(h++([A]++([B]++X)))[b]? :=by
 have e:∀C:ak,(h++([A]++([C]++X)))[b]? =X[b-h.length-1-1]? :=λC=>by
  rw[X6 Om,X6 (by simp only[Yn];omega),X6 (by simp only[Yn];omega)];rfl
 rw[e,e]
theorem cK.low{N M h V}(o:cK N h V)(hM:M<=N):cK M h V:=
 ⟨o.i0.low hM,o.i1.low hM,o.i2.low hM,o.i3.low hM,o.i4.low hM,o.i5.low hM,λx hx=>(o.e2 x hx).low hM,λx hx=>(o.e3 x hx).low hM,λx hx=>(o.e4 x hx).low hM,o.di⟩
def cK.dU{N h V}(o:cK N h V){b}(hb:some b∈V.bl):N<=b/\b<h.length:=by
 simp only[RV.bl,X3,YA,Ys,YT,Zz]at hb;rcases hb with((hb|⟨x,hx,hb⟩)|⟨x,hx,hb⟩)|⟨x,hx,hb⟩
 ·rcases hb with hb|hb|hb|hb|hb|hb
  ·exact o.i0.bQ hb.symm
  ·exact o.i1.bQ hb.symm
  ·exact o.i2.bQ hb.symm
  ·exact o.i3.bQ hb.symm
  ·exact o.i4.bQ hb.symm
  ·exact o.i5.bQ hb.symm
 ·exact(o.e2 x hx).bQ hb
 ·exact(o.e3 x hx).bQ hb
 ·exact(o.e4 x hx).bQ hb
theorem rl:∀{l m:List (By)},l.Nodup->(∀x∈l,x∈m)->l.length<=m.length
 |[],_,_,_=>Yt _
 |x::l,m,hn,hs=>by
  have h1:=aat.1 hn;have hx:=hs x Si;have:=rl (m:=m.erase x) h1.2 λy hy=>(List.mem_erase_of_ne (λ(e:y=x)=>h1.1 (by rw[<-e];exact hy))).2 (hs y (YB _ hy))
  rw[List.length_erase_of_mem hx]at this;have hp:=List.length_pos_of_mem hx;simp only[XX];omega
inductive Lay:Nat->Nat->List (Option Nat)->Prop
 |nil {a:Nat}:Lay a a []
 |cons {a b c:Nat}{l m:List (Option Nat)}(hab:a<=b) (hl:lh l) (hin:∀x,some x∈l->a<=x/\x<b) (r:Lay b c m):Lay a c (l++m)
def Lay.le{a c l}(h:Lay a c l):a<=c:=by
 induction h with
 |nil=>exact X8 _
 |cons hab _ _ _ ih=>omega
def Lay.mem{a c l}(h:Lay a c l):∀x,some x∈l->a<=x/\x<c:=by
 induction h with
 |nil=>intro x hx;cases hx
 |cons hab _ hin r ih=>
  intro x hx;have:=r.le;rcases X3.1 hx with hx|hx
  ·have:=hin x hx;omega
  ·have:=ih x hx;omega
def Lay.QB{a c l}(h:Lay a c l):lh l:=by
 induction h with
 |nil=>exact List.Pairwise.nil
 |cons hab hl hin r ih=>
  refine hl.app ih λx hx y hy b hb TK=>?_
  subst hb;have h1:=hin b hx;rw[TK]at hy;have h2:=r.mem b hy;omega
def Lz{N h s es cs}(hs:Fr N h s es cs):∀x,some x∈[sB s]->N<=x/\x<h.length:=by
 intro x hx;rw[Yl]at hx;exact hs.bQ hx.symm
set_option maxRecDepth 10000
section
variable {P:Program}(T:fI P) {h:ah}
include T
def r96{V:RV}(o:aC h V)(w:fk V.an):ay P 96 [.agg V.row] h (λv h'=>∃V':RV,V'.an=V.an/\v=.agg V'.row/\cK h.length h' V'):=by
 refine .of T.mix T.c96 ?_;obtain⟨ts,QP⟩:∃ts,ts=aU 38 [.agg V.row]:=⟨_,rfl⟩;have hlen:ts.length=38:=by rw[QP];rfl
 have t0:slot ts 0=.agg V.row:=by rw[QP];rfl
 unfold fn96;show WC P bT _ [] (aU 38 [.agg V.row]) h _;rw[<-QP];clear QP;have QO:=@aC.box _ _ o;have n0:V.lines.length<=16:=w.l0;have n5:V.aO.length<=16:=w.l5;have n1:V.aJ.length<=16:=w.l1;have n2:V.aj.length<=64:=by have:=w.l2;simpa [RV.an]using this
 have n3:V.aD.length<=32:=by have:=w.l3;simpa [RV.an]using this
 have n4:V.aG.length<=16:=by have:=w.l4;simpa [RV.an]using this
 have mk0:∀{N:Nat},th 3 32 [AV.str [],.int .i64 0,.bool false] (.int .i64 (V.lines.length:Int)) (.int .i64 (V.lines.length:Int)) N=some (.slice N 0 V.lines.length 3,.push (.cells (dP V.lines.length [AV.str [],.int .i64 0,.bool false]) true true)):=nW Om Om;have mk5:∀{N:Nat},th 4 48 [AV.str [],.str [],.int .i64 0,.bool false] (.int .i64 (V.aO.length:Int)) (.int .i64 (V.aO.length:Int)) N=some (.slice N 0 V.aO.length 4,.push (.cells (dP V.aO.length [AV.str [],.str [],.int .i64 0,.bool false]) true true)):=nW Om Om;refine Rs (A8 t0 @QO @gk @gW o.i0.aM o.i5.aM @mk0 @mk5) ?_
 have z0:(dP V.lines.length [AV.str [],.int .i64 0,.bool false])=(List.replicate V.lines.length [AV.str [],.int .i64 0,.bool false]).flatten:=lT;have z5:(dP V.aO.length [AV.str [],.str [],.int .i64 0,.bool false])=(List.replicate V.aO.length [AV.str [],.str [],.int .i64 0,.bool false]).flatten:=lT;obtain⟨B,hB⟩:∃B,B=ak.cells [AV.int .i64 0,.af,.af,.af,.af,.af,.af] true false:=⟨_,rfl⟩;rw[<-hB];have f0:Fr (h++[ak.cells V.row true false]++[B]).length (h++[ak.cells V.row true false]++[B]++([ak.cells (dP V.lines.length [AV.str [],.int .i64 0,.bool false]) true true]++[ak.cells (dP V.aO.length [AV.str [],.str [],.int .i64 0,.bool false]) true true])) (.slice (h++[ak.cells V.row true false]++[B]).length 0 V.lines.length 3) 3 (List.replicate V.lines.length [AV.str [],.int .i64 0,.bool false]):=by
  rw[<-XV];exact(Fr.AQ (X8 _) rfl).app _
 have f5:Fr (h++[ak.cells V.row true false]++[B]).length (h++[ak.cells V.row true false]++[B]++([ak.cells (dP V.lines.length [AV.str [],.int .i64 0,.bool false]) true true]++[ak.cells (dP V.aO.length [AV.str [],.str [],.int .i64 0,.bool false]) true true])) (.slice (h++[ak.cells V.row true false]++[B]++[ak.cells (dP V.lines.length [AV.str [],.int .i64 0,.bool false]) true true]).length 0 V.aO.length 4) 4 (List.replicate V.aO.length [AV.str [],.str [],.int .i64 0,.bool false]):=by
  rw[<-XV];exact Fr.AQ Si rfl
 obtain⟨Z,hZ⟩:∃Z,Z=([ak.cells (dP V.lines.length [AV.str [],.int .i64 0,.bool false]) true true]++[ak.cells (dP V.aO.length [AV.str [],.str [],.int .i64 0,.bool false]) true true]):=⟨_,rfl⟩;have hZl:Z.length=2:=by rw[hZ];rfl
 have el5:(h++[ak.cells V.row true false]++[B]++[ak.cells (dP V.lines.length [AV.str [],.int .i64 0,.bool false]) true true]).length=(h++[ak.cells V.row true false]++[B]).length+1:=Si
 rw[XV (h++[ak.cells V.row true false]++[B]),<-hZ];rw[<-hZ,el5]at f5;rw[<-hZ]at f0;rw[el5];clear hZ;refine WR.LO (h0:=h++[ak.cells V.row true false]++[B]) (g:=Z) (Sq t0) (Sq t0) f0 (o.i0.ext Xx) Si ?_;intro g1 _ VC hf0 hk0;have XG:=f5.aB (k:=h++[ak.cells V.row true false]++[B]++g1) λb hb=>hk0 b λb0 o n e he=>by cases he;cases hb;omega
 refine Rs (A2 t0 @gW) ?_;refine WR.LO (h0:=h++[ak.cells V.row true false]++[B]) (g:=g1) (Sq t0) (Sq t0) XG (o.i5.ext Xx) Si ?_;intro g2 _ hl2 hf5' hk5;have hf0':=hf0.aB (k:=h++[ak.cells V.row true false]++[B]++g2) λb hb=>hk5 b λb0 o n e he=>by cases he;cases hb;omega
 have UK:g2.length=2:=Om
 refine Rs (A3 t0 @sV @lA) ?_;refine WF.res T.c179 (r179 T (o.i1.ext Xx) (by simp;omega)) ?_;rintro s1 c1 q1;refine Rs (A2 t0 @fK) ?_;refine WF.res T.c180 (r180 T (o.i2.ext Xx) (λx hx=>(o.e2 x hx).ext Xx) Om (λx hx=>?_)) ?_
 ·have:=(w.sh x.1 (Ym hx)).2.2;have hle:=rl this.1 (λt ht=>this.2 t ht);have VC:(jK V.an).length=V.aJ.length:=by simp[jK,RV.an]
  omega
 rintro s2 c2 ⟨L2,m2,q2,q2e,q2d⟩;refine Rs (A2 t0 @fS) ?_;refine WF.res T.c182 (r182 T (o.i3.ext Xx) (λx hx=>(o.e3 x hx).ext Xx) Om (λx hx=>by have:=(w.md x.1 (Ym hx)).2.1;omega)) ?_;rintro s3 c3 ⟨L3,m3,q3,q3e,q3d⟩;refine Rs (A2 t0 @fy) ?_;refine WF.res T.c184 (r184 T (o.i4.ext Xx) (λx hx=>(o.e4 x hx).ext Xx) Om (λx hx=>by have:=(w.jb x.1 (Ym hx)).2.2.1;omega)) ?_;rintro s4 c4 ⟨L4,m4,q4,q4e,q4d⟩;refine Rs (A6 t0 q1.a8.one q2.a8.one q3.a8.one q4.a8.one @hB) ?_;refine⟨⟨V.tick,V.lines,V.aJ,L2,L3,L4,V.aO,.slice (h++[ak.cells V.row true false]++[B]).length 0 V.lines.length 3,s1,s2,s3,s4,.slice ((h++[ak.cells V.row true false]++[B]).length+1) 0 V.aO.length 4⟩,?_,?_,?_⟩
 ·simp only[RV.an,m2,m3,m4]
 ·rw[<-hB];rfl
 obtain⟨H,hH⟩:∃H,H=h++[ak.cells V.row true false]++[B]:=⟨_,rfl⟩;have Uj:h.length<=H.length:=by rw[hH];simp
 rw[<-hH]at hf0' hf5' q1 q2 q2e q3 q3e q4 q4e;have own:cK H.length (H++g2++c1++c2++c3++c4) ⟨V.tick,V.lines,V.aJ,L2,L3,L4,V.aO,.slice H.length 0 V.lines.length 3,s1,s2,s3,s4,.slice (H.length+1) 0 V.aO.length 4⟩:=by
  have n0:V.lines.length=(V.lines.map cB).length:=Si
  have n5:V.aO.length=(V.aO.map dm).length:=Si
  refine⟨(((hf0'.app _).app _).app _).app _,?_,?_,?_,?_,(((hf5'.app _).app _).app _).app _,?_,?_,?_,?_⟩
  ·exact(((q1.app _).app _).app _).low Si
  ·exact((q2.app _).app _).low (by simp only[XS];omega)
  ·exact(q3.app _).low (by simp only[XS];omega)
  ·exact q4.low (by simp only[XS];omega)
  ·exactλx hx=>(((q2e x hx).app _).app _).low (by simp only[XS];omega)
  ·exactλx hx=>((q3e x hx).app _).low (by simp only[XS];omega)
  ·exactλx hx=>(q4e x hx).low (by simp only[XS];omega)
  ·have lay:Lay H.length (H++g2++c1++c2++c3++c4).length ([some H.length]++([some (H.length+1)]++([sB s1]++((sB s2::L2.map λx=>sB x.2)++((sB s3::L3.map λx=>sB x.2)++((sB s4::L4.map λx=>sB x.2)++[])))))):=by
    refine .cons (b:=H.length+1) Om .one (λx hx=>by simp at hx;omega) ?_;refine .cons (b:=(H++g2).length) (by simp only[XS];omega) .one (λx hx=>by simp at hx;simp only[XS];omega) ?_;refine .cons (b:=(H++g2++c1).length) (by simp only[XS];omega) .one (Lz q1) ?_;refine .cons (b:=(H++g2++c1++c2).length) (by simp only[XS];omega) q2d (λx hx=>?_) ?_
    ·rcases YA.1 hx with hx|hx
     ·exact q2.bQ hx.symm
     ·obtain⟨y,hy,Un⟩:=Ys.1 hx;exact(q2e y hy).bQ Un
    refine .cons (b:=(H++g2++c1++c2++c3).length) (by simp only[XS];omega) q3d (λx hx=>?_) ?_
    ·rcases YA.1 hx with hx|hx
     ·exact q3.bQ hx.symm
     ·obtain⟨y,hy,Un⟩:=Ys.1 hx;exact(q3e y hy).bQ Un
    refine .cons (b:=(H++g2++c1++c2++c3++c4).length) (by simp only[XS];omega) q4d (λx hx=>?_) .nil;rcases YA.1 hx with hx|hx
    ·exact q4.bQ hx.symm
    ·obtain⟨y,hy,Un⟩:=Ys.1 hx;exact(q4e y hy).bQ Un
   refine lay.QB.perm (List.perm_iff_count.2 λa=>?_);simp only[RV.bl,sB,List.count_append,List.count_cons,List.count_nil,YJ,aao]
   ac_rfl
 rw[hH]at own Uj;refine(own.low Uj).au λb hb=>?_
 have hbN:=(own.dU hb).1;simp only[XV];exact Ds (by simpa using hbN)
end
def aC.jl{h V}(o:aC h V):(∀x∈V.aj,x.2.one=true)/\(∀x∈V.aD,x.2.one=true)/\(∀x∈V.aG,x.2.one=true):=
 ⟨λx hx=>(o.e2 x hx).one,λx hx=>(o.e3 x hx).one,λx hx=>(o.e4 x hx).one⟩
structure eI(V:RV):Prop where
 l0:V.lines.length<2^30
 l1:V.aJ.length<2^30
 l2:V.aj.length<2^30
 l3:V.aD.length<2^30
 l4:V.aG.length<2^30
 l5:V.aO.length<2^30
def fk.len{V}(w:fk V.an):eI V:=by
 have h0:=w.l0;have h1:=w.l1;have h2:=w.l2;have h3:=w.l3;have h4:=w.l4;have h5:=w.l5;simp only[RV.an,X2]at h0 h1 h2 h3 h4 h5;exact⟨Om,Om,Om,Om,Om,Om⟩
def jW{V:RV}:mS V.an=V.aj.map λx=>x.1.name:=by simp[mS,RV.an,aah]
def gD{V:RV}:hO V.an=V.aD.map λx=>x.1.name:=by simp[hO,RV.an,aah]
def eF{V:RV}:fM V.an=V.aG.map λx=>x.1.name:=by simp[fM,RV.an,aah]
section
variable {P:Program}(T:fI P) {h:ah}
include T
def r205{V}(o:aC h V)(l:eI V){n}(hn:n∈gP V.an):ay P 205 [.agg V.row,.str n] h (λv _=>v=.agg (cB (dO V.an n))):=by
 refine .eG 13 T.mix T.c205 ?_;intro ts hlen t0 t1;unfold fn205;have QO:=@aC.box _ _ o;have hlt:aZ (gP V.an) n<V.lines.length:=by have:=cM hn;simpa [gP,RV.an]using this
 have ei:cP (λx:gN=>decide (x.name=n)) V.lines=(aZ (gP V.an) n:Int):=ep (f:=gN.name) hn;have ix:aX 3 V.s0 (.i (aZ (gP V.an) n:Int))=some (cW V.s0 3 (aZ (gP V.an) n),.au):=o.i0.dM hlt;have ld:∀{k:ah},Ext h k->ar (some 3) (cW V.s0 3 (aZ (gP V.an) n)) (λb=>k[b]?)=some (.agg (cB (V.lines[aZ (gP V.an) n])),.au):=λ{k} e=>o.i0.kR hlt e
 have sp:dO V.an n=V.lines[aZ (gP V.an) n]:=cV hn;rw[sp];unfold cB at ld ⊢;refine Rs (A4 t0 t1 @QO @gk) ?_;refine WF.ce T.c142 (r142 T (o.i0.ext Xx) (by have:=l.l0;omega) n) λg1=>?_
 exact Dd
def r134{V}(o:aC h V)(l:eI V){n}(hn:n∈jK V.an):ay P 134 [.agg V.row,.str n] h (λv _=>v=.agg (dV (jz V.an n))):=by
 refine .eG 13 T.mix T.c134 ?_;intro ts hlen t0 t1;unfold fn134;have QO:=@aC.box _ _ o;have hlt:aZ (jK V.an) n<V.aJ.length:=by have:=cM hn;simpa [jK,RV.an]using this
 have ei:cP (λx:rW=>decide (x.name=n)) V.aJ=(aZ (jK V.an) n:Int):=ep (f:=rW.name) hn;have ix:aX 2 V.s1 (.i (aZ (jK V.an) n:Int))=some (cW V.s1 2 (aZ (jK V.an) n),.au):=o.i1.dM hlt;have ld:∀{k:ah},Ext h k->ar (some 2) (cW V.s1 2 (aZ (jK V.an) n)) (λb=>k[b]?)=some (.agg (dV (V.aJ[aZ (jK V.an) n])),.au):=λ{k} e=>o.i1.kR hlt e
 have sp:jz V.an n=V.aJ[aZ (jK V.an) n]:=cV hn;rw[sp];unfold dV at ld ⊢;refine Rs (A4 t0 t1 @QO @lA) ?_;refine WF.ce T.c143 (r143 T (o.i1.ext Xx) (by have:=l.l1;omega) n) λg1=>?_
 exact Dd
def r77{V:RV}(o:aC h V)(l:eI V){n:By}(hn:n∈mS V.an):ay P 77 [.agg V.row,.str n] h (λv _=>∃x∈V.aj,x.1=qX V.an n/\v=.agg (bn x)):=by
 refine .eG 13 T.mix T.c77 ?_;intro ts hlen t0 t1;unfold fn77 Dl;have QO:=@aC.box _ _ o;have hlt:aZ (mS V.an) n<V.aj.length:=by have:=cM hn;simpa [mS,RV.an]using this
 have ei:cP (λx:jP×AV=>decide (x.1.name=n)) V.aj=(aZ (mS V.an) n:Int):=(ep (f:=λx:jP×AV=>x.1.name) (by rw[<-jW];exact hn)).trans (by rw[jW]);have ix:aX 3 V.s2 (.i (aZ (mS V.an) n:Int))=some (cW V.s2 3 (aZ (mS V.an) n),.au):=o.i2.dM hlt;have ld:∀{k:ah},Ext h k->ar (some 3) (cW V.s2 3 (aZ (mS V.an) n)) (λb=>k[b]?)=some (.agg (bn (V.aj[aZ (mS V.an) n])),.au):=λ{k} e=>o.i2.kR hlt e
 have sp:(V.aj[aZ (mS V.an) n]).1=qX V.an n:=by
  have:=cV (f:=jP.name) (l:=V.an.aj) (n:=n) (d:=DV) hn;rw[show qX V.an n=_ from this];exact Dc
 have on:=o.jl.1 (V.aj[aZ (mS V.an) n]) (Ya _);have Sm:V.aj[aZ (mS V.an) n]∈V.aj:=Ya _;generalize V.aj[aZ (mS V.an) n]=x at *;unfold bn at ld ⊢;refine Rs (A4 t0 t1 @QO @fK) ?_;refine WF.ce T.c136 (r136 T (o.i2.ext Xx) o.jl.1 (by have:=l.l2;omega) n) λg1=>?_
 exact z109
def r245{V:RV}(o:aC h V)(l:eI V){n:By}(hn:n∈hO V.an):ay P 245 [.agg V.row,.str n] h (λv _=>∃x∈V.aD,x.1=gS V.an n/\v=.agg (aV x)):=by
 refine .eG 13 T.mix T.c245 ?_;intro ts hlen t0 t1;unfold fn245;have QO:=@aC.box _ _ o;have hlt:aZ (hO V.an) n<V.aD.length:=by have:=cM hn;simpa [hO,RV.an]using this
 have ei:cP (λx:gy×AV=>decide (x.1.name=n)) V.aD=(aZ (hO V.an) n:Int):=(ep (f:=λx:gy×AV=>x.1.name) (by rw[<-gD];exact hn)).trans (by rw[gD]);have ix:aX 4 V.s3 (.i (aZ (hO V.an) n:Int))=some (cW V.s3 4 (aZ (hO V.an) n),.au):=o.i3.dM hlt;have ld:∀{k:ah},Ext h k->ar (some 4) (cW V.s3 4 (aZ (hO V.an) n)) (λb=>k[b]?)=some (.agg (aV (V.aD[aZ (hO V.an) n])),.au):=λ{k} e=>o.i3.kR hlt e
 have sp:(V.aD[aZ (hO V.an) n]).1=gS V.an n:=by
  have:=cV (f:=gy.name) (l:=V.an.aD) (n:=n) (d:=BX) hn;rw[show gS V.an n=_ from this];exact Dc
 have on:=o.jl.2.1 (V.aD[aZ (hO V.an) n]) (Ya _);have Sm:V.aD[aZ (hO V.an) n]∈V.aD:=Ya _;generalize V.aD[aZ (hO V.an) n]=x at *;unfold aV at ld ⊢;refine Rs (A4 t0 t1 @QO @fS) ?_;refine WF.ce T.c144 (r144 T (o.i3.ext Xx) o.jl.2.1 (by have:=l.l3;omega) n) λg1=>?_
 exact z109
def r124{V:RV}(o:aC h V)(l:eI V){n:By}(hn:n∈fM V.an):ay P 124 [.agg V.row,.str n] h (λv _=>∃x∈V.aG,x.1=eS V.an n/\v=.agg (bK x)):=by
 refine .eG 13 T.mix T.c124 ?_;intro ts hlen t0 t1;unfold fn124 Dl;have QO:=@aC.box _ _ o;have hlt:aZ (fM V.an) n<V.aG.length:=by have:=cM hn;simpa [fM,RV.an]using this
 have ei:cP (λx:jv×AV=>decide (x.1.name=n)) V.aG=(aZ (fM V.an) n:Int):=(ep (f:=λx:jv×AV=>x.1.name) (by rw[<-eF];exact hn)).trans (by rw[eF]);have ix:aX 3 V.s4 (.i (aZ (fM V.an) n:Int))=some (cW V.s4 3 (aZ (fM V.an) n),.au):=o.i4.dM hlt;have ld:∀{k:ah},Ext h k->ar (some 3) (cW V.s4 3 (aZ (fM V.an) n)) (λb=>k[b]?)=some (.agg (bK (V.aG[aZ (fM V.an) n])),.au):=λ{k} e=>o.i4.kR hlt e
 have sp:(V.aG[aZ (fM V.an) n]).1=eS V.an n:=by
  have:=cV (f:=jv.name) (l:=V.an.aG) (n:=n) (d:=tU) hn;rw[show eS V.an n=_ from this];exact Dc
 have on:=o.jl.2.2 (V.aG[aZ (fM V.an) n]) (Ya _);have Sm:V.aG[aZ (fM V.an) n]∈V.aG:=Ya _;generalize V.aG[aZ (fM V.an) n]=x at *;unfold bK at ld ⊢;refine Rs (A4 t0 t1 @QO @fy) ?_;refine WF.ce T.c145 (r145 T (o.i4.ext Xx) o.jl.2.2 (by have:=l.l4;omega) n) λg1=>?_
 exact z109
def r218{V}(o:aC h V)(l:eI V){n}(hn:n∈jg V.an):ay P 218 [.agg V.row,.str n] h (λv _=>v=.agg (dm (gX V.an n))):=by
 refine .eG 13 T.mix T.c218 ?_;intro ts hlen t0 t1;unfold fn218;have QO:=@aC.box _ _ o;have hlt:aZ (jg V.an) n<V.aO.length:=by have:=cM hn;simpa [jg,RV.an]using this
 have ei:cP (λx:nE=>decide (x.name=n)) V.aO=(aZ (jg V.an) n:Int):=ep (f:=nE.name) hn;have ix:aX 4 V.s5 (.i (aZ (jg V.an) n:Int))=some (cW V.s5 4 (aZ (jg V.an) n),.au):=o.i5.dM hlt;have ld:∀{k:ah},Ext h k->ar (some 4) (cW V.s5 4 (aZ (jg V.an) n)) (λb=>k[b]?)=some (.agg (dm (V.aO[aZ (jg V.an) n])),.au):=λ{k} e=>o.i5.kR hlt e
 have sp:gX V.an n=V.aO[aZ (jg V.an) n]:=cV hn;rw[sp];unfold dm at ld ⊢;refine Rs (A4 t0 t1 @QO @gW) ?_;refine WF.ce T.c146 (r146 T (o.i5.ext Xx) (by have:=l.l5;omega) n) λg1=>?_
 exact Dd
def Ln{V}(o:aC h V)(l:eI V)(n:By):ay P 86 [.agg V.row,.i 0,.str n] h (λv _=>v=.bool (dw V.an 0 n)):=by
 refine .nL 47 T.mix T.c86 ?_;intro ts hlen t0 t1 t2;unfold fn86;have QO:=@aC.box _ _ o;have eh:dw V.an 0 n=decide (0<=cP (λx=>decide (x.name=n)) V.lines):=(fi (f:=gN.name)).symm;rw[eh]
 skip
 refine Rs (A7 t0 t1 t2 @QO @gk @Yi @Yp) ?_;refine WF.ce T.c142 (r142 T (o.i0.ext Xx) (by have:=l.l0;omega) n) λg1=>?_
 exact FE
def Lm{V}(o:aC h V)(l:eI V)(n:By):ay P 86 [.agg V.row,.i 1,.str n] h (λv _=>v=.bool (dw V.an 1 n)):=by
 refine .nL 47 T.mix T.c86 ?_;intro ts hlen t0 t1 t2;unfold fn86;have QO:=@aC.box _ _ o;have eh:dw V.an 1 n=decide (0<=cP (λx=>decide (x.name=n)) V.aJ):=(fi (f:=rW.name)).symm;rw[eh]
 skip
 have d0:((1:Int)=0)=False:=Zr De;refine Rs (A8 t0 t1 t2 @QO @lA @Yi @Yp @d0) ?_;refine WF.ce T.c143 (r143 T (o.i1.ext Xx) (by have:=l.l1;omega) n) λg1=>?_
 exact FE
def Ll{V:RV}(o:aC h V)(l:eI V)(n:By):ay P 86 [.agg V.row,.i 2,.str n] h (λv _=>v=.bool (dw V.an 2 n)):=by
 refine .nL 47 T.mix T.c86 ?_;intro ts hlen t0 t1 t2;unfold fn86;have QO:=@aC.box _ _ o;have eh:dw V.an 2 n=decide (0<=cP (λx=>decide (x.1.name=n)) V.aj):=by
  rw[fi (f:=λx:jP×AV=>x.1.name),<-jW];rfl
 rw[eh]
 skip
 have d0:((2:Int)=0)=False:=Zr De;have d1:((2:Int)=1)=False:=Zr De;refine Rs (A9 t0 t1 t2 @QO @fK @Yi @Yp @d0 @d1) ?_;refine WF.ce T.c136 (r136 T (o.i2.ext Xx) o.jl.1 (by have:=l.l2;omega) n) λg1=>?_
 exact FE
def Lk{V:RV}(o:aC h V)(l:eI V)(n:By):ay P 86 [.agg V.row,.i 3,.str n] h (λv _=>v=.bool (dw V.an 3 n)):=by
 refine .nL 47 T.mix T.c86 ?_;intro ts hlen t0 t1 t2;unfold fn86;have QO:=@aC.box _ _ o;have eh:dw V.an 3 n=decide (0<=cP (λx=>decide (x.1.name=n)) V.aD):=by
  rw[fi (f:=λx:gy×AV=>x.1.name),<-gD];rfl
 rw[eh]
 skip
 have d0:((3:Int)=0)=False:=Zr De;have d1:((3:Int)=1)=False:=Zr De;have d2:((3:Int)=2)=False:=Zr De;refine Rs (o8 t0 t1 t2 @QO @fS @Yi @Yp @d0 @d1 @d2) ?_;refine WF.ce T.c144 (r144 T (o.i3.ext Xx) o.jl.2.1 (by have:=l.l3;omega) n) λg1=>?_
 exact FE
def Lj{V:RV}(o:aC h V)(l:eI V)(n:By):ay P 86 [.agg V.row,.i 4,.str n] h (λv _=>v=.bool (dw V.an 4 n)):=by
 refine .nL 47 T.mix T.c86 ?_;intro ts hlen t0 t1 t2;unfold fn86;have QO:=@aC.box _ _ o;have eh:dw V.an 4 n=decide (0<=cP (λx=>decide (x.1.name=n)) V.aG):=by
  rw[fi (f:=λx:jv×AV=>x.1.name),<-eF];rfl
 rw[eh]
 skip
 have d0:((4:Int)=0)=False:=Zr De;have d1:((4:Int)=1)=False:=Zr De;have d2:((4:Int)=2)=False:=Zr De;have d3:((4:Int)=3)=False:=Zr De;refine Rs (pa t0 t1 t2 @QO @fy @Yi @Yp @d0 @d1 @d2 @d3) ?_;refine WF.ce T.c145 (r145 T (o.i4.ext Xx) o.jl.2.2 (by have:=l.l4;omega) n) λg1=>?_
 exact FE
def Li{V}(o:aC h V)(l:eI V)(n:By):ay P 86 [.agg V.row,.i 5,.str n] h (λv _=>v=.bool (dw V.an 5 n)):=by
 refine .nL 47 T.mix T.c86 ?_;intro ts hlen t0 t1 t2;unfold fn86;have QO:=@aC.box _ _ o;have eh:dw V.an 5 n=decide (0<=cP (λx=>decide (x.name=n)) V.aO):=(fi (f:=nE.name)).symm;rw[eh]
 skip
 have d0:((5:Int)=0)=False:=Zr De;have d1:((5:Int)=1)=False:=Zr De;have d2:((5:Int)=2)=False:=Zr De;have d3:((5:Int)=3)=False:=Zr De;have d4:((5:Int)=4)=False:=Zr De;refine Rs (qt t0 t1 t2 @QO @gW @Yi @Yp @d0 @d1 @d2 @d3 @d4) ?_;refine WF.ce T.c146 (r146 T (o.i5.ext Xx) (by have:=l.l5;omega) n) λg1=>?_
 exact FE
def r86{V:RV}(o:aC h V)(l:eI V){t:Nat}(ht:t<6)(n:By):ay P 86 [.agg V.row,.i t,.str n] h (λv _=>v=.bool (dw V.an t n)):=by
 match t,ht with
 | 0,_=>exact Ln T o l n
 | 1,_=>exact Lm T o l n
 | 2,_=>exact Ll T o l n
 | 3,_=>exact Lk T o l n
 | 4,_=>exact Lj T o l n
 | 5,_=>exact Li T o l n
def r135(x:rW)(t:Int):ay P 135 [.agg (dV x),.i t] h (λv _=>v=.bool (decide (t<=x.last))):=by
 refine .of T.mix T.c135 ?_;unfold fn135 dV;exact Wn Tv
def r76{V}(o:aC h V)(l:eI V){x}(hx:aH h x.2 1 (x.1.aJ.map ao))(hl:x.1.aJ.length<2^30)(hk:∀n∈x.1.aJ,n∈jK V.an)(t:Int):
  ay P 76 [.agg V.row,.agg (bn x),.i t] h (λv _=>v=.bool (iI V.an x.1 t)):=by
 refine .nL 24 T.mix T.c76 ?_;intro ts hlen t0 t1 t2;unfold fn76;have QO:=@aC.box _ _ o;have ox:=hx.one;unfold bn at t1;refine Rs (A6 t0 t1 t2 @QO @ox hx.aM) ?_;refine WL.inv T.mix (λn ts h'=>∃k:Nat,k<=x.1.aJ.length/\n=x.1.aJ.length-k/\Ext (h++[ak.b V.row]) h'/\iI V.an x.1 t=(x.1.aJ.drop k).any (jA V.an t)/\
   ts.length=24/\slot ts 2=.i t/\slot ts 3=.ptr h.length 0/\slot ts 7=.bool false/\slot ts 11=x.2/\slot ts 12=.i x.1.aJ.length/\slot ts 13=.i k) x.1.aJ.length
  ⟨0,Om,rfl,Xx,rfl,Sn,(Sq t2),(Sq t0),(Sq t0),(Sq t0),(Sq t0),(QI t0)⟩ ?_
 rintro _ ts _ ⟨k,hk',rfl,⟨g,rfl⟩,hs,hlen,t2,t3,t7,t11,t12,t13⟩;by_cases hlt:k<x.1.aJ.length
 ·have hd:x.1.aJ.drop k=x.1.aJ[k]::x.1.aJ.drop (k+1):=Si
  have e3:=fF hlt;have ix:=hx.dM (kk:=.i64) hlt;have ld:∀{k':ah},Ext h k'->ar none (cW x.2 1 k) (λb=>k'[b]?)=some (.str x.1.aJ[k],.au):=λ{k'} e=>hx.kS hlt rfl e
  refine Rs (o8 t2 t3 t7 t11 t12 t13 e3 ix @ld @aE) ?_;refine WF.ce T.c134 (r134 T (o.ext Xx) l (hk _ (Ya hlt))) λg1=>?_
  refine Rs (A6 t2 t3 t7 t11 t12 t13) ?_;refine WF.ce T.c135 (r135 T _ t) λg2=>?_
  have hr:decide (t<=(jz V.an x.1.aJ[k]).last)=jA V.an t x.1.aJ[k]:=rfl;rw[hr];rw[hd,aai]at hs;cases R7:jA V.an t x.1.aJ[k]with
  |true=>
   rw[R7,Bool.true_or]at hs;rw[hs];exact Rs (A6 t2 t3 t7 t11 t12 t13) Tv
  |false=>
   rw[R7,Z6]at hs;have e5:=wrapN (n:=k) Om;refine Rs (A7 t2 t3 t7 t11 t12 t13 e5) ?_;exact⟨_,Om,k+1,Om,rfl,hs,rfl⟩
 ·have e3:=gK hlt;have e4:k=x.1.aJ.length:=Om
  rw[e4,YS]at hs;rw[hs];refine Rs (A7 t2 t3 t7 t11 t12 t13 e3) ?_;rfl
end
structure Pt(V:RV):Prop where
 sh:∀x∈V.aj,(∀n∈x.1.aJ,n∈jK V.an)/\x.1.aJ.length<2^30
def fk.yT{V}(w:fk V.an):Pt V:=by
 refine⟨λx hx=>?_⟩;have:=(w.sh x.1 (Ym hx)).2.2;have hle:=rl this.1 (λt ht=>this.2 t ht);have h1:=w.l1;have VC:(jK V.an).length=V.an.aJ.length:=by simp[jK]
 exact⟨this.2,Om⟩
section
variable {P:Program}(T:fI P) {h:ah}
include T
def r139{V}(o:aC h V)(l:eI V)(ir:Pt V){x}(hm:x∈V.aj){t b c}(hb:h[b]? =some (.b V.row))(hc:h[c]? =some (.b [.i t])):
  ay P 139 [.agg (bn x),.ptr b 0,.ptr c 0] h (λv _=>v=.bool (!iI V.an x.1 t)):=by
 refine .nL 10 T.mix T.c139 ?_;intro ts hlen t0 t1 t2;unfold fn139;have ox:=(o.e2 x hm).one;have lb:∀{k:ah}{n:Option Nat}{a:Nat},Ext h k->ar n (.ptr b a) (λz=>k[z]?)=dJ n a (.b V.row):=λe=>aA (e.some hb)
 have lc:∀{k:ah}{n:Option Nat}{a:Nat},Ext h k->ar n (.ptr c a) (λz=>k[z]?)=dJ n a (.b [.i t]):=λe=>aA (e.some hc)
 have hsf:=λ(k:ah) (e:Ext h k)=>r76 T (o.ext e) l ((o.e2 x hm).ext e) (ir.sh x hm).2 (ir.sh x hm).1 t
 unfold bn at t0 hsf;refine Rs (A7 t0 t1 t2 @ox @lb @lc @aE) ?_;refine WF.ce T.c76 (hsf _ Xx) λg1=>?_
 exact FE
def r80{V}(o:aC h V)(l:eI V)(ir:Pt V)(t:Int):ay P 80 [.agg V.row,.i t] h (λv h'=>aH h' v 1 ((kf V.an t).map ao)):=by
 refine .eG 10 T.mix T.c80 ?_;intro ts hlen t0 t1;unfold fn80;have QO:=@aC.box _ _ o;refine Rs (A4 t0 t1 @QO @fK) ?_;have hm:∀x,x∈V.aj->∀k,Ext (h++[ak.b V.row]++[ak.b [AV.i t]]) k->bF P (.func (.func 139) [] [.ptr h.length 0,.ptr (h++[ak.b V.row]).length 0]) [.agg (bn x)] k (λv _=>v=.bool (!iI V.an x.1 t)):=λx hx k e=>
  bF.of (a:=[]) T.c139 (r139 T (o.ext (Ext.trans Xx e)) l ir hx (e.some ur) (e.some bh))
 refine WF.res T.c138 (r138 T (o.i2.ext Xx) o.jl.1 (by have:=l.l2;omega) (λx=>!iI V.an x.1 t) hm) ?_;rintro s1 g1 hf;refine Rs (A2 t0 t1) ?_;have Rn:(V.aj.filter λx=>!iI V.an x.1 t).length<=V.aj.length:=Yu _ _;refine WF.res T.c137 (r137 T hf.a8 (λx hx=>o.jl.1 x ((Zd.1 hx).1)) (by have:=l.l2;omega) (λx=>x.1.name) (λx hx k e=>bF.of (a:=[]) (c:=[]) T.c140 (r140 T x (o.jl.1 x ((Zd.1 hx).1))))) ?_;rintro s2 g2 Tx;have eu:kf V.an t=(V.aj.filter λx=>!iI V.an x.1 t).map λx=>x.1.name:=by
  simp only[kf,RV.an,ZZ,ZD];rfl
 rw[eu];have:=Tx.a8;refine Rs (A2 t0 t1) ?_;exact this
def r255{x}(ox:x.2.one=true){n b}(hb:h[b]? =some (.b [.str n])):ay P 255 [.agg (bn x),.ptr b 0] h (λv _=>v=.bool (decide (x.1.line=n))):=by
 refine .eG 8 T.mix T.c255 ?_;intro ts hlen t0 t1;unfold fn255 yp;have lb:∀{k:ah}{n':Option Nat}{a:Nat},Ext h k->ar n' (.ptr b a) (λz=>k[z]?)=dJ n' a (.b [.str n]):=λe=>aA (e.some hb)
 unfold bn at t0;exact Rs (A4 t0 t1 @ox @lb) Tv
def r206{V}(o:aC h V)(l:eI V)(n:By):ay P 206 [.agg V.row,.str n] h (λv h'=>aH h' v 3 ((V.aj.filter λx=>decide (x.1.line=n)).map bn)):=by
 refine .eG 9 T.mix T.c206 ?_;intro ts hlen t0 t1;unfold fn206;have QO:=@aC.box _ _ o;refine Rs (A4 t0 t1 @QO @fK) ?_;refine WF.res T.c138 (r138 T (o.i2.ext Xx) o.jl.1 (by have:=l.l2;omega) (λx=>decide (x.1.line=n)) (λx hx k e=>bF.of (a:=[]) (c:=[.ptr (h++[ak.b V.row]).length 0]) T.c255 (r255 T (o.jl.1 x hx) (e.some bh)))) ?_;rintro s1 g1 hf;have:=hf.a8;refine Rs (A2 t0 t1) ?_;exact this
def r269{x n b}(hb:h[b]? =some (.b [.str n])):ay P 269 [.agg (dm x),.ptr b 0] h (λv _=>v=.bool (decide (x.yQ=n))):=by
 refine .eG 8 T.mix T.c269 ?_;intro ts hlen t0 t1;unfold fn269 yp;have lb:∀{k:ah}{n':Option Nat}{a:Nat},Ext h k->ar n' (.ptr b a) (λz=>k[z]?)=dJ n' a (.b [.str n]):=λe=>aA (e.some hb)
 unfold dm at t0;exact Rs (A3 t0 t1 @lb) Tv
def r251{V}(o:aC h V)(l:eI V)(n:By):ay P 251 [.agg V.row,.str n] h (λv _=>v=.bool (qd V.an n)):=by
 refine .eG 9 T.mix T.c251 ?_;intro ts hlen t0 t1;unfold fn251;have QO:=@aC.box _ _ o;refine Rs (A4 t0 t1 @QO @gW) ?_;refine WF.ce T.c268 (r268 T (o.i5.ext Xx) (by have:=l.l5;omega) (λx=>decide (x.yQ=n)) (λx hx k e=>bF.of (a:=[]) (c:=[.ptr (h++[ak.b V.row]).length 0]) T.c269 (r269 T (e.some bh)))) λg1=>?_
 refine Rs (A2 t0 t1) ?_;rfl
end
end Go.Abs
namespace Go.Abs
def WF.JZ{P ro ks ts h h' Q fv args d l v}(H:fg P fv args h v h')(K:WP P ro l ks (put ts d v) h' Q):WF P ro false fv args d l ks ts h Q:=
 ⟨v,h',H,λhq=>absurd hq Si,K⟩
structure IterM(P:Program)(f:FuncId)(a c:List AV)(L:List (List AV))(pre:ah->Prop):Prop where
 run:∀(l:Nat) (h:ah) (J:Nat->Nat->ah->Prop) (D:ah->Prop),(∀m i k,J m i k->pre k)->(∀m i k g,J m i k->J m i (k++g))->
  (∀m i (hi:i<L.length) k,J m i k->∃b k',fg P (.func (.yield l) [] []) L[i] k (.bool b) k'/\(∀x,l<x->x<m->k'[x]? =k[x]?)/\(if b=true then J m (i+1) k' else D k'))->
  (∀m k,J m L.length k->D k)->l+1=h.length->pre h->(∀g,J (h++g).length 0 (h++g))->dq P f (a++[.func (.yield l) [] []]++c) h (λ_ k=>D k)
section
variable {P:Program}{ks:List Kt}{ts:TS}{h:ah}{Q:Ex->TS->ah->Prop}
def WC.iterM(hmix:P.follows .mixedOrders=true){f A a c L pre g ps asg body}(hA:bV P f=some A)
  (hg:val ts g=.func (.func f) a c) (hi:IterM P f a c L pre) (hps:∀x∈L,x.length=ps.length) (I:Nat->Nat->ah->ah->Prop) (Fin:Ex->ah->ah->Prop)
  (h0:∀g,I (h.length+1+g.length) 0 h g) (hcl:∀m i h' g g2,I m i h' g->I m i h' (g++g2)) (hp0:∀X,pre (h++[X])) (hpre:∀m i h' g X,h'.length=h.length->I m i h' g->pre (h'++[X]++g))
  (step:∀m i (hi:i<L.length) h' g (R B:ak),h'.length=h.length->I m i h' g->
   WC P Cd asg [] (setArgs ts ps L[i]) (h'++[R]++g) λe1 T7 h2=>e1=.normal/\∃h1 g1,h2=h1++[R]++g1/\h1.length=h.length/\
    WC P Cd body [] T7 (h1++[B]++g1) λe2 _ h4=>∃h3 g3,h4=h3++[B]++g3/\h3.length=h.length/\(∀x,x+h.length+1<m->g3[x]? =g[x]?)/\(if e2=.normal then I m (i+1) h3 g3 else Fin e2 h3 g3))
  (done:∀e h' g,h'.length=h.length->(if e=.normal then ∃m,I m L.length h' g else Fin e h' g)->WE P bT e ks ts (h'++[ak.dead]++g) Q):WC P bT (.eQ g ps asg body) ks ts h Q:=by
 let J:Nat->Nat->ah->Prop:=λm i k=>∃h' g,k=h'++[.loop .ready .normal ts ps asg body]++g/\h'.length=h.length/\I m i h' g
 let D:ah->Prop:=λk=>∃e h' g st,k=h'++[.loop st e ts ps asg body]++g/\h'.length=h.length/\st≠.busy/\(if e=.normal then ∃m,I m L.length h' g else Fin e h' g)
 obtain⟨v,h2,hs,e,h',g',st,rfl,hl,bW,So⟩:=hi.run h.length (h++[.loop .ready .normal ts ps asg body]) J D
  (λm i k hJ=>by obtain⟨h',g,rfl,h1,h2⟩:=hJ;exact hpre m i h' g _ h1 h2)
  (λm i k g2 hJ=>by obtain⟨h',g,rfl,h1,h2⟩:=hJ;exact⟨h',g++g2,by rw[XV],h1,hcl _ _ _ _ _ h2⟩)
  (λm i hi k hJ=>by
   obtain⟨h',g,rfl,h1,h2⟩:=hJ;obtain⟨e1,T7,k2,q1,rfl,h3,g3,rfl,h4,q2⟩:=W.sound hmix (step m i hi h' g (.loop .ready .normal ts ps asg body) (.loop .busy .normal ts ps asg body) h1 h2);obtain⟨e2,ts3,k3,q3,h5,g5,rfl,h6,q5,q4⟩:=W.sound hmix q2;have hy:fg P (.func (.yield h.length) [] []) L[i] (h'++[.loop .ready .normal ts ps asg body]++g) (.bool (decide (e2=.normal))) (List.set (h5++[ak.loop .busy .normal ts ps asg body]++g5) h.length (ak.loop (if e2=.normal then .ready else .done) e2 ts ps asg body)):=
    fg.yield (nf h1) (hps _ (Ya hi)) (λr=>q1 (some r) ⟨r,rfl⟩) (nf h4) (λr=>by rw[ru h4];exact q3 (some r) ⟨r,rfl⟩) (nf h6)
   rw[ru h6]at hy;refine⟨decide (e2=.normal),_,hy,?_,?_⟩
   ·intro x hx R0;rw[X6 (by simp;omega),X6 (by simp;omega)];have:=q5 (x-h.length-1) Om;simp only[XS,XX,X1,h6,h1,YJ,Nat.sub_sub]at this ⊢;exact this
   by_cases he:e2=.normal
   ·exact JE
   ·rw[X5 he]at q4;simp only[he,Yp,YK,Yb];exact⟨e2,h5,g5,.done,rfl,h6,Si,by rw[X5 he];exact q4⟩)
  (λm k hJ=>by obtain⟨h',g,rfl,h1,h2⟩:=hJ;exact⟨.normal,h',g,.ready,rfl,h1,Si,by rw[X9 rfl];exact⟨m,h2⟩⟩)
  Si (hp0 _) (λg=>⟨h,g,rfl,rfl,by have:=h0 g;simpa only[XS,XX,X1,YJ]using this⟩)
 exact PQ
end
def WC.FX{P ro c ts h Q Q'}(H:WC P ro c [] ts h Q)(hq:∀e ts' h',Q e ts' h'->Q' e ts' h'):WC P ro c [] ts h Q':=W.mono H hq
def qD{A B:ah}{K K':ak}{b:Nat}(h:b≠A.length):(A++[K]++B)[b]? =(A++[K']++B)[b]? :=by
 by_cases h1:b<A.length
 ·rw[XV,XV,XW h1,XW h1]
 ·exact MF
def Il{A B:ah}{K:ak}:(A++[K]++B)[A.length]? =some K:=by
 exact z148
def dC(x:By×Bool):AV×AV:=(.str x.1,.bool x.2)
def gu:List (By×Bool)->By->Bool
 |[],_=>false
 |(a,b)::r,w=>if w=a then b else gu r w
def rL:List (By×Bool)->By->Bool->List (By×Bool)
 |[],w,b=>[(w,b)]
 |(a,c)::r,w,b=>if w=a then(w,b)::r else(a,c)::rL r w b
theorem rN:∀{M}{w w'}{b},gu (rL M w b) w' =if w' =w then b else gu M w'
 |[],w,w',b=>by rw[rL,gu];rfl
 |(a,c)::r,w,w',b=>by
  rw[rL];by_cases h1:w=a
  ·subst h1;rw[X9 rfl,gu,gu];by_cases h2:w' =w
   ·rw[X9 h2,X9 h2]
   ·rw[X5 h2,X5 h2,X5 h2]
  ·rw[X5 h1,gu,gu,rN];by_cases h2:w' =a
   ·subst h2;rw[X9 rfl,X5 (Zk h1),X9 rfl]
   ·rw[X5 h2,X5 h2]
theorem tB:∀{M}{w},∃o:Option AV,jq .s (.str w) (M.map dC)=some o/\(o=some (.bool (gu M w))\/(o=none/\gu M w=false))
 |[],w=>⟨none,rfl,.inr ⟨rfl,rfl⟩⟩
 |(a,c)::r,w=>by
  by_cases h1:w=a
  ·subst h1;refine⟨some (.bool c),?_,.inl ?_⟩
   ·simp only[YR,dC,jq,dx,BEq.rfl]
   ·rw[gu,X9 rfl]
  ·obtain⟨o,h2,h3⟩:=tB (M:=r) (w:=w);have hb:(w==a)=false:=by simp[h1]
   refine⟨o,?_,?_⟩
   ·simp only[YR,dC,jq,dx,hb];exact h2
   ·rw[gu,X5 h1];exact h3
theorem uO:∀{M}{w}{b},pe .s (.str w) (.bool b) (M.map dC)=some ((rL M w b).map dC)
 |[],w,b=>rfl
 |(a,c)::r,w,b=>by
  by_cases h1:w=a
  ·subst h1;rw[rL,X9 rfl];simp only[YR,dC,pe,dx,BEq.rfl]
  ·have hb:(w==a)=false:=by simp[h1]
   have:=uO (M:=r) (w:=w) (b:=b);rw[rL,X5 h1];show(match some (w==a)with|some true=>some ((AV.str w,AV.bool b)::r.map dC)|some false=>(pe .s (.str w) (.bool b) (r.map dC)).map ((AV.str a,AV.bool c)::·)|none=>none)=_;rw[hb,this];rfl
def tX(kk:CK)(m k x:AV)(G:Nat->Option ak):Option (AV×iH):=
 match m with
 |.map r=>
  match G r with
  |some (.bo es)=>
   match pe kk k x es with
   |some es'=>some (az,.set r (.bo es'))
   |none=>none
  |_=>none
 |_=>none
def tW{kk r k x G es es'}(hb:G r=some (.bo es))(hu:pe kk k x es=some es'):tX kk (.map r) k x G=some (az,.set r (.bo es')):=by
 simp only[tX,hb,hu]
def jk{kk m k x ρ G N}:stepT (.fu kk m k x) ρ G N=tX kk (ρ m) (ρ k) (ρ x) G:=rfl
def iA(kk:CK)(z:AV)(ok:Bool)(m k:AV)(G:Nat->Option ak):Option (AV×iH):=
 match m with
 |.cY=>some (if ok then .dN [z,.bool false]else z,.au)
 |.map r=>
  match G r with
  |some (.bo es)=>
   match jq kk k es with
   |some (some v)=>some (if ok then .dN [v,.bool true]else v,.au)
   |some none=>some (if ok then .dN [z,.bool false]else z,.au)
   |none=>none
  |_=>none
 |_=>none
def bX{kk z ok m k ρ G N}:stepT (.look kk z ok m k) ρ G N=iA kk z ok (ρ m) (ρ k) G:=rfl
def lG(z:AV)(ok:Bool):Option AV->Option (AV×iH)
 |some v=>some (if ok then .dN [v,.bool true]else v,.au)
 |none=>some (if ok then .dN [z,.bool false]else z,.au)
def rr{kk z ok r k G es o}(hb:G r=some (.bo es))(hu:jq kk k es=some o):
  iA kk z ok (.map r) k G=lG z ok o:=by
 simp only[iA,hb,hu];cases o<;>rfl
def pr{r w G M}(hb:G r=some (.bo (M.map dC))):iA .s (.bool false) false (.map r) (.str w) G=some (.bool (gu M w),.au):=by
 obtain⟨o,h1,h2⟩:=tB (M:=M) (w:=w);rw[rr hb h1];rcases h2 with rfl|⟨rfl,h2⟩
 ·rfl
 ·rw[h2];rfl
def rm{r w b G M}(hb:G r=some (.bo (M.map dC))):tX .s (.map r) (.str w) (.bool b) G=some (az,.set r (.bo ((rL M w b).map dC))):=tW hb uO
def ai.tl:ai->ai
 |.seq _ b=>b
 |c=>c
def ai.hd:ai->ai
 |.seq a _=>a
 |c=>c
def ai.dr:Nat->ai->ai
 | 0,c=>c
 |n+1,c=>c.tl.dr n
def ai.HE:ai->ai
 |.block _ a=>a
 |.loop a=>a
 |c=>c
def ai.DL:ai->ai
 |.eQ _ _ a _=>a
 |c=>c
def ai.C7:ai->ai
 |.eQ _ _ _ b=>b
 |c=>c
def Fr.swap'{N A B g s es cs}(hs:Fr N (A++g) s es cs)(hA:A.length=N)(hB:B.length=N):Fr N (B++g) s es cs:=by
 subst hA;exact hs.swap hB
set_option maxRecDepth 10000
attribute [local irreducible] WP WC WE WB WR WF WL WG gg
def KP:ai:=((fn214).body.tl).hd
def He:ai:=KP.tl.HE
def NV:ai:=(fn214).body.tl.tl
def KO:(fn214).body=.seq ((fn214).body.hd) (.seq (.seq KP.hd (.block 0 (.eQ (.t 16) [17,18] He.DL He.C7))) NV):=rfl
section
variable {P:Program}(T:fI P) {h:ah}
include T
def B2{x:gy×AV}{Hm:List (By×Bool)->ah}{mb bb xb:Nat}(a1:∀M,(Hm M)[mb]? =some (.bo (M.map dC)))(a2:∀M,(Hm M)[bb]? =some (.b [.map mb]))(a3:∀M,(Hm M)[xb]? =some (.b (aV x)))
  (a4:∀M K:List (By×Bool),(Hm M).set mb (.bo (K.map dC))=Hm K) (a5:∀M,aH (Hm M) x.2 1 (x.1.bu.map ao)) (hl:x.1.bu.length<2^30) {ts:TS}(hlen:ts.length=56) (t4:slot ts 4=.ptr bb 0) (t6:slot ts 6=.ptr xb 0)
  {M:List (By×Bool)}{S:List (By)}(hM:∀w,gu M w=decide (w∈S)):
  WC P Cd He.C7 [] ts (Hm M) λe _ h4=>e=.normal/\∃M',h4=Hm M'/\∀w,gu M' w=decide (w∈(if x.1.name∈S then S++x.1.bu else S)):=by
 have l2:∀{M n o},ar n (.ptr bb o) (λz=>(Hm M)[z]?)=dJ n o (.b [.map mb]):=λ{M _ _}=>aA (a2 M)
 have l3:∀{M n o},ar n (.ptr xb o) (λz=>(Hm M)[z]?)=dJ n o (.b [.str x.1.name,.str x.1.gives,.str x.1.line,x.2]):=λ{M _ _}=>aA (a3 M)
 have lk:∀{M w},iA .s (.bool false) false (.map mb) (.str w) (λz=>(Hm M)[z]?)=some (.bool (gu M w),.au):=λ{M _}=>pr (a1 M)
 have mp:∀{M w b},tX .s (.map mb) (.str w) (.bool b) (λz=>(Hm M)[z]?)=some (az,.set mb (.bo ((rL M w b).map dC))):=λ{M _ _}=>rm (a1 M)
 have TO:=λM G=>(a5 M).aM G
 unfold He KP fn214;simp only[ai.tl,ai.hd,ai.HE,ai.C7]
 repeat (first|simp (config:={maxSteps:=1000000}) only[aQ,aT,ba,bd,reduceAdd,reduceMul,reduceLeDiff,reduceEqDiff,bg,hlen,Yb,Yf,t4,t6,l2,l3,TO M]|simp (config:={maxSteps:=1000000}) (disch:=first|(simp only[XS,XX,X1]<;>omega)|rfl|omega|fail) only[eo,aQ,aT,ba,bd,reduceAdd,reduceMul,reduceLeDiff,reduceEqDiff,bg,hlen,Yb,Yf,t4,t6,l2,l3,TO M])
 refine WL.inv T.mix (λn ts h'=>∃(k:Nat) (M':List (By×Bool)),k<=x.1.bu.length/\n=x.1.bu.length-k/\h' =Hm M'/\(∀w,gu M' w=decide (w∈S\/(x.1.name∈S/\w∈x.1.bu.take k)))/\
   ts.length=56/\slot ts 4=.ptr bb 0/\slot ts 6=.ptr xb 0/\slot ts 20=x.2/\slot ts 21=.i x.1.bu.length/\slot ts 22=.i k) x.1.bu.length
  ⟨0,M,Om,rfl,rfl,λw=>by rw[hM];simp,Sn,(Sq t4),(Sq t6),(Sq t6),(Sq t6),iQ⟩ ?_
 clear t4 t6 hlen hM;clear M ts;rintro _ ts _ ⟨k,M,hk',rfl,rfl,hM,hlen,t4,t6,t20,t21,t22⟩;by_cases hlt:k<x.1.bu.length
 ·have e3:=fF hlt;have ix:=(a5 M).dM (kk:=.i64) hlt;have ld:ar none (cW x.2 1 k) (λb=>(Hm M)[b]?)=some (.str x.1.bu[k],.au):=(a5 M).kS hlt rfl (Ext.refl _);have e5:=wrapN (n:=k) Om;have hnew:∀w,gu (rL M x.1.bu[k] (gu M x.1.bu[k]||gu M x.1.name)) w=decide (w∈S\/(x.1.name∈S/\w∈x.1.bu.take (k+1))):=by
   intro w;rw[rN];have ht:x.1.bu.take (k+1)=x.1.bu.take k++[x.1.bu[k]]:=by rw[YF,XY hlt];rfl
   rw[ht];by_cases hw:w=x.1.bu[k]
   ·rw[X9 hw,hM,hM,hw,<-Bool.decide_or,ZJ,X3,Yl];constructor
    ·rintro((h1|h1)|(h1|h1))
     ·exact .inl h1
     ·exact .inr ⟨h1.1,.inl h1.2⟩
     ·exact .inr ⟨h1,.inr rfl⟩
     ·exact .inr ⟨h1.1,.inr rfl⟩
    ·rintro(h1|h1)
     ·exact .inl (.inl h1)
     ·exact .inr (.inl h1.1)
   ·rw[X5 hw,hM,ZJ,X3,Yl];simp only[hw,Zz]
  cases hb:gu M x.1.bu[k]with
  |true=>
   rw[hb,Bool.true_or]at hnew;exact PF
  |false=>
   rw[hb,Z6]at hnew;exact PF
 ·have e3:=gK hlt;have e4:k=x.1.bu.length:=Om
  rw[e4,Yz]at hM;refine Rs (A6 t4 t6 t20 t21 t22 e3) ?_;refine⟨M,rfl,λw=>?_⟩;rw[hM,ZJ];by_cases hx:x.1.name∈S<;>simp[hx]
end
def NT:gy×AV:=(BX,.af)
def tG(X:List (gy×AV)):List (List AV):=(List.range X.length).map λj=>[.i ((X.length-1-j:Nat):Int),.agg (aV (X.getD (X.length-1-j) NT))]
def jj{X}:(tG X).length=X.length:=by simp[tG]
def tF{X j}(hj:j<(tG X).length):(tG X)[j]=[.i ((X.length-1-j:Nat):Int),.agg (aV (X[X.length-1-j]'(by rw[jj]at hj;omega)))]:=by
 have h1:X.length-1-j<X.length:=by rw[jj]at hj;omega
 simp only[tG,Y7,List.getElem_range,YC,XY h1,Z8]
structure qk(V:RV)(m:By)(cm cr:Nat)(k:ah):Prop where
 m:k[cm]? =some (.b [.str m])
 r:k[cr]? =some (.b V.row)
 o:aC k V
theorem qk.ext{V m cm cr k k'}(p:qk V m cm cr k)(e:Ext k k'):qk V m cm cr k':=⟨e.some p.m,e.some p.r,p.o.ext e⟩
def iK(V:RV)(m:By):List (gy×AV):=V.aD.filter λx=>decide (x.1.name∈cS m V.an.aD.reverse)
def zJ{m:By}{l:List gy}{i:Nat}(hi:i<l.length):cS m (l.take (i+1))=(if l[i].name∈cS m (l.take i)then cS m (l.take i)++l[i].bu else cS m (l.take i)):=by
 rw[YF,XY hi,cS,List.foldl_append];rfl
def Ae{α:Type}{p:α->Bool}{l:List α}{k:Nat}(hk:k<l.length)(hp:p l[k]=true):∃h:((l.take k).filter p).length<(l.filter p).length,(l.filter p)[((l.take k).filter p).length]=l[k]:=by
 have e:l.filter p=(l.take k).filter p++(l[k]:: (l.drop (k+1)).filter p):=by
  conv=>lhs;rw[<-Zl k l,ZV hk,ZA,Z7,X9 hp]
 have h:((l.take k).filter p).length<(l.filter p).length:=by rw[e];simp
 refine⟨h,?_⟩;have:(l.filter p)[((l.take k).filter p).length]? =some l[k]:=by rw[e,X6 (X8 _)];simp
 exact(XT.1 this).2
def Ck{α:Type}{p:α->Bool}{l:List α}{k:Nat}(hk:k<l.length):((l.take (k+1)).filter p).length=if p l[k]=true then((l.take k).filter p).length+1 else((l.take k).filter p).length:=by
 rw[YF,XY hk,ZA,XS];cases h:p l[k]<;>simp[h]
def CC{N}:oz .cY N=some (.ptr N 0,.push (.b [.cY])):=rfl
def J5{r N}:kg 1 0 (.map r) N (.b [.cY])=some (az,.set N (.b [.map r])):=rfl
section
variable {P:Program}(T:fI P) {h:ah}
include T
def r215{s}(o:s.one=true):ay P 215 [s] h (λv h'=>v=.func (.func 259) [] [.ptr h.length 0]/\h' =h++[.b [s]]):=by
 refine .of T.mix T.c215 ?_;unfold fn215 yu;exact Ws @o Tv
def zP{b s X}(hl:X.length<2^30):
  Iter P 259 [] [.ptr b 0] (tG X) (λk=>k[b]? =some (.b [s])/\aH k s 4 (X.map aV)):=by
 refine⟨λl h1 J Dn hpre happ Rw SP h0=>dq.of T.mix T.c259 ?_⟩;obtain⟨ts,QP⟩:∃ts,ts=aU 19 ([]++[.func (.yield l) [] []]++[.ptr b 0]):=⟨_,rfl⟩;have hlen:ts.length=19:=by rw[QP];rfl
 have t0:slot ts 0=.func (.yield l) [] []:=by rw[QP];rfl
 have t1:slot ts 1=.ptr b 0:=by rw[QP];rfl
 unfold fn259;show WC P bT _ [] (aU 19 ([]++[.func (.yield l) [] []]++[.ptr b 0])) h1 _;rw[<-QP];clear QP;have p0:=hpre 0 h1 h0;have l0:∀{n o},ar n (.ptr b o) (λz=>h1[z]?)=dJ n o (.b [s]):=λ{_ _}=>aA p0.1
 have e0:IntKind.i64.wrap ((X.length:Int)-1)=(X.length:Int)-1-(0:Nat):=by rw[bw Om Om];omega
 refine Rs (A5 t0 t1 @l0 p0.2.aM e0) ?_;refine WL.inv T.mix (λn ts h'=>∃k:Nat,k<=X.length/\n=X.length-k/\J k h'/\ts.length=19/\slot ts 0=.func (.yield l) [] []/\slot ts 1=.ptr b 0/\slot ts 3=.i ((X.length:Int)-1-k)) X.length
  ⟨0,Om,rfl,h0,Sn,(Sq t0),(Sq t1),(Sq t0)⟩ ?_
 clear t0 t1 hlen l0 p0;clear ts;rintro _ ts h' ⟨k,hk,rfl,hJ,hlen,t0,t1,t3⟩;obtain⟨p1,p2⟩:=hpre _ _ hJ;have l0:∀{n o},ar n (.ptr b o) (λz=>h'[z]?)=dJ n o (.b [s]):=λ{_ _}=>aA p1
 by_cases hlt:k<X.length
 ·have hj:X.length-1-k<X.length:=Om
  have ei:(X.length:Int)-1-k=((X.length-1-k:Nat):Int):=Om
  have e3:decide ((0:Int)<=((X.length-1-k:Nat):Int))=true:=XZ Om;have ix:=p2.dM (kk:=.i64) hj;have ld:ar (some 4) (cW s 4 (X.length-1-k)) (λb=>h'[b]?)=some (.agg (aV X[X.length-1-k]),.au):=p2.kR hj (Ext.refl _);have hwk:IntKind.i64.wrap (((X.length-1-k:Nat):Int)-1)=(X.length:Int)-1-((k+1:Nat):Int):=by rw[bw Om Om];omega
  rw[ei]at t3;refine Rs (A7 t0 t1 t3 @l0 e3 ix @ld) ?_;obtain⟨bb,k',q1,q2⟩:=Rw k (by rw[jj];exact hlt) h' hJ;rw[tF]at q1;refine WF.JZ q1 ?_;cases bb with
  |true=>
   refine Rs (A5 t0 t1 t3 @Yk @hwk) ?_;exact⟨_,Om,k+1,Om,rfl,q2,rfl⟩
  |false=>
   refine Rs (A4 t0 t1 t3 @Yr) ?_;exact q2
 ·have e3:decide ((0:Int)<=(X.length:Int)-1-k)=false:=XU Om;have e4:k=X.length:=Om
  refine Rs (A4 t0 t1 t3 e3) ?_;refine SP h' ?_;rw[jj,<-e4];exact hJ
def r119{V}(o:aC h V)(m:By):ay P 119 [.agg V.row,.str m] h (λv h'=>v=.func (.func 214) [] [.ptr (h.length+1) 0,.ptr h.length 0]/\qk V m (h.length+1) h.length h'):=by
 refine .eG 6 T.mix T.c119 ?_;intro ts hlen t0 t1;unfold fn119;have QO:=@aC.box _ _ o;have hl2:(h++[ak.b V.row]).length=h.length+1:=Si
 refine Rs (A3 t0 t1 @QO) ?_;rw[hl2];refine⟨rfl,?_,ur,o.ext Xx⟩;rw[<-hl2];exact bh
def rA{V:RV}(l:eI V)(hin:∀x∈V.aD,x.1.bu.length<2^30)(m:By)(cm cr:Nat):
  IterM P 214 [] [.ptr cm 0,.ptr cr 0] ((iK V m).map λx=>[.agg (aV x)]) (qk V m cm cr):=by
 refine⟨λlp h J Dn hpre happ Rw SP hlp p0 h0=>dq.of T.mix T.c214 ?_⟩;obtain⟨ts,QP⟩:∃ts,ts=aU 56 ([]++[.func (.yield lp) [] []]++[.ptr cm 0,.ptr cr 0]):=⟨_,rfl⟩;have hlen:ts.length=56:=by rw[QP];rfl
 have t0:slot ts 0=.func (.yield lp) [] []:=by rw[QP];rfl
 have t1:slot ts 1=.ptr cm 0:=by rw[QP];rfl
 have t2:slot ts 2=.ptr cr 0:=by rw[QP];rfl
 show WC P bT (fn214).body [] (aU 56 ([]++[.func (.yield lp) [] []]++[.ptr cm 0,.ptr cr 0])) h _;rw[<-QP,KO];clear QP;obtain⟨RR,RL⟩:∃RR,RR=NV:=⟨_,rfl⟩;obtain⟨RA,Wr⟩:∃RA,RA=He.DL:=⟨_,rfl⟩;obtain⟨RB,Wq⟩:∃RB,RB=He.C7:=⟨_,rfl⟩;rw[<-RL,<-Wr,<-Wq];unfold KP fn214;simp only[ai.tl,ai.hd];have lm:=@e9 _ _ _ p0.m;have lr:=@e9 _ _ _ p0.r;have u0:tX .s (.map h.length) (.str m) (.bool true) (λz=>(h++[ak.bo []])[z]?)=some (az,.set h.length (.bo ([(m,true)].map dC))):=rm (M:=[]) bh;refine Rs (o8 t0 t1 t2 @lm @lr @jk @u0 @fS @CC @J5) ?_;refine WF.res T.c215 (r215 T p0.o.i3.one) ?_;rintro _ g1 ⟨rfl,hg⟩;have hg:=ZL hg
 subst hg;refine Rs (A3 t0 t1 t2) ?_;have hlV:V.an.aD.length=V.aD.length:=by simp[RV.an]
 refine WC.iter T.mix T.c259 (a:=[]) (c:=[.ptr (h++[ak.bo (List.map dC [(m,true)])]++[ak.b [AV.map h.length]]).length 0]) (Sq t0) (zP T (s:=V.s3) (X:=V.aD) (by have:=l.l3;omega)) (λy hy=>by obtain⟨z,_,rfl⟩:=Ys.1 hy;rfl)
  (λi h' g=>∃M:List (By×Bool),h' =h++[ak.bo (M.map dC)]++[ak.b [AV.map h.length]]++[ak.b [V.s3]]/\∀w,gu M w=decide (w∈cS m (V.an.aD.reverse.take i))) (λ_ _ _=>False)
  ⟨[(m,true)],rfl,λw=>?_⟩ (λi h' g g' hI=>hI) (λi h' g X hl hI=>?_) (λi hi h' g R B Q1 hI=>?_) (λe h' g hl hI=>?_)
 ·show(if w=m then true else false)=decide (w∈[m]);by_cases hw:w=m<;>simp[hw]
 ·obtain⟨M,rfl,_⟩:=hI;refine⟨?_,p0.o.i3.ext Xx⟩;have e:(h++[ak.bo (List.map dC [(m,true)])]++[ak.b [AV.map h.length]]).length=(h++[ak.bo (M.map dC)]++[ak.b [AV.map h.length]]).length:=Si
  rw[e];exact As
 ·obtain⟨M,rfl,hM⟩:=hI;have hi':i<V.aD.length:=by rw[<-jj];exact hi
  have hj:V.aD.length-1-i<V.aD.length:=Om
  rw[tF,Wr];have R0:V.aD[V.aD.length-1-i]∈V.aD:=Ya _;have hxr:V.an.aD.reverse[i]'(by rw[ZQ];omega)=(V.aD[V.aD.length-1-i]).1:=by
   rw[List.getElem_reverse];simp only[RV.an,Y7,X2]
  have hns:=zJ (m:=m) (l:=V.an.aD.reverse) (i:=i) (by rw[ZQ];omega);rw[hxr]at hns;generalize V.aD[V.aD.length-1-i]=x at *;have ox:=p0.o.jl.2.1 x R0;unfold He KP fn214;simp only[ai.tl,ai.hd,ai.HE,ai.DL,setArgs,aV];refine Rs (A4 t0 t1 t2 @ox) ?_;refine⟨_,g++[ak.b [AV.str x.1.name,.str x.1.gives,.str x.1.line,x.2]],by rw[<-XV],Q1,?_⟩;have xin:=p0.o.e3 x R0;rw[Wq];refine WC.FX (B2 T (x:=x) (mb:=h.length) (bb:=(h++[ak.bo (List.map dC [(m,true)])]).length) (xb:=(h++[ak.bo (List.map dC M)]++[ak.b [AV.map h.length]]++[ak.b [V.s3]]++[R]++g).length)
   (Hm:=λM=>h++[ak.bo (List.map dC M)]++[ak.b [AV.map h.length]]++[ak.b [V.s3]]++[B]++(g++[ak.b (aV x)]))
   (λM=>uq) (λM=>?_) (λM'=>?_) (λM K=>?_) (λM=>xin.ext Xx) (hin x R0) ?_ (Sq t0) (Sq t0) hM) ?_
  ·have eL:(h++[ak.bo (List.map dC [(m,true)])]).length=(h++[ak.bo (List.map dC M)]).length:=Si
   rw[eL];exact sG
  ·have eL:(h++[ak.bo (List.map dC M)]++[ak.b [AV.map h.length]]++[ak.b [V.s3]]++[B]++g).length=(h++[ak.bo (List.map dC M')]++[ak.b [AV.map h.length]]++[ak.b [V.s3]]++[B]++g).length:=Si
   rw[<-XV];have eR:(h++[ak.bo (List.map dC M)]++[ak.b [AV.map h.length]]++[ak.b [V.s3]]++[R]++g).length=(h++[ak.bo (List.map dC M')]++[ak.b [AV.map h.length]]++[ak.b [V.s3]]++[B]++g).length:=Si
   rw[eR];exact bh
  ·exact Bi
  ·simp only[bg,hlen]
  ·rintro e _ _ ⟨rfl,M',rfl,hM'⟩;refine⟨_,_,rfl,Si,?_⟩;rw[X9 rfl];exact⟨M',rfl,λw=>by rw[hM',hns]⟩
 ·by_cases Rr:e=.normal
  case neg=>rw[X5 Rr]at hI;exact hI.elim
  subst Rr;rw[X9 rfl]at hI;obtain⟨M,rfl,hM⟩:=hI;have hM:∀w,gu M w=decide (w∈cS m V.an.aD.reverse):=λw=>by
   rw[hM,YE (by rw[ZQ,jj,hlV];exact X8 _)]
  rw[RL];obtain⟨K0,Vj⟩:∃K0,K0=h++[ak.bo (M.map dC)]++[ak.b [AV.map h.length]]++[ak.b [V.s3]]++[ak.dead]++g:=⟨_,rfl⟩;have eK:Ext h K0:=by rw[Vj];exact Xx
  have k1:K0[h.length]? =some (.bo (M.map dC)):=by rw[Vj];exact uq
  have k2:K0[(h++[ak.bo (List.map dC [(m,true)])]).length]? =some (.b [AV.map h.length]):=by
   have eL:(h++[ak.bo (List.map dC [(m,true)])]).length=(h++[ak.bo (List.map dC M)]).length:=Si
   rw[Vj,eL];exact sG
  have hJ0:J K0.length 0 K0:=by
   obtain⟨g',Re⟩:=eK;have:=h0 g'
   rwa [<-Re]at this
  have Vx:(h++[ak.bo (List.map dC [(m,true)])]).length<K0.length:=by rw[Vj];simp only[XS,XX,X1];omega
  have hbb:(h++[ak.bo (List.map dC [(m,true)])]).length=h.length+1:=Si
  rw[<-Vj];generalize K0.length=mm at hJ0 Vx;have lr0:∀{n o},ar n (.ptr cr o) (λz=>K0[z]?)=dJ n o (.b V.row):=λ{_ _}=>aA (eK.some p0.r)
  have hlm3:=λG=>p0.o.i3.aM G
  unfold NV fn214;simp only[ai.tl];refine Rs (A6 t0 t1 t2 @lr0 @fS @hlm3) ?_;rw[hbb]at k2 Vx;refine WL.inv T.mix (λn ts h'=>∃k:Nat,k<=V.aD.length/\n=V.aD.length-k/\J mm ((V.aD.take k).filter λx=>decide (x.1.name∈cS m V.an.aD.reverse)).length h'/\h'[h.length]? =some (.bo (M.map dC))/\h'[h.length+1]? =some (.b [AV.map h.length])/\
    ts.length=56/\slot ts 0=.func (.yield lp) [] []/\slot ts 4=.ptr (h.length+1) 0/\slot ts 39=V.s3/\slot ts 40=.i V.aD.length/\slot ts 41=.i k) V.aD.length
   ⟨0,Om,rfl,hJ0,k1,k2,Sn,(Sq t0),(Sq (A2 t0 @hbb)),(Sq t0),(Sq t0),iQ⟩ ?_
  clear t0 t1 t2 hlen lr lm u0 lr0 hJ0 k1 k2 hlm3;clear ts;rintro _ ts h' ⟨k,hk,rfl,hJ,k1,k2,hlen,t0,t4,t39,t40,t41⟩;by_cases hlt:k<V.aD.length
  ·have p1:=hpre _ _ _ hJ;have R0:V.aD[k]∈V.aD:=Ya _;have ix:=p1.o.i3.dM (kk:=.i64) hlt;have ld:ar (some 4) (cW V.s3 4 k) (λb=>h'[b]?)=some (.agg (aV V.aD[k]),.au):=p1.o.i3.kR hlt (Ext.refl _);have ox:=p1.o.jl.2.1 _ R0;have e3:=fF hlt;have e5:IntKind.i64.wrap ((k:Int)+1)=((k+1:Nat):Int):=wrapN (by have:=l.l3;omega);have l2:∀{z n o},Ext h' z->ar n (.ptr (h.length+1) o) (λb=>z[b]?)=dJ n o (.b [AV.map h.length]):=λ{_ _ _} e=>aA (e.some k2)
   have lk:∀{C w},iA .s (.bool false) false (.map h.length) (.str w) (λz=>(h'++[C])[z]?)=some (.bool (gu M w),.au):=λ{C _}=>pr ((Ext.app [C] (Ext.refl h')).some k1)
   have hf:=Ae (p:=λx:gy×AV=>decide (x.1.name∈cS m V.an.aD.reverse)) hlt;have hs:=Ck (p:=λx:gy×AV=>decide (x.1.name∈cS m V.an.aD.reverse)) hlt;have hMx:=hM V.aD[k].1.name;generalize V.aD[k]=x at *;unfold aV at ld;cases hb:gu M x.1.name with
   |true=>
    rw[hb]at hMx;obtain⟨Ue,Tx⟩:=hf hMx.symm;refine Rs (Gu t0 t4 t39 t40 t41 ix @ld @ox e3 @l2 @bX @lk @hb) ?_;obtain⟨bb,k',q1,q2,q3⟩:=Rw mm _ (by rw[X2];exact Ue) _ (happ _ _ _ [ak.b [AV.str x.1.name,.str x.1.gives,.str x.1.line,x.2]] hJ);rw[Y7]at q1;have hf2':(iK V m)[((V.aD.take k).filter λx=>decide (x.1.name∈cS m V.an.aD.reverse)).length]'Ue=x:=Tx;have q1:fg P (.func (.yield lp) [] []) [AV.agg (aV x)] (h'++[ak.b [AV.str x.1.name,.str x.1.gives,.str x.1.line,x.2]]) (.bool bb) k':=by
     refine Eq.mp ?_ q1;congr 1;exact Yx (λy=>[AV.agg (aV y)]) hf2'
    unfold aV at q1;refine WF.JZ q1 ?_;cases bb with
    |true=>
     refine Rs (A7 t0 t4 t39 t40 t41 @Yk e5) ?_;have hlt1:=(XT.1 k1).1;have RT:=(XT.1 k2).1;refine⟨_,Om,k+1,Om,rfl,?_,?_,?_,rfl⟩
     ·rw[hs,<-hMx,X9 rfl];exact q3
     ·rw[q2 _ Om Om,XW hlt1];exact k1
     ·rw[q2 _ Om Om,XW RT];exact k2
    |false=>
     refine Rs (A6 t0 t4 t39 t40 t41 @Yr) ?_;exact q3
   |false=>
    rw[hb]at hMx;refine Rs (AH t0 t4 t39 t40 t41 ix @ld @ox e3 @l2 @bX @lk @hb e5) ?_;have hlt1:=(XT.1 k1).1;have RT:=(XT.1 k2).1;refine⟨_,Om,k+1,Om,rfl,?_,?_,?_,rfl⟩
    ·rw[hs,<-hMx,X5 De];exact happ _ _ _ _ hJ
    ·rw[XW hlt1];exact k1
    ·rw[XW RT];exact k2
  ·have e3:=gK hlt;have e4:k=V.aD.length:=Om
   rw[e4,Yz]at hJ;refine Rs (A6 t0 t4 t39 t40 t41 e3) ?_;refine SP mm h' ?_;rw[X2];exact hJ
end
def Dq:ai:=((fn122).body.tl.tl).hd
def Kc:ai:=Dq.tl.HE
def M6:ai:=(fn122).body.tl.tl.tl
def Kb:(fn122).body=.seq ((fn122).body.hd) (.seq ((fn122).body.tl.hd) (.seq (.seq Dq.hd (.block 0 (.eQ (.t 10) [11] Kc.DL Kc.C7))) M6)):=rfl
def GM{r N}:kg 1 0 (.map r) N (.b [.cY])=some (az,.set N (.b [.map r])):=rfl
def pq{V m}:(iK V m).map Prod.fst=jm V.an m:=by
 rw[iK,jm];show _=List.filter _ (List.map Prod.fst V.aD);rw[ZZ];rfl
section
variable {P:Program}(T:fI P) {h:ah}
include T
def r217{x b c M}(hb:h[b]? =some (.b [.map c]))(hc:h[c]? =some (.bo (M.map dC))):ay P 217 [.agg (cB x),.ptr b 0] h (λv _=>v=.bool (gu M x.name)):=by
 refine .eG 8 T.mix T.c217 ?_;intro ts hlen t0 t1;unfold fn217;have lb:∀{k:ah}{n':Option Nat}{a:Nat},Ext h k->ar n' (.ptr b a) (λz=>k[z]?)=dJ n' a (.b [.map c]):=λe=>aA (e.some hb)
 have lk:∀{C w},iA .s (.bool false) false (.map c) (.str w) (λz=>(h++[C])[z]?)=some (.bool (gu M w),.au):=λ{C _}=>pr ((Ext.app [C] (Ext.refl h)).some hc)
 unfold cB at t0;exact Rs (A5 t0 t1 @lb @bX @lk) Tv
def r122{V}(o:aC h V)(l:eI V)(hin:∀x∈V.aD,x.1.bu.length<2^30)(m:By):ay P 122 [.agg V.row,.str m] h (λv h'=>aH h' v 3 ((fq V.an m).map cB)):=by
 refine .of T.mix T.c122 ?_;obtain⟨ts,QP⟩:∃ts,ts=aU 19 [.agg V.row,.str m]:=⟨_,rfl⟩;have hlen:ts.length=19:=by rw[QP];rfl
 have t0:slot ts 0=.agg V.row:=by rw[QP];rfl
 have t1:slot ts 1=.str m:=by rw[QP];rfl
 show WC P bT (fn122).body [] (aU 19 [.agg V.row,.str m]) h _;rw[<-QP,Kb];clear QP;obtain⟨RR,RL⟩:∃RR,RR=M6:=⟨_,rfl⟩;obtain⟨RA,Wr⟩:∃RA,RA=Kc.DL:=⟨_,rfl⟩;obtain⟨RB,Wq⟩:∃RB,RB=Kc.C7:=⟨_,rfl⟩;rw[<-RL,<-Wr,<-Wq];unfold Dq fn122;simp only[ai.tl,ai.hd];have QO:=@aC.box _ _ o;refine Rs (A6 t0 t1 @QO @CC @GM @aE) ?_;obtain⟨H0,Tl⟩:∃H0,H0=h++[ak.b V.row]:=⟨_,rfl⟩;have e0:Ext h H0:=by rw[Tl];exact Xx
 rw[<-Tl];refine WF.res T.c119 (r119 T (o.ext (e0.trans Xx)) m) ?_;rintro _ g1 ⟨rfl,hp⟩;refine Rs (A2 t0 t1) ?_;obtain⟨cm,Vg⟩:∃cm,cm=(H0++[ak.bo []]++[ak.b [AV.map H0.length]]).length:=⟨_,rfl⟩;rw[<-Vg]at hp ⊢;have pmap:∀(M:List (By×Bool)) (Z:ah),qk V m (cm+1) cm (H0++[ak.bo (M.map dC)]++[ak.b [AV.map H0.length]]++g1++Z):=by
  intro M Z;have hne:∀b,b≠H0.length->(H0++[ak.bo (M.map dC)]++[ak.b [AV.map H0.length]]++g1)[b]? =(H0++[ak.bo []]++[ak.b [AV.map H0.length]]++g1)[b]? :=λb hb=>by
   have:=qD (A:=H0) (B:=[ak.b [AV.map H0.length]]++g1) (K:=ak.bo (M.map dC)) (K':=ak.bo []) (b:=b) hb
   simpa only[XV]using this
  have hcl:cm=H0.length+2:=by rw[Vg];simp
  refine qk.ext ⟨(hne _ Om).trans hp.m,(hne _ Om).trans hp.r,(o.ext e0).ext Xx⟩ (Ext.app Z (Ext.refl _))
 refine WC.iterM T.mix T.c214 (a:=[]) (c:=[.ptr (cm+1) 0,.ptr cm 0]) (Sq t0) (rA T l hin m (cm+1) cm) (λy hy=>by obtain⟨z,_,rfl⟩:=Ys.1 hy;rfl)
  (λmm i h' g=>∃M:List (By×Bool),h' =H0++[ak.bo (M.map dC)]++[ak.b [AV.map H0.length]]++g1/\mm<=h'.length+1+g.length/\∀w,gu M w=decide (w∈((iK V m).take i).map λx=>x.1.line)) (λ_ _ _=>False)
  (λg=>⟨[],rfl,X8 _,λw=>rfl⟩) (λmm i h' g g' hI=>by obtain⟨M,a1,a2,a3⟩:=hI;exact⟨M,a1,by rw[XS];omega,a3⟩) (λX=>pmap [] [X]) (λmm i h' g X hl hI=>?_) (λmm i hi h' g R B Q1 hI=>?_) (λe h' g hl hI=>?_)
 ·obtain⟨M,rfl,_⟩:=hI;rw[XV (H0++[ak.bo (M.map dC)]++[ak.b [AV.map H0.length]]++g1)];exact pmap M _
 ·obtain⟨M,rfl,Vx,hM⟩:=hI;have hi':i<(iK V m).length:=by simpa using hi
  rw[Y7,Wr,Wq];have R0:(iK V m)[i]∈V.aD:=(Zd.1 (Ya hi')).1;have Rc:((iK V m).take (i+1)).map (λx=>x.1.line)=((iK V m).take i).map (λx=>x.1.line)++[(iK V m)[i].1.line]:=by
   rw[YF,XY hi',X4];rfl
  generalize (iK V m)[i]=x at *;have ox:=o.jl.2.1 x R0;have eL:∀K:List (By×Bool),(H0++[ak.bo (K.map dC)]).length=(H0++[ak.bo []]).length:=λK=>by simp
  have u0:∀{Z Y:ah},tX .s (.map H0.length) (.str x.1.line) (.bool true) (λz=>(H0++[ak.bo (M.map dC)]++[ak.b [AV.map H0.length]]++g1++[B]++Z++Y)[z]?)=some (az,.set H0.length (.bo ((rL M x.1.line true).map dC))):=λ{Z Y}=>rm CN
  have lb:∀{Z Y:ah}{n a},ar n (.ptr (H0++[ak.bo []]).length a) (λz=>(H0++[ak.bo (M.map dC)]++[ak.b [AV.map H0.length]]++g1++[B]++Z++Y)[z]?)=dJ n a (.b [.map H0.length]):=λ{Z Y _ _}=>by
   rw[<-eL M];exact aA uq
  have lx:∀{n a},ar n (.ptr (H0++[ak.bo (M.map dC)]++[ak.b [AV.map H0.length]]++g1++[R]++g).length a) (λz=>(H0++[ak.bo (M.map dC)]++[ak.b [AV.map H0.length]]++g1++[B]++g++[ak.b [AV.str x.1.name,.str x.1.gives,.str x.1.line,x.2]])[z]?)=dJ n a (.b [AV.str x.1.name,.str x.1.gives,.str x.1.line,x.2]):=λ{_ _}=>by
   have:(H0++[ak.bo (M.map dC)]++[ak.b [AV.map H0.length]]++g1++[R]++g).length=(H0++[ak.bo (M.map dC)]++[ak.b [AV.map H0.length]]++g1++[B]++g).length:=Si
   rw[this];exact aA bh
  unfold Kc Dq fn122;simp only[ai.tl,ai.hd,ai.HE,ai.DL,ai.C7,setArgs,aV];refine Rs (A3 t0 t1 @ox) ?_;refine⟨_,g++[ak.b [AV.str x.1.name,.str x.1.gives,.str x.1.line,x.2]],by rw[<-XV],Q1,?_⟩;rw[<-XV];refine Rs (A7 t0 t1 @ox @lb @lx @jk @u0) ?_;refine⟨_,g++[ak.b [AV.str x.1.name,.str x.1.gives,.str x.1.line,x.2]],by rw[<-XV],Si,λy hy=>XW ?_,_,rfl,?_,λw=>?_⟩
  ·simp only[XS,XX,X1]at hy Vx;omega
  ·simp only[XS,XX,X1]at Vx ⊢;omega
  ·rw[rN,Rc];by_cases hw:w=x.1.line
   ·rw[X9 hw];simp[hw]
   ·rw[X5 hw,hM];simp[hw]
 ·by_cases Rr:e=.normal
  case neg=>rw[X5 Rr]at hI;exact hI.elim
  subst Rr;rw[X9 rfl]at hI;obtain⟨mm,M,rfl,_,hM⟩:=hI;rw[X2,Yz]at hM;rw[RL];have eL:(H0++[ak.bo (M.map dC)]).length=(H0++[ak.bo []]).length:=Si
  obtain⟨K0,Vj⟩:∃K0,K0=H0++[ak.bo (M.map dC)]++[ak.b [AV.map H0.length]]++g1++[ak.dead]++g:=⟨_,rfl⟩;have eK:Ext H0 K0:=by rw[Vj];exact Xx
  have k1:K0[H0.length]? =some (.bo (M.map dC)):=by rw[Vj];exact uq
  have k2:K0[(H0++[ak.bo []]).length]? =some (.b [AV.map H0.length]):=by
   rw[Vj,<-eL];exact sG
  rw[<-Vj];have lr:∀{k n a},Ext K0 k->ar n (.ptr h.length a) (λz=>k[z]?)=dJ n a (.b V.row):=λ{_ _ _} e=>aA ((eK.trans e).some (by rw[Tl];exact bh))
  unfold M6 fn122;simp only[ai.tl];refine Rs (A4 t0 t1 @lr @gk) ?_;refine WF.res T.c216 (r216 T (o.i0.ext (e0.trans (eK.trans Xx))) (by have:=l.l0;omega) (λx=>gu M x.name) (λx hx k e=>bF.of (a:=[]) (c:=[.ptr (H0++[ak.bo []]).length 0]) T.c217 (r217 T (e.some k2) (e.some k1)))) ?_;rintro s1 g2 hf;have eh:=e0.trans eK;have es:V.lines.filter (λx=>gu M x.name)=fq V.an m:=by
   refine List.filter_congr λx _=>?_
   rw[hM,<-pq,ZD];rfl
  rw[es]at hf;have:=hf.a8;refine Rs (A2 t0 t1) ?_;exact⟨Ext.app _ eh,this⟩
end
def fT(x:Nat×Bool):List AV:=[.i (x.1:Int),.bool x.2]
def jY:Kd->AV
 |.fp=>.nilFunc
 |.line=>.func (.func 148) [] []
 |.tape=>.func (.func 151) [] []
 |.gA=>.func (.func 155) [] []
 |.copy=>.func (.func 157) [] []
 |.accept=>.func (.func 159) [] []
 |.source=>.func (.func 161) [] []
 |.fY=>.func (.func 163) [] []
 |.merge=>.func (.func 165) [] []
 |.run=>.func (.func 167) [] []
 |.fX=>.func (.func 169) [] []
 |.fail=>.func (.func 171) [] []
 |.gB=>.func (.func 173) [] []
 |.rel=>.func (.func 175) [] []
def pt:Kd->AV
 |.fp=>.nilFunc
 |.line=>.func (.func 149) [] []
 |.tape=>.func (.func 152) [] []
 |.gA=>.func (.func 156) [] []
 |.copy=>.func (.func 158) [] []
 |.accept=>.func (.func 160) [] []
 |.source=>.func (.func 162) [] []
 |.fY=>.func (.func 164) [] []
 |.merge=>.func (.func 166) [] []
 |.run=>.func (.func 168) [] []
 |.fX=>.func (.func 170) [] []
 |.fail=>.func (.func 172) [] []
 |.gB=>.func (.func 174) [] []
 |.rel=>.func (.func 176) [] []
def D9:Kd->Option Nat
 |.fp=>none
 |.line=>some 0
 |.tape=>some 3
 |.gA=>some 1
 |.copy=>some 3
 |.accept=>some 0
 |.source=>some 1
 |.fY=>none
 |.merge=>none
 |.run=>none
 |.fX=>none
 |.fail=>none
 |.gB=>none
 |.rel=>none
def yj(h:ah)(d:Kd)(v:AV):Prop:=
 match D9 d with
 |none=>v=.nilFunc
 |some 3=>v=.func (.func 153) [] []
 |some i=>∃b,v=.func (.func 240) [] [.ptr b 0]/\h[b]? =some (.b [.i (i:Int)])
structure AE(h:ah)(d:Kd)(v:AV):Prop where
 ex:∃rs a,v=.agg [rs,.i (cF d:Int),jY d,pt d,a]/\aH h rs 2 ((bM d).map fT)/\a.one=true/\yj h d a
def Oa(vf:Kd->AV):List (AV×AV):=F0.map λd=>(.str (bA d),vf d)
structure uH(h:ah)(r:Nat)(vf:Kd->AV):Prop where
 m:h[r]? =some (.bo (Oa vf))
 k:∀d,AE h d (vf d)
theorem yX{vf:Kd->AV}{k:By}:∀{L:List Kd},jq .s (.str k) (L.map λd=>(AV.str (bA d),vf d))=some ((L.find? λd=>bA d==k).map vf)
 |[]=>rfl
 |d::L=>by
  rw[YR,List.find?_cons];by_cases hk:k=bA d
  ·subst hk;simp only[jq,dx,BEq.rfl,ZP]
  ·have h1:(k==bA d)=false:=by simp[hk]
   have h2:(bA d==k)=false:=by simp[Zk hk]
   simp only[jq,dx,h1,h2];exact yX
def uH.look{h:ah}{r:Nat}{vf:Kd->AV}(o:uH h r vf){z:AV}{ok:Bool}{k:By}:iA .s z ok (.map r) (.str k) (λb=>h[b]?)=lG z ok ((gT k).map vf):=rr o.m yX
def Gt(h g:ah)(s:AV)(rs:List (Nat×Bool)):Prop:=∀X,aH (h++[X]++g) s 2 (rs.map fT)
theorem Gt.app{h g s rs}(o:Gt h g s rs)(g':ah):Gt h (g++g') s rs:=λX=>by rw[<-XV];exact(o X).app g'
def QN(h g:ah)(b:Nat)(i:Int):Prop:=∀X,(h++[X]++g)[b]? =some (ak.b [.i i])
theorem yj.app{h d v}(o:yj h d v)(g:ah):yj (h++g) d v:=by
 unfold yj at *;split at o
 ·exact o
 ·exact o
 ·obtain⟨b,h1,h2⟩:=o;exact⟨b,h1,(Ext.app g (Ext.refl _)).some h2⟩
theorem AE.app{h d v}(o:AE h d v)(g:ah):AE (h++g) d v:=by
 obtain⟨rs,a,e,hs,ha,hb⟩:=o.ex;exact⟨rs,a,e,hs.app g,ha,hb.app g⟩
def lH(ds:List Kd)(vf:Kd->AV):List (AV×AV):=ds.map λd=>(.str (bA d),vf d)
def D8(vf:Kd->AV)(d:Kd)(v:AV):Kd->AV:=λx=>if x=d then v else vf x
def AK(a:Nat)(F:List (Nat×AV)):Bool:=decide (a<56)&&decide (a≠1)&&F.all λp=>decide (p.1≠a)
structure rV(h:ah)(ts:TS)(g:ah)(ds:List Kd)(vf:Kd->AV)(F:List (Nat×AV)):Prop where
 l:ts.length=56
 m:slot ts 1=.map h.length
 f:∀p∈F,slot ts p.1=p.2
 e:∀d∈ds,∀X,AE (h++[X]++g) d (vf d)
def rV.put{h ts g ds vf F}(s:rV h ts g ds vf F){a v}(g':ah)(hc:AK a F=true):rV h (ts.set a v) (g++g') ds vf ((a,v)::F):=by
 simp only[AK,Yv,YG,Yw]at hc;have hl:a+1<=ts.length:=by rw[s.l];omega
 refine⟨by simp only[bg,s.l],by simp only[bg,Zr hc.1.2,s.m],λp hp=>?_,λd hd X=>?_⟩
 ·rcases YA.1 hp with rfl|hp
  ·simp only[bg,hl]
  ·simp only[bg,Zr (λe=>hc.2 p hp (Eq.symm e)),s.f p hp]
 ·rw[<-XV];exact(s.e d hd X).app g'
theorem AS{vf k v}:∀{ds},ds.all (λx=>!(bA x==k))=true->pe .s (.str k) v (lH ds vf)=some (lH ds vf++[(.str k,v)])
 |[],_=>rfl
 |d::ds,hd=>by
  rw[Zv,Yv]at hd;have h2:(bA d==k)=false:=by simpa using hd.1
  have h3:¬bA d=k:=by simpa using hd.1
  have h1:(k==bA d)=false:=by simp[Zk h3]
  have:=AS (vf:=vf) (v:=v) hd.2;unfold lH at *;simp only[YR,pe,dx,h1,h2,this,ZP,Zg]
def iF:AV.one .nilFunc=true:=rfl
section
variable {P:Program}(T:fI P) {h:ah}
include T
def r147(t:Int):ay P 147 [.i t] h (λv _=>v=.agg [.i t,.bool false]):=by
 refine .of T.mix T.c147 ?_;unfold fn147;exact Wn Tv
def r154(t:Int):ay P 154 [.i t] h (λv _=>v=.agg [.i t,.bool true]):=by
 refine .of T.mix T.c154 ?_;unfold fn154;exact Wn Tv
def r150(i:Int):ay P 150 [.i i] h (λv h'=>v=.func (.func 240) [] [.ptr h.length 0]/\h' =h++[.b [.i i]]):=by
 refine .of T.mix T.c150 ?_;unfold fn150 yu;exact Wn Tv
section
variable {ks:List Kt}{ts:TS}{Q:Ex->TS->ah->Prop}{g:ah}{ds:List Kd}{vf:Kd->AV}{F:List (Nat×AV)}{a:Nat}{l:List bI}
def jE{t}(s:rV h ts g ds vf F)(hc:AK a F=true)(K:∀ts' g',rV h ts' (g++g') ds vf ((a,.agg [.i t,.bool false])::F)->WP P bT l ks ts' (h++[.bo (lH ds vf)]++(g++g')) Q):
  WP P bT (.c a 147 [.c (.i t)]::l) ks ts (h++[.bo (lH ds vf)]++g) Q:=by
 refine Wn ?_;refine WF.ce T.c147 (r147 T t) λg1=>?_
 exact z159
def jD{t}(s:rV h ts g ds vf F)(hc:AK a F=true)(K:∀ts' g',rV h ts' (g++g') ds vf ((a,.agg [.i t,.bool true])::F)->WP P bT l ks ts' (h++[.bo (lH ds vf)]++(g++g')) Q):
  WP P bT (.c a 154 [.c (.i t)]::l) ks ts (h++[.bo (lH ds vf)]++g) Q:=by
 refine Wn ?_;refine WF.ce T.c154 (r154 T t) λg1=>?_
 exact z159
def Ea{t}(s:rV h ts g ds vf F)(hc:AK a F=true)(K:∀ts' g' b,rV h ts' (g++g') ds vf ((a,.func (.func 240) [] [.ptr b 0])::F)->QN h (g++g') b t->WP P bT l ks ts' (h++[.bo (lH ds vf)]++(g++g')) Q):
  WP P bT (.c a 150 [.c (.i t)]::l) ks ts (h++[.bo (lH ds vf)]++g) Q:=by
 refine Wn ?_;refine WF.res T.c150 (r150 T t) ?_;rintro _ g1 ⟨rfl,hg⟩;have hg:=ZL hg;subst hg;rw[XV (h++[ak.bo (lH ds vf)]) g];refine K _ _ _ (s.put _ hc) λX=>?_
 have e:(h++[ak.bo (lH ds vf)]++g).length=(h++[X]++g).length:=Si
 rw[e,<-XV];exact bh
theorem Ca{N}(s:rV h ts g ds vf F)(hc:AK a []=true){n xs}(hN:N=(h++[ak.bo (lH ds vf)]++g).length)(hn:xs.length=n)(K:∀ts' g' s,rV h ts' (g++g') ds vf [(a,s)]->Gt h (g++g') s xs->WP P bT l ks ts' (h++[.bo (lH ds vf)]++(g++g')) Q):
  WP P bT l ks (ts.set a (.slice N 0 n 2)) (h++[.bo (lH ds vf)]++g++[.cells (xs.map fT).flatten true true]) Q:=by
 subst hN;subst hn;rw[XV (h++[ak.bo (lH ds vf)]) g];have s0:rV h ts g ds vf []:=⟨s.l,s.m,λ_ hp=>(by cases hp),s.e⟩;refine K _ _ _ (s0.put _ hc) λX=>?_
 have e:(h++[ak.bo (lH ds vf)]++g).length=(h++[X]++g).length:=Si
 rw[e,<-XV];have:=(Fr.push (N:=0) (h:=h++[X]++g) (Yt _) (xs.map fT) (es:=2) (by intro c hc;obtain⟨x,_,rfl⟩:=Ys.1 hc;rfl)).a8
 rwa [X2]at this
def tt{a0 x0}(s:rV h ts g ds vf [(a0,.agg (fT x0))])(hc:AK a []=true)(K:∀ts' g' s,rV h ts' (g++g') ds vf [(a,s)]->Gt h (g++g') s [x0]->WP P bT l ks ts' (h++[.bo (lH ds vf)]++(g++g')) Q):
  WP P bT (.o a (.aF 2 1 [.i 0,.bool false] [(0,.t a0)])::l) ks ts (h++[.bo (lH ds vf)]++g) Q:=by
 have s0:slot ts a0=.agg [.i (x0.1:Int),.bool x0.2]:=s.f (a0,.agg (fT x0)) Si;refine Ws @s0 ?_;exact Ca T s hc rfl rfl K
def vG{a0 a1 x0 x1}(s:rV h ts g ds vf [(a1,.agg (fT x1)),(a0,.agg (fT x0))])(hc:AK a []=true)(K:∀ts' g' s,rV h ts' (g++g') ds vf [(a,s)]->Gt h (g++g') s [x0,x1]->WP P bT l ks ts' (h++[.bo (lH ds vf)]++(g++g')) Q):
  WP P bT (.o a (.aF 2 2 [.i 0,.bool false] [(0,.t a0),(2,.t a1)])::l) ks ts (h++[.bo (lH ds vf)]++g) Q:=by
 have s0:slot ts a0=.agg [.i (x0.1:Int),.bool x0.2]:=s.f (a0,.agg (fT x0)) Si;have s1:slot ts a1=.agg [.i (x1.1:Int),.bool x1.2]:=s.f (a1,.agg (fT x1)) Si;refine Ws (A2 @s0 @s1) ?_;exact Ca T s hc rfl rfl K
def F2{a0 a1 a2 x0 x1 x2}(s:rV h ts g ds vf [(a2,.agg (fT x2)),(a1,.agg (fT x1)),(a0,.agg (fT x0))])(hc:AK a []=true)(K:∀ts' g' s,rV h ts' (g++g') ds vf [(a,s)]->Gt h (g++g') s [x0,x1,x2]->WP P bT l ks ts' (h++[.bo (lH ds vf)]++(g++g')) Q):
  WP P bT (.o a (.aF 2 3 [.i 0,.bool false] [(0,.t a0),(2,.t a1),(4,.t a2)])::l) ks ts (h++[.bo (lH ds vf)]++g) Q:=by
 have s0:slot ts a0=.agg [.i (x0.1:Int),.bool x0.2]:=s.f (a0,.agg (fT x0)) Si;have s1:slot ts a1=.agg [.i (x1.1:Int),.bool x1.2]:=s.f (a1,.agg (fT x1)) Si;have s2:slot ts a2=.agg [.i (x2.1:Int),.bool x2.2]:=s.f (a2,.agg (fT x2)) Si;refine Ws (A3 @s0 @s1 @s2) ?_;exact Ca T s hc rfl rfl K
theorem Lb{v}:WP P bT [.o a (.aI (.c v))] ks ts h Q=WE P bT .normal ks (ts.set a v) h Q:=by
 unfold bI.o;rw[C2,C0,yn,pS]
theorem Lc:WP P bT (.o a .lF::l) ks ts h Q=WP P bT l ks (ts.set a (.map h.length)) (h++[.bo []]) Q:=wB
theorem F1{z ps v}(d:Kd)(s:rV h ts g ds vf F)(hc:AK a []=true)(hd:ds.all (λx=>!(bA x==bA d))=true)
  (hv:rK (eM z (ps.map λp=>(p.1,p.2.1,val ts p.2.2)))=some v) (ok:∀X,AE (h++[X]++g) d v)
  (K:∀ts',rV h ts' g (ds++[d]) (D8 vf d v) []->WP P bT l ks ts' (h++[.bo (lH (ds++[d]) (D8 vf d v))]++g) Q):
  WP P bT (.o a (.build z ps):: .x (.fu .s (.t 1) (.c (.str (bA d))) (.t a))::l) ks ts (h++[.bo (lH ds vf)]++g) Q:=by
 have e1:tX .s (.map h.length) (.str (bA d)) v (λb=>(h++[ak.bo (lH ds vf)]++g)[b]?)=some (az,.set h.length (.bo (lH ds vf++[(.str (bA d),v)]))):=tW ur (AS hd);have hn:∀x∈ds,x≠d:=λx hx e=>by
  have:=Yw.1 hd x hx;rw[e]at this;simp at this
 have eL:lH ds vf++[(.str (bA d),v)]=lH (ds++[d]) (D8 vf d v):=by
  unfold lH;rw[X4,List.map_singleton,D8,X9 rfl];exact Yx (· ++_) (List.map_congr_left λx hx=>by rw[D8,X5 (hn x hx)])
 unfold bI.o bI.x;rw[rQ,hv,uy,uD];simp only[AK,Yv,YG]at hc;have hl:a+1<=ts.length:=by rw[s.l];omega
 have e2:val (put ts (some a) v) (.t 1)=.map h.length:=by
  simp only[pS,uN,bg,Zr hc.1.2,s.m]
 have e3:val (put ts (some a) v) (.t a)=v:=by simp only[pS,uN,bg,hl]
 rw[jk,e2,e3,yn,e1,rP,BO,pS];have e4:(h++[ak.bo (lH ds vf)]++g).set h.length (.bo (lH ds vf++[(.str (bA d),v)]))=h++[.bo (lH ds vf++[(.str (bA d),v)])]++g:=yC;rw[e4,eL];refine K _ ⟨by simp only[bg,s.l],by simp only[bg,Zr hc.1.2,s.m],λ_ hp=>(by cases hp),λx hx X=>?_⟩;rcases X3.1 hx with hx|hx
 ·rw[D8,X5 (hn x hx)];exact s.e x hx X
 ·rw[Yl.1 hx,D8,X9 rfl];exact ok X
def pz{i f2 f3 n x4 r a4}(d:Kd)(s:rV h ts g ds vf F)(hc:AK a []=true)(hd:ds.all (λx=>!(bA x==bA d))=true)(hi:(i,r)∈F)(hb:Gt h g r (bM d))(h4:val ts x4=a4)(o4:a4.one=true)(b4:∀X,yj (h++[X]++g) d a4)
  (hn:(cF d:Int)=n) (h2:jY d=.func (.func f2) [] []) (h3:pt d=.func (.func f3) [] [])
  (K:∀ts',rV h ts' g (ds++[d]) (D8 vf d (.agg [r,.i n,jY d,pt d,a4])) []->WP P bT l ks ts' (h++[.bo (lH (ds++[d]) (D8 vf d (.agg [r,.i n,jY d,pt d,a4])))]++g) Q):
  WP P bT (.o a (.build [.af,.i 0,.nilFunc,.nilFunc,.nilFunc] [(0,1,.t i),(1,1,.c (.i n)),(2,1,.f f2),(3,1,.f f3),(4,1,x4)]):: .x (.fu .s (.t 1) (.c (.str (bA d))) (.t a))::l) ks ts (h++[.bo (lH ds vf)]++g) Q:=by
 have s0:slot ts i=r:=s.f (i,r) hi;have o0:r.one=true:=(hb (.bo [])).one;refine F1 T d s hc hd ?_ (λX=>⟨r,a4,by rw[hn],hb X,o4,b4 X⟩) K;exact Ws (A6 @s0 @h4 @o0 @o4 @h2 @h3) Tv
end
def r90:ay P 90 [] h (λv h'=>∃vf,v=.map h.length/\uH h' h.length vf):=by
 refine .Qt 56 T.mix T.c90 ?_;intro ts hlen;unfold fn90;have m0:slot ((ts.set 0 AV.cY).set 1 (.map h.length)) 1=.map h.length:=by simp only[bg,hlen,reduceAdd,reduceLeDiff]
 have l0:((ts.set 0 AV.cY).set 1 (.map h.length)).length=56:=by simp only[bg,hlen]
 dsimp only[ai.j,ai.s,ai.r];rw[rR,rS,Lb T,uF,rR,rS,Lc T];rw[<-Yo (h++[ak.bo []])];generalize (ts.set 0 AV.cY).set 1 (.map h.length)=ts at *;clear hlen;have s:rV h ts [] [] (λ_=>az) []:=⟨l0,m0,λ_ hp=>(by cases hp),λ_ hd=>(by cases hd)⟩;clear l0 m0;refine F1 T .fp s rfl rfl (v:=.agg [.af,.i 0,.nilFunc,.nilFunc,.nilFunc]) rfl (λX=>⟨_,_,rfl,.nil,rfl,rfl⟩) ?_;intro ts s;refine jE T (t:=0) s rfl ?_;intro ts g s;refine tt T (x0:=(0,false)) s rfl ?_;intro ts g r s b;refine Ea T (t:=0) s rfl ?_;intro ts g p s c;refine pz T .line s rfl rfl (by simp only[YA,true_or,or_true]) (b.app g) (s.f (_,_) (YN ..)) rfl (λX=>⟨p,rfl,c X⟩) rfl rfl rfl ?_
 intro ts s;refine jE T (t:=1) s rfl ?_;intro ts g s;refine tt T (x0:=(1,false)) s rfl ?_;intro ts g r s b;refine pz T .tape s rfl rfl (YN ..) b rfl rfl (λ_=>rfl) rfl rfl rfl ?_;intro ts s;refine jE T (t:=2) s rfl ?_;intro ts g s;refine jD T (t:=0) s rfl ?_;intro ts g s;refine jD T (t:=1) s rfl ?_;intro ts g s;refine F2 T (x0:=(2,false)) (x1:=(0,true)) (x2:=(1,true)) s rfl ?_;intro ts g r s b;refine Ea T (t:=1) s rfl ?_;intro ts g p s c;refine pz T .gA s rfl rfl (by simp only[YA,true_or,or_true]) (b.app g) (s.f (_,_) (YN ..)) rfl (λX=>⟨p,rfl,c X⟩) rfl rfl rfl ?_;intro ts s;refine jD T (t:=1) s rfl ?_
 intro ts g s;refine jD T (t:=1) s rfl ?_;intro ts g s;refine vG T (x0:=(1,true)) (x1:=(1,true)) s rfl ?_;intro ts g r s b;refine pz T .copy s rfl rfl (YN ..) b rfl rfl (λ_=>rfl) rfl rfl rfl ?_;intro ts s;refine jD T (t:=0) s rfl ?_;intro ts g s;refine tt T (x0:=(0,true)) s rfl ?_;intro ts g r s b;refine Ea T (t:=0) s rfl ?_;intro ts g p s c;refine pz T .accept s rfl rfl (by simp only[YA,true_or,or_true]) (b.app g) (s.f (_,_) (YN ..)) rfl (λX=>⟨p,rfl,c X⟩) rfl rfl rfl ?_;intro ts s;refine jE T (t:=3) s rfl ?_;intro ts g s;refine jD T (t:=0) s rfl ?_;intro ts g s;refine vG T (x0:=(3,false)) (x1:=(0,true)) s rfl ?_
 intro ts g r s b;refine Ea T (t:=1) s rfl ?_;intro ts g p s c;refine pz T .source s rfl rfl (by simp only[YA,true_or,or_true]) (b.app g) (s.f (_,_) (YN ..)) rfl (λX=>⟨p,rfl,c X⟩) rfl rfl rfl ?_;intro ts s;refine jE T (t:=3) s rfl ?_;intro ts g s;refine jD T (t:=3) s rfl ?_;intro ts g s;refine vG T (x0:=(3,false)) (x1:=(3,true)) s rfl ?_;intro ts g r s b;refine pz T .fY s rfl rfl (YN ..) b rfl rfl (λ_=>rfl) rfl rfl rfl ?_;intro ts s;refine jE T (t:=3) s rfl ?_;intro ts g s;refine jD T (t:=3) s rfl ?_;intro ts g s;refine jD T (t:=3) s rfl ?_;intro ts g s;refine F2 T (x0:=(3,false)) (x1:=(3,true)) (x2:=(3,true)) s rfl ?_
 intro ts g r s b;refine pz T .merge s rfl rfl (YN ..) b rfl rfl (λ_=>rfl) rfl rfl rfl ?_;intro ts s;refine jE T (t:=4) s rfl ?_;intro ts g s;refine jD T (t:=3) s rfl ?_;intro ts g s;refine vG T (x0:=(4,false)) (x1:=(3,true)) s rfl ?_;intro ts g r s b;refine pz T .run s rfl rfl (YN ..) b rfl rfl (λ_=>rfl) rfl rfl rfl ?_;intro ts s;refine jD T (t:=4) s rfl ?_;intro ts g s;refine tt T (x0:=(4,true)) s rfl ?_;intro ts g r s b;refine pz T .fX s rfl rfl (YN ..) b rfl rfl (λ_=>rfl) rfl rfl rfl ?_;intro ts s;refine jD T (t:=4) s rfl ?_;intro ts g s;refine tt T (x0:=(4,true)) s rfl ?_;intro ts g r s b
 refine pz T .fail s rfl rfl (YN ..) b rfl rfl (λ_=>rfl) rfl rfl rfl ?_;intro ts s;refine jE T (t:=5) s rfl ?_;intro ts g s;refine jD T (t:=4) s rfl ?_;intro ts g s;refine vG T (x0:=(5,false)) (x1:=(4,true)) s rfl ?_;intro ts g r s b;refine pz T .gB s rfl rfl (YN ..) b rfl rfl (λ_=>rfl) rfl rfl rfl ?_;intro ts s;refine jD T (t:=5) s rfl ?_;intro ts g s;refine tt T (x0:=(5,true)) s rfl ?_;intro ts g r s b;refine pz T .rel s rfl rfl (YN ..) b rfl rfl (λ_=>rfl) rfl rfl rfl ?_;intro ts s;have hlen:=s.l;have t1:=s.m;refine Rs t1 ?_;exact⟨_,ur,λd=>s.e d (by cases d<;>decide) _⟩
end
end Go.Abs
