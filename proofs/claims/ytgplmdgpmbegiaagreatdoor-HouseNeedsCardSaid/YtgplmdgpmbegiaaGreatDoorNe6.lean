/- A part of the proof that HouseNeeds holds. No condition. -/
import Derived.Test.YtgplmdgpmbegiaaGreatDoorNe4
import Derived.Test.YtgplmdgpmbegiaaGreatDoorNe0
set_option maxHeartbeats 4000000
set_option linter.all false
open Nat (reduceAdd reduceMul reduceLeDiff reduceEqDiff)
namespace Go.Abs
def fN:
  (∀{b o:Nat}{n:Option Nat}{X:ah}{K:ak}(_:b=X.length),aq n (.ptr b o) (λz=>(X++[K])[z]?)=dJ n o K)/\
  (∀{b o:Nat}{n:Option Nat}{X a:ah}(_:b<X.length),aq n (.ptr b o) (λz=>(X++a)[z]?)=aq n (.ptr b o) (λz=>X[z]?))/\
  (∀{b o y:Nat}{v:AV}{X:ah}{K:ak}(_:b=X.length),aU y (.ptr b o) v (λz=>(X++[K])[z]?)=jI y o v b K)/\
  (∀{b o y:Nat}{v:AV}{X a:ah}(_:b<X.length),aU y (.ptr b o) v (λz=>(X++a)[z]?)=aU y (.ptr b o) v (λz=>X[z]?))/\
  (∀{b:Nat}{X:ah}{K K':ak}(_:b=X.length),(X++[K]).set b K' =X++[K'])/\
  (∀{b:Nat}{X a:ah}{K':ak}(_:b<X.length),(X++a).set b K' =X.set b K'++a)/\
  (∀{b pos:Nat}{s:By}{X:ah}(_:b=X.length),fF (.ptr b 0) (λz=>(X++[.iter s pos])[z]?)=eo b s pos)/\
  (∀{b:Nat}{X a:ah}(_:b<X.length),fF (.ptr b 0) (λz=>(X++a)[z]?)=fF (.ptr b 0) (λz=>X[z]?)):=by
 refine⟨λh=>?_,λh=>?_,λh=>?_,λh=>?_,λh=>?_,λh=>?_,λh=>?_,λh=>?_⟩
 ·subst h;exact aB aV
 ·simp only[aq,c9 _ h]
 ·subst h;exact aN aV
 ·simp only[aU,c9 _ h]
 ·subst h;exact y4
 ·exact eX _ _ h
 ·subst h;exact dK aV
 ·simp only[fF,c9 _ h]
end Go.Abs
namespace Go.Abs
def nF{h':ah}{X:ak}{g:ah}{n:Nat}(hn:h'.length=n):(h'++[X]++g)[n]? =some X:=by
 subst hn;exact z148
def rK{h':ah}{X Y:ak}{g:ah}{n:Nat}(hn:h'.length=n):(h'++[X]++g).set n Y=h'++[Y]++g:=by
 subst hn;rw[ZE,aaA _ _ (ZO _),aaG,ZE];rfl
structure Iter(P:Program)(f:FuncId)(a c:List AV)(L:List (List AV))(pre:ah->Prop):Prop where
 run:∀(l:Nat) (h:ah) (J:Nat->ah->Prop) (D:ah->Prop),(∀i k,J i k->pre k)->(∀i k g,J i k->J i (k++g))->
  (∀i (hi:i<L.length) k,J i k->∃b k',fu P (.func (.yield l) [] []) L[i] k (.bool b) k'/\(if b=true then J (i+1) k' else D k'))->
  (∀k,J L.length k->D k)->J 0 h->du P f (a++[.func (.yield l) [] []]++c) h (λ_ k=>D k)
section
variable {P:Program}{ks:List Kt}{ts:TS}{h:ah}{Q:Ex->TS->ah->Prop}
def WC.iter(hmix:P.follows .mixedOrders=true){f A a c L pre g ps asg body}(hA:bR P f=some A)
  (hg:val ts g=.func (.func f) a c) (hi:Iter P f a c L pre) (hps:∀x∈L,x.length=ps.length) (I:Nat->ah->ah->Prop) (Fin:Ex->ah->ah->Prop)
  (h0:I 0 h []) (hcl:∀i h' g g2,I i h' g->I i h' (g++g2)) (hpre:∀i h' g X,h'.length=h.length->I i h' g->pre (h'++[X]++g))
  (step:∀i (hi:i<L.length) h' g (R B:ak),h'.length=h.length->I i h' g->
   WC P C9 asg [] (setArgs ts ps L[i]) (h'++[R]++g) λe1 VI h2=>e1=.normal/\∃h1 g1,h2=h1++[R]++g1/\h1.length=h.length/\
    WC P C9 body [] VI (h1++[B]++g1) λe2 _ h4=>∃h3 g3,h4=h3++[B]++g3/\h3.length=h.length/\(if e2=.normal then I (i+1) h3 g3 else Fin e2 h3 g3))
  (done:∀e h' g,h'.length=h.length->(if e=.normal then I L.length h' g else Fin e h' g)->WE P bN e ks ts (h'++[ak.dead]++g) Q):WC P bN (.fW g ps asg body) ks ts h Q:=by
 let J:Nat->ah->Prop:=λi k=>∃h' g,k=h'++[.loop .ready .normal ts ps asg body]++g/\h'.length=h.length/\I i h' g
 let D:ah->Prop:=λk=>∃e h' g st,k=h'++[.loop st e ts ps asg body]++g/\h'.length=h.length/\st≠.busy/\(if e=.normal then I L.length h' g else Fin e h' g)
 obtain⟨v,h2,hs,e,h',g',st,rfl,hl,bS,T9⟩:=hi.run h.length (h++[.loop .ready .normal ts ps asg body]) J D
  (λi k hJ=>by obtain⟨h',g,rfl,h1,h2⟩:=hJ;exact hpre i h' g _ h1 h2)
  (λi k g2 hJ=>by obtain⟨h',g,rfl,h1,h2⟩:=hJ;exact⟨h',g++g2,by rw[ZE],h1,hcl _ _ _ _ h2⟩)
  (λi hi k hJ=>by
   obtain⟨h',g,rfl,h1,h2⟩:=hJ;obtain⟨e1,VI,k2,q1,rfl,h3,g3,rfl,h4,q2⟩:=W.sound hmix (step i hi h' g (.loop .ready .normal ts ps asg body) (.loop .busy .normal ts ps asg body) h1 h2);obtain⟨e2,ts3,k3,q3,h5,g5,rfl,h6,q4⟩:=W.sound hmix q2;have hy:fu P (.func (.yield h.length) [] []) L[i] (h'++[.loop .ready .normal ts ps asg body]++g) (.bool (decide (e2=.normal))) (List.set (h5++[ak.loop .busy .normal ts ps asg body]++g5) h.length (ak.loop (if e2=.normal then .ready else .done) e2 ts ps asg body)):=
    fu.yield (nF h1) (hps _ (ZR hi)) (λr=>q1 (some r) ⟨r,rfl⟩) (nF h4) (λr=>by rw[rK h4];exact q3 (some r) ⟨r,rfl⟩) (nF h6)
   rw[rK h6]at hy;refine⟨decide (e2=.normal),_,hy,?_⟩;by_cases he:e2=.normal
   ·exact KR
   ·rw[ZN he]at q4;simp only[he,Z9,aav,ZY];exact⟨e2,h5,g5,.done,rfl,h6,Si,by rw[ZN he];exact q4⟩)
  (λk hJ=>by obtain⟨h',g,rfl,h1,h2⟩:=hJ;exact⟨.normal,h',g,.ready,rfl,h1,Si,by rw[ZS rfl];exact h2⟩)
  ⟨h,[],by rw[Z6],rfl,h0⟩
 exact Rk
end
end Go.Abs
namespace Go.Abs
theorem vq:∀(l c pre:List AV),c.length=l.length->fU (pre++c) pre.length l=pre++l
 |[],c,pre,h=>by
  exact z203
 |x::l,[],pre,h=>by simp at h
 |x::l,y::c,pre,h=>by
  have e1:(pre++y::c).set pre.length x=(pre++[x])++c:=by
   exact KM
  have e2:pre.length+1=(pre++[x]).length:=Si
  rw[pE,e1,e2,vq l c (pre++[x]) (by simpa using h),ZE];rfl
theorem qo{es:Nat}{v:AV}:∀{cs:List (List AV)},(∀x∈cs,x.length=es)->∀{i off:Nat}(hi:i<cs.length),off<es->cs.flatten.set (i*es+off) v=(cs.set i (cs[i].set off v)).flatten
 |[],_,i,off,hi,_=>absurd hi (Nat.not_lt_zero _)
 |c::cs,h,0,off,hi,ho=>by
  have hc:c.length=es:=h c (aan ..);rw[aaR,abI,aau,List.set_append_left _ _ Om];rfl
 |c::cs,h,i+1,off,hi,ho=>by
  have hc:c.length=es:=h c (aan ..);have h1:=qo (v:=v) (cs:=cs) (λx hx=>h x (Z8 _ hx)) (i:=i) (off:=off) (by simpa using hi) ho;rw[aaR,aaA _ _ (by rw[aaW];omega),show(i+1)*es+off-c.length=i*es+off by rw[aaW];omega,h1];rfl
def om{es w N0 n:Nat}{z:List AV}{k k':IntKind}(h1:w*n<=2^48)(h2:n<2^63):tA es w z (.int k n) (.int k' n) N0=some (.slice N0 0 n es,.push (.cells (dO n z) true true)):=by
 simp only[tA];rw[ZS ⟨Om,Om,by exact_mod_cast h1,by exact_mod_cast h2⟩];rfl
def Fr.BG{N n es h z}(hN:N<=h.length)(hz:z.length=es):Fr N (h++[.cells (dO n z) true true]) (.slice h.length 0 n es) es (List.replicate n z):=by
 have:=Fr.push (h:=h) (es:=es) hN (List.replicate n z) (λx hx=>by rw[(List.mem_replicate.1 hx).2];exact hz);rw[aaK]at this;exact this
section
variable {P:Program}{ro:Option Nat->Prop}{ks:List Kt}{ts:TS}{Q:Ex->TS->ah->Prop}{d:Option Nat}{l:List bL}
def WR.pQ{q N b es w h y ys}(hb:h[b]? =some (.cells [] true false))(hN:N<=b)(hy:aH h y es ys)(eG:ys.length*w<=2^46)
  (K:∀s' g,Fr N (h++g) s' es ys->WP P ro l ks (put ts d s') (h++g) Q):WR P ro (pR es w (.slice b 0 0 es) y (λb=>h[b]?) h.length) q d l ks ts h Q:=by
 have hbl:b<h.length:=(ZC.1 hb).1;simp only[pR,hy.fq,Z1];by_cases hk:ys.length=0
 ·have hys:ys=[]:=aay.1 hk;subst hys;simp only[ZJ,Z1,List.flatten_nil,List.isEmpty_nil];rw[ji];have:=K (.slice b 0 0 es) [] (by rw[Z6];exact Fr.mk (cs:=[]) hN hb Si)
  rwa [Z6]at this
 ·simp only[ZN hk,aau,ZS eG,hb];rw[ZS Si,mJ];exact K _ _ (Fr.push Om ys hy.rows)
def WR.vE{α:Type}{row:α->List AV}{L:List α}{h0 g:ah}{s v:AV}{es i off:Nat}{x':α}(hs:Fr h0.length (h0++g) s es (L.map row))(hi:i<L.length)(ho:off<es)(hv:v.one=true)(hx:row x' =(row L[i]).set off v)
  (K:∀g',g'.length=g.length->Fr h0.length (h0++g') s es ((L.set i x').map row)->(∀b,(∀b0 o n e,s=.slice b0 o n e->b≠b0)->(h0++g')[b]? =(h0++g)[b]?)->WP P ro l ks (put ts d az) (h0++g') Q):
  WR P ro (aU 1 (mD s es i off) v (λb=>(h0++g)[b]?)) false d l ks ts (h0++g) Q:=by
 have T4:=hs.aX.rows;generalize UW:L.map row=cs at hs;have hcl:cs.length=L.length:=by rw[<-UW,ZL]
 cases hs with
 |nil=>simp at hcl;omega
 | @mk b _ _ tl hN hb he=>
  have S4:=eS he;have hie:i*es+off<cs.flatten.length:=by
   rw[S4,hcl];have:(i+1)*es<=L.length*es:=aaJ _ hi;rw[aaW]at this;omega
  have aW:cs.flatten.set (i*es+off) v=((L.set i x').map row).flatten:=by
   have:=qo (v:=v) he (i:=i) (off:=off) Om ho;rw[this,abJ,hx,UW];congr 2;simp[<-UW]
  have hbl:b<(h0++g).length:=(ZC.1 hb).1;show WR P ro (aU 1 (.ptr b (0+i*es+off)) v (λb=>(h0++g)[b]?)) false d l ks ts (h0++g) Q;rw[aau,aN hb,bW hv Om,sj,aW,aaA _ _ hN];refine K _ Si ?_ λb' hb'=>?_
  ·have hl2:((L.set i x').map row).length=cs.length:=by simp[hcl]
   rw[<-hl2];refine Fr.mk hN (tl:=tl) ?_ λy hy=>?_
   ·exact z156
   ·rw[abJ]at hy;rcases aaQ hy with hy|hy
    ·exact he y (by rw[<-UW];exact hy)
    ·rw[hy,hx,aap];exact he _ (by rw[<-UW];exact ZT (ZR hi))
  ·exact z127
def WR.Na{h0 g s sy es cs ys x y}(hx:val ts x=s)(hy:val ts y=sy)(hs:Fr h0.length (h0++g) s es cs)(hsy:aH (h0++g) sy es ys)(hl:cs.length=ys.length)
  (K:∀g' v,g'.length=g.length->Fr h0.length (h0++g') s es ys->(∀b,(∀b0 o n e,s=.slice b0 o n e->b≠b0)->(h0++g')[b]? =(h0++g)[b]?)->WP P ro l ks (put ts d v) (h0++g') Q):
  WR P ro (stepT (.zL es x y) (val ts) (λb=>(h0++g)[b]?) (h0++g).length) false d l ks ts (h0++g) Q:=by
 simp only[stepT,nI,hx,hy,hsy.fq];have Uf:=eS hsy.rows;cases hs with
 |nil=>
  have:ys=[]:=aay.1 hl.symm;subst this;simp only;rw[ji];exact K g _ rfl .nil λ_ _=>rfl
 | @mk b _ _ tl hN hb he=>
  have hcl:=eS he;have VA:min ys.length cs.length=ys.length:=Om
  simp only[Z1,VA];by_cases hk:ys.length=0
  ·have hys:ys=[]:=aay.1 hk;have UW:cs=[]:=aay.1 Om;subst hys;subst UW;simp only[ZJ,Z1];rw[ji];exact K g _ rfl (Fr.mk (cs:=[]) hN hb Si) λ_ _=>rfl
  ·have hbl:b<(h0++g).length:=(ZC.1 hb).1;simp only[ZN hk,hb,aau];rw[ZS (by rw[hcl,hl];omega),sj];have aW:fU cs.flatten 0 (ys.flatten.take (ys.length*es))=ys.flatten:=by
    rw[<-Uf,aam];have:=vq ys.flatten cs.flatten [] (by rw[hcl,Uf,hl])
    simpa using this
   rw[aW,aaA _ _ hN];refine K _ _ Si ?_ λb' hb'=>?_
   ·rw[hl];refine Fr.mk hN (tl:=tl) ?_ hsy.rows;exact z156
   ·exact z127
end
end Go.Abs
namespace Go.Abs
section
variable (P:Program) (ro:Option Nat->Prop)
def WQ(l:List bL)(cs:List Acc)(ks:List Kt)(ts:TS)(h:ah)(Q:Ex->TS->ah->Prop):Prop:=BC h l ts cs λts' cs=>fg cs/\kq P ro ks Q .normal ts' (dS h cs)
def HA(r:Option AV)(d:Option Nat)(l:List bL)(cs:List Acc)(ks:List Kt)(ts:TS)(h:ah)(Q:Ex->TS->ah->Prop):Prop:=
 match r with
 |some v=>WQ P ro l cs ks (put ts d v) h Q
 |none=>False
def QS(a:AV)(r:Option (AV×iR))(d:Option Nat)(l:List bL)(cs:List Acc)(ks:List Kt)(ts:TS)(h:ah)(Q:Ex->TS->ah->Prop):Prop:=
 match a,r with
 |.ptr b _,some (v,.ay)=>WQ P ro l (cs++[.rd b]) ks (put ts d v) h Q
 |_,_=>False
def QR(a:AV)(r:Option (AV×iR))(d:Option Nat)(l:List bL)(cs:List Acc)(ks:List Kt)(ts:TS)(h:ah)(Q:Ex->TS->ah->Prop):Prop:=
 match a,r with
 |.ptr _ _,some (v,.set b k)=>WQ P ro l (cs++[.wr b k]) ks (put ts d v) h Q
 |_,_=>False
def NT(a:AV)(b q:Bool)(k:pv)(d:Option Nat)(l:List bL)(cs:List Acc)(ks:List Kt)(ts:TS)(h:ah)(Q:Ex->TS->ah->Prop):Prop:=
 match a with
 |.bool t=>if t=b then WQ P ro ({dst:=d,k:=k,gd:=none,q:=q} ::l) cs ks ts h Q else WQ P ro l cs ks (put ts d az) h Q
 |_=>WQ P ro l cs ks (put ts d az) h Q
end
section
variable {P:Program}{ro:Option Nat->Prop}{ks:List Kt}{ts:TS}{h:ah}{Q:Ex->TS->ah->Prop}{d:Option Nat}{q:Bool}{l:List bL}{cs:List Acc}
def qX:WC P ro (.sL l) ks ts h Q=WQ P ro l [] ks ts h Q:=rfl
def DU:WQ P ro [] cs ks ts h Q=(fg cs/\WE P ro .normal ks ts (dS h cs) Q):=rfl
def pk{v}:HA P ro (some v) d l cs ks ts h Q=WQ P ro l cs ks (put ts d v) h Q:=rfl
def po{v b o}:QS P ro (.ptr b o) (some (v,.ay)) d l cs ks ts h Q=WQ P ro l (cs++[.rd b]) ks (put ts d v) h Q:=rfl
def pn{v b b' o k}:QR P ro (.ptr b o) (some (v,.set b' k)) d l cs ks ts h Q=WQ P ro l (cs++[.wr b' k]) ks (put ts d v) h Q:=rfl
def kZ{k}(hp:fC k=true){r}(hr:stepT k (val ts) (λz=>h[z]?) h.length=r.map λv=>(v,.ay)):
  WQ P ro ({dst:=d,k:=k,gd:=none,q:=q} ::l) cs ks ts h Q=HA P ro r d l cs ks ts h Q:=by
 apply propext
 constructor
 ·rintro⟨v,c,⟨hn,_⟩|⟨_,hs⟩,H⟩
  ·exact absurd trivial hn
  rcases hs with⟨_,rfl,hs⟩|⟨n,a,b,off,hk,_⟩|⟨n,a,x,b,off,k',hk,_⟩
  ·have hs:stepT k (val ts) (λz=>h[z]?) h.length=some (v,.ay):=hs;rw[hr]at hs;cases r with
   |none=>cases hs
   |some v'=>cases hs;exact H
  ·have hk:k=.load n a:=hk;rw[hk]at hp;cases hp
  ·have hk:k=.store n a x:=hk;rw[hk]at hp;cases hp
 ·intro H;cases r with
  |none=>exact H.elim
  |some v=>exact⟨v,.no,.inr ⟨trivial,.inl ⟨hp,rfl,hr⟩⟩,H⟩
def qV{n a}:WQ P ro ({dst:=d,k:=.load n a,gd:=none,q:=q} ::l) cs ks ts h Q=QS P ro (val ts a) (aq n (val ts a) (λz=>h[z]?)) d l cs ks ts h Q:=by
 apply propext
 constructor
 ·rintro⟨v,c,⟨hn,_⟩|⟨_,hs⟩,H⟩
  ·exact absurd trivial hn
  rcases hs with⟨hp,_⟩|⟨n',a',b,off,hk,ha,rfl,hs⟩|⟨n',a',x,b,off,k',hk,_⟩
  ·cases hp
  ·cases hk;have hs:aq n (val ts a) (λz=>h[z]?)=some (v,.ay):=hs;rw[hs,ha];exact H
  ·cases hk
 ·intro H;unfold QS at H;split at H
  ·rename_i b o v ha hr;exact⟨v,.rd b,.inr ⟨trivial,.inr (.inl ⟨n,a,b,o,rfl,ha,rfl,hr⟩)⟩,H⟩
  ·exact H.elim
def pg{n a x}:WQ P ro ({dst:=d,k:=.store n a x,gd:=none,q:=q} ::l) cs ks ts h Q=QR P ro (val ts a) (aU n (val ts a) (val ts x) (λz=>h[z]?)) d l cs ks ts h Q:=by
 apply propext
 constructor
 ·rintro⟨v,c,⟨hn,_⟩|⟨_,hs⟩,H⟩
  ·exact absurd trivial hn
  rcases hs with⟨hp,_⟩|⟨n',a',b,off,hk,_⟩|⟨n',a',x',b,off,k',hk,ha,rfl,hs⟩
  ·cases hp
  ·cases hk
  ·cases hk;have hs:aU n (val ts a) (val ts x) (λz=>h[z]?)=some (v,.set b k'):=hs;rw[hs,ha];exact H
 ·intro H;unfold QR at H;split at H
  ·rename_i b o v b' k ha hr;have hb:b' =b:=by
    rw[ha]at hr;simp only[aU]at hr;split at hr
    ·split at hr
     ·cases hr;rfl
     ·cases hr
    ·cases hr
   subst hb;exact⟨v,.wr b' k,(.inr ⟨trivial,.inr (.inr ⟨n,a,x,b',o,k,rfl,ha,rfl,hr⟩)⟩),H⟩
  ·exact H.elim
def zV{k g b}:WQ P ro ({dst:=d,k:=k,gd:=some (g,b),q:=q} ::l) cs ks ts h Q=NT P ro (val ts (.t g)) b q k d l cs ks ts h Q:=by
 have key:∀t:Bool,val ts (.t g)=.bool t->(wanted (some (g,b)) ts↔t=b):=λt hg=>by
  show ts[g]? =some (.bool b)↔_;have hg:ts.getD g az=.bool t:=hg;have e:ts[g]? =some (.bool t):=by
   rw[aaf]at hg;cases hx:ts[g]? with
   |none=>rw[hx]at hg;cases hg
   |some y=>rw[hx]at hg;exact aai some hg
  rw[e];simp
 have neg:(∀t,val ts (.t g)≠.bool t)->¬wanted (some (g,b)) ts:=λhn hw=>by
  have hw:ts[g]? =some (.bool b):=hw;exact hn b (by show ts.getD g az=_;rw[aaf,hw];rfl)
 have no:¬wanted (some (g,b)) ts->WQ P ro ({dst:=d,k:=k,gd:=some (g,b),q:=q} ::l) cs ks ts h Q=WQ P ro l cs ks (put ts d az) h Q:=λhy=>by
  apply propext
  constructor
  ·rintro⟨v,c,⟨_,rfl,rfl⟩|⟨hn,hs⟩,H⟩
   ·exact H
   ·exact absurd hn hy
  ·intro H;exact⟨az,.no,.inl ⟨hy,rfl,rfl⟩,H⟩
 unfold NT;split
 ·rename_i t ht;have hw:=key t ht;by_cases e:t=b
  ·rw[ZS e];have hy:=hw.2 e
   apply propext
   constructor
   ·rintro⟨v,c,⟨hn,_⟩|⟨_,hs⟩,H⟩
    ·exact absurd hy hn
    ·exact⟨v,c,.inr ⟨trivial,hs⟩,H⟩
   ·rintro⟨v,c,⟨hn,_⟩|⟨_,hs⟩,H⟩
    ·exact absurd trivial hn
    ·exact⟨v,c,.inr ⟨hy,hs⟩,H⟩
  ·rw[ZN e];exact no λz=>e (hw.1 z)
 ·rename_i hn;exact no (neg hn)
def uJ{k}:NT P ro (.bool true) true q k d l cs ks ts h Q=WQ P ro ({dst:=d,k:=k,gd:=none,q:=q} ::l) cs ks ts h Q:=rfl
def uK{k}:NT P ro (.bool false) true q k d l cs ks ts h Q=WQ P ro l cs ks (put ts d az) h Q:=rfl
def qU{c a b}:WQ P ro ({dst:=d,k:=.pick c a b,gd:=none,q:=q} ::l) cs ks ts h Q=HA P ro (tr (val ts c) (val ts a) (val ts b)) d l cs ks ts h Q:=by
 refine kZ rfl ?_;simp only[stepT,nI,tr];cases val ts c<;>rfl
def ph{x}:WQ P ro ({dst:=d,k:=.len .sl x,gd:=none,q:=q} ::l) cs ks ts h Q=HA P ro (uo (ju .sl (λb=>h[b]?) (val ts x))) d l cs ks ts h Q:=by
 refine kZ rfl ?_;simp only[stepT,nI,uo];cases ju .sl (λb=>h[b]?) (val ts x)<;>rfl
def uH{x}:WQ P ro ({dst:=d,k:=.cg x,gd:=none,q:=q} ::l) cs ks ts h Q=WQ P ro l cs ks (put ts d (val ts x)) h Q:=kZ (r:=some (val ts x)) rfl rfl
def uI{op x y}:WQ P ro ({dst:=d,k:=.bin op x y,gd:=none,q:=q} ::l) cs ks ts h Q=HA P ro (eF op (val ts x) (val ts y)) d l cs ks ts h Q:=by
 refine kZ rfl ?_;exact Kq
def zU{op x}:WQ P ro ({dst:=d,k:=.un op x,gd:=none,q:=q} ::l) cs ks ts h Q=HA P ro (xL op (val ts x)) d l cs ks ts h Q:=by
 refine kZ rfl ?_;simp only[stepT,nI];cases xL op (val ts x)<;>rfl
def qW{off x}:WQ P ro ({dst:=d,k:=.bu off x,gd:=none,q:=q} ::l) cs ks ts h Q=HA P ro (tM off (val ts x)) d l cs ks ts h Q:=by
 refine kZ rfl ?_;simp only[stepT,nI,tM];cases val ts x<;>rfl
def mK{x}:WQ P ro ({dst:=d,k:=.bQ x,gd:=none,q:=q} ::l) cs ks ts h Q=HA P ro (qx (val ts x)) d l cs ks ts h Q:=by
 refine kZ rfl ?_;exact z139
end
def uF{a:List Acc}:[]++a=a:=rfl
def uE{c:Acc}{a b:List Acc}:(c::a)++b=c:: (a++b):=rfl
def pf{h}:dS h []=h:=rfl
def pe{h b cs}:dS h (.rd b::cs)=dS h cs:=rfl
def pa{h b k cs}:dS h (.wr b k::cs)=dS (h.set b k) cs:=rfl
def Bl(b:Nat)(cs:List Acc):Prop:=∀x∈cs,x.dU≠some b
def o9(b:Nat)(cs:List Acc):Prop:=∀x∈cs,∀k,x≠Acc.wr b k
def JH{b}:Bl b []=True:=ace λx hx=>by cases hx
def JI{b c cs}:Bl b (c::cs)=(c.dU≠some b/\Bl b cs):=by
 simp[Bl]
def Gp{b}:o9 b []=True:=ace λx hx=>by cases hx
def Gn{b b' cs}:o9 b (.rd b'::cs)=o9 b cs:=by
 simp[o9]
def Gm{b b' k cs}:o9 b (.wr b' k::cs)=(b'≠b/\o9 b cs):=by
 unfold o9;simp only[aag,forall_eq_or_imp];refine propext ⟨λh=>⟨λe=>h.1 k (by rw[e]),h.2⟩,λh=>⟨λk' e=>h.1 (by cases e;rfl),h.2⟩⟩
def Gk:fg []=True:=rfl
def Gj{b cs}:fg (.rd b::cs)=(o9 b cs/\fg cs):=by
 unfold o9;simp only[fg,Acc.dU,aaa];refine propext ⟨λh=>⟨λx hx k hk=>h.1 b rfl x hx (by rw[hk]) k k (.inr hk),h.2⟩,λh=>⟨λb' e x hx _ k k' hk=>?_,h.2⟩⟩;subst e;rcases hk with hk|hk
 ·cases hk
 ·exact h.1 x hx k' hk
def Gi{b k cs}:fg (.wr b k::cs)=(Bl b cs/\fg cs):=by
 unfold Bl;simp only[fg,Acc.dU,aaa];refine propext ⟨λh=>⟨λx hx hk=>h.1 b rfl x hx hk k k (.inl rfl),h.2⟩,λh=>⟨λb' e x hx hk _ _ _=>?_,h.2⟩⟩;subst e;exact h.1 x hx hk
def Nf{b}:(Acc.rd b).dU=some b:=rfl
def Nd{b k}:(Acc.wr b k).dU=some b:=rfl
def bw:
  (∀{ts:TS}{i j:Nat}{v:AV}(_:(i=j)=False),slot (ts.set i v) j=slot ts j)/\
  (∀{ts:TS}{i:Nat}{v:AV}(_:i+1<=ts.length),slot (ts.set i v) i=v)/\
  (∀{ts:TS}{i:Nat}{X:Prop}(_:i+1<=ts.length),MI ts[i]? X=X)/\
  (∀{ts:TS}{i:Nat}{v:AV},(ts.set i v).length=ts.length)/\
  (∀{u:TypeId}{x:AV}{G:Nat->Option ak}{N:Nat},mU (.uS u) x G N=some (.uS u x,.ay)):=by
 refine⟨λ{ts i j v} h=>?_,λ{ts i v} h=>?_,λ{ts i X} h=>by rw[ZH h];rfl,λ{ts i v}=>aap,rfl⟩
 ·have hne:i≠j:=λe=>by rw[<-h];exact e
  unfold slot;rw[List.getD,List.getD,ZV hne]
 ·unfold slot;rw[List.getD,ZU h];rfl
end Go.Abs
namespace Go.Abs
abbrev ak.b(l:List AV):ak:=.cells l true false
abbrev AV.i(n:Int):AV:=.int .i64 n
def Rs{A B F:Prop}(f:F)(b:B)(e:F->(B->A)/\(∃x:Prop,x=B):=by(intro f;refine⟨λb=>?_,?_⟩;(focus (repeat (first|simp (config:={maxSteps:=1000000}) only[aS,aW,bo,bp,reduceAdd,reduceMul,reduceLeDiff,reduceEqDiff,bw,hlen,ZY,Z1,f]|simp (config:={maxSteps:=1000000}) (disch:=first|(simp only[ZB,ZG,ZJ]<;>omega)|rfl|omega|fail) only[fN,aS,aW,bo,bp,reduceAdd,reduceMul,reduceLeDiff,reduceEqDiff,bw,hlen,ZY,Z1,f]));all_goals exact b);first|exact⟨True,rfl⟩|exact⟨_,rfl⟩)):A:=(e f).1 b
def pA{A B F:Prop}(f:F)(b:B)(e:F->(B->A)/\(∃x:Prop,x=B):=by(intro f;refine⟨λb=>?_,?_⟩;(focus (repeat (first|simp (config:={maxSteps:=1000000}) only[aS,aW,bo,bp,reduceAdd,reduceMul,reduceLeDiff,reduceEqDiff,bw,hlen,ZY,Z1,reduceCtorEq,f]|simp (config:={maxSteps:=1000000}) (disch:=first|(simp only[ZB,ZG,ZJ]<;>omega)|rfl|omega|fail) only[fN,aS,aW,bo,bp,reduceAdd,reduceMul,reduceLeDiff,reduceEqDiff,bw,hlen,ZY,Z1,reduceCtorEq,f]));all_goals exact b);first|exact⟨True,rfl⟩|exact⟨_,rfl⟩)):A:=(e f).1 b
def Zs{A B F:Prop}(f:F)(b:B)(e:F->(B->A)/\(∃x:Prop,x=B):=by(intro f;refine⟨λb=>?_,?_⟩;(focus (simp only[aS,aW,bo,bp,reduceAdd,reduceMul,reduceLeDiff,reduceEqDiff,bw,hlen,ZY,Z1,f]);all_goals exact b);first|exact⟨True,rfl⟩|exact⟨_,rfl⟩)):A:=(e f).1 b
def Zn{A B:Prop}(b:B)(e:(B->A)/\(∃x:Prop,x=B):=by(refine⟨λb=>?_,?_⟩;(focus (simp only[aS,aW,bo,bp,reduceAdd,reduceMul,reduceLeDiff,reduceEqDiff,bw,hlen,ZY,Z1]);all_goals exact b);first|exact⟨True,rfl⟩|exact⟨_,rfl⟩)):A:=e.1 b
def Ws{A B F:Prop}(f:F)(b:B)(e:F->(B->A)/\(∃x:Prop,x=B):=by(intro f;refine⟨λb=>?_,?_⟩;(focus (simp only[aS,aW,bo,bp,reduceAdd,reduceMul,reduceLeDiff,reduceEqDiff,Z1,ZY,f]);all_goals exact b);first|exact⟨True,rfl⟩|exact⟨_,rfl⟩)):A:=(e f).1 b
def Wn{A B:Prop}(b:B)(e:(B->A)/\(∃x:Prop,x=B):=by(refine⟨λb=>?_,?_⟩;(focus (simp only[aS,aW,bo,bp,reduceAdd,reduceMul,reduceLeDiff,reduceEqDiff,Z1,ZY]);all_goals exact b);first|exact⟨True,rfl⟩|exact⟨_,rfl⟩)):A:=e.1 b
def Sq{A F:Prop}(f:F)(e:F->A:=by(intro f;simp only[aS,aW,bo,bp,reduceAdd,reduceMul,reduceLeDiff,reduceEqDiff,bw,hlen,ZY,Z1,f])):A:=e f
def Sw{A:Prop}(e:A:=by simp only[aS,aW,bo,bp,reduceAdd,reduceMul,reduceLeDiff,reduceEqDiff,bw,hlen,ZY,Z1]):A:=e
def Sk{A F:Prop}(f:F)(e:F->A:=by(intro f;(simp only[aS,aW,bo,bp,reduceAdd,reduceMul,reduceLeDiff,reduceEqDiff,bw,hlen,ZY,Z1,f];rfl))):A:=e f
def gP{A:Prop}(e:A:=by(simp only[aS,aW,bo,bp,reduceAdd,reduceMul,reduceLeDiff,reduceEqDiff,bw,hlen,ZY,Z1];rfl)):A:=e
def Sn{A:Prop}(e:A:=by simp only[bw,hlen]):A:=e
def Xx{A:Prop}(e:A:=by repeat first|with_reducible exact Ext.refl _|refine Ext.app _ ?_):A:=e
def aA.R4{P:Program}{h:ah}(nt:Nat)(hmix:P.follows .mixedOrders=true){f:FuncId}{A:au}(hA:bR P f=some A){R:AV->ah->Prop}(H:∀ts:TS,ts.length=nt->WC P bN A.body [] ts h (FQ A.rs (λv h'=>Ext h h'/\R v h')))(hn:A.nt=nt:=by rfl)(hl:(aT nt []).length=nt:=by rfl):aA P f [] h R:=by
 subst hn;exact .of hmix hA (H (aT A.nt []) hl)
def aA.lB{P:Program}{h:ah}(nt:Nat)(hmix:P.follows .mixedOrders=true){f:FuncId}{A:au}(hA:bR P f=some A){a0:AV}{R:AV->ah->Prop}(H:∀ts:TS,ts.length=nt->slot ts 0=a0->WC P bN A.body [] ts h (FQ A.rs (λv h'=>Ext h h'/\R v h')))(hn:A.nt=nt:=by rfl)(hl:(aT nt [a0]).length=nt:=by rfl):aA P f [a0] h R:=by
 subst hn;exact .of hmix hA (H (aT A.nt [a0]) hl rfl)
def aA.eP{P:Program}{h:ah}(nt:Nat)(hmix:P.follows .mixedOrders=true){f:FuncId}{A:au}(hA:bR P f=some A){a0 a1:AV}{R:AV->ah->Prop}(H:∀ts:TS,ts.length=nt->slot ts 0=a0->slot ts 1=a1->WC P bN A.body [] ts h (FQ A.rs (λv h'=>Ext h h'/\R v h')))(hn:A.nt=nt:=by rfl)(hl:(aT nt [a0,a1]).length=nt:=by rfl):aA P f [a0,a1] h R:=by
 exact Ko
def du.eP{P:Program}{h:ah}(nt:Nat)(hmix:P.follows .mixedOrders=true){f:FuncId}{A:au}(hA:bR P f=some A){a0 a1:AV}{R:AV->ah->Prop}(H:∀ts:TS,ts.length=nt->slot ts 0=a0->slot ts 1=a1->WC P bN A.body [] ts h (FQ A.rs (R)))(hn:A.nt=nt:=by rfl)(hl:(aT nt [a0,a1]).length=nt:=by rfl):du P f [a0,a1] h R:=by
 exact Ko
def aA.nW{P:Program}{h:ah}(nt:Nat)(hmix:P.follows .mixedOrders=true){f:FuncId}{A:au}(hA:bR P f=some A){a0 a1 a2:AV}{R:AV->ah->Prop}(H:∀ts:TS,ts.length=nt->slot ts 0=a0->slot ts 1=a1->slot ts 2=a2->WC P bN A.body [] ts h (FQ A.rs (λv h'=>Ext h h'/\R v h')))(hn:A.nt=nt:=by rfl)(hl:(aT nt [a0,a1,a2]).length=nt:=by rfl):aA P f [a0,a1,a2] h R:=by
 exact KE
def du.nW{P:Program}{h:ah}(nt:Nat)(hmix:P.follows .mixedOrders=true){f:FuncId}{A:au}(hA:bR P f=some A){a0 a1 a2:AV}{R:AV->ah->Prop}(H:∀ts:TS,ts.length=nt->slot ts 0=a0->slot ts 1=a1->slot ts 2=a2->WC P bN A.body [] ts h (FQ A.rs (R)))(hn:A.nt=nt:=by rfl)(hl:(aT nt [a0,a1,a2]).length=nt:=by rfl):du P f [a0,a1,a2] h R:=by
 exact KE
def WF.ce{P:Program}{ro:Option Nat->Prop}{ks:List Kt}{ts:TS}{h:ah}{Q:Ex->TS->ah->Prop}{q:Bool}{f:FuncId}{A:au}(hA:bR P f=some A){a c args:List AV}{d:Option Nat}{l:List bL}{V:AV}(H:aA P f (a++args++c) h (λv _=>v=V))(K:∀g,WP P ro l ks (put ts d V) (h++g) Q):WF P ro q (.func (.func f) a c) args d l ks ts h Q:=
 WF.res hA H λ_ g e=>e▸K g
def eQ{W:ah}{b:Nat}{B:ak}(h:W[b]? =some B){k:ah}{n:Option Nat}{a:Nat}(e:Ext W k):aq n (.ptr b a) (λz=>k[z]?)=dJ n a B:=aB (e.some h)
def eC{k n:Nat}(h:k<n):decide ((k:Int)<(n:Int))=true:=ZI Om
def ff{k n:Nat}(h:¬k<n):decide ((k:Int)<(n:Int))=false:=ZD Om
def cA(c:Bool)(e:Int):Int:=if c then e else 0
def bg(n lo hi:Int):Int:=if n<lo\/hi<n then 3 else 0
def bD:List Int->Int
 |[]=>0
 |x::xs=>if x=0 then bD xs else x
def gj(c:UInt8):Bool:=(65<=c.toNat&&c.toNat<=90)||(97<=c.toNat&&c.toNat<=122)
def fo(c:UInt8):Bool:=48<=c.toNat&&c.toNat<=57
def j8(c:UInt8):Bool:=gj c||fo c||c.toNat==95
def dQ:By->Bool
 |[]=>false
 |c::r=>decide (r.length<24)&&gj c&&r.all j8
inductive Kd where
 |eV
 |line
 |tape
 |gp
 |copy
 |accept
 |source
 |gg
 |merge
 |run
 |fT
 |fail
 |gE
 |rel
 deriving DecidableEq
def bz:Kd->By
 |.eV=>[117,110,100,111]
 |.line=>[108,105,110,101]
 |.tape=>[116,97,112,101]
 |.gp=>[115,104,111,116]
 |.copy=>[99,111,112,121]
 |.accept=>[97,99,99,101,112,116]
 |.source=>[115,111,117,114,99,101]
 |.gg=>[109,111,100,117,108,101]
 |.merge=>[109,101,114,103,101]
 |.run=>[114,117,110]
 |.fT=>[116,105,108,101]
 |.fail=>[102,97,105,108]
 |.gE=>[112,105,99,116,117,114,101]
 |.rel=>[114,101,108,101,97,115,101]
def Ha:List Kd:=[.eV,.line,.tape,.gp,.copy,.accept,.source,.gg,.merge,.run,.fT,.fail,.gE,.rel]
def bJ:Kd->List (Nat×Bool)
 |.eV=>[]
 |.line=>[(0,false)]
 |.tape=>[(1,false)]
 |.gp=>[(2,false),(0,true),(1,true)]
 |.copy=>[(1,true),(1,true)]
 |.accept=>[(0,true)]
 |.source=>[(3,false),(0,true)]
 |.gg=>[(3,false),(3,true)]
 |.merge=>[(3,false),(3,true),(3,true)]
 |.run=>[(4,false),(3,true)]
 |.fT=>[(4,true)]
 |.fail=>[(4,true)]
 |.gE=>[(5,false),(4,true)]
 |.rel=>[(5,true)]
def cD:Kd->Nat
 |.eV=>0
 |.line=>2
 |.tape=>2
 |.gp=>1
 |.copy=>1
 |.accept=>1
 |.source=>1
 |.gg=>2
 |.merge=>1
 |.run=>2
 |.fT=>3
 |.fail=>2
 |.gE=>1
 |.rel=>1
def gU(k:By):Option Kd:=Ha.find? λd=>bz d==k
def mz(d:Kd):gU (bz d)=some d:=by cases d<;>rfl
def cj{k d}(h:gU k=some d):k=bz d:=by
 have:=ab7 h;exact(eq_of_beq this).symm
def dD{k}(h:gU k=none)(d:Kd):k≠bz d:=by
 rintro rfl;rw[mz]at h;cases h
structure dN where
 num:Int
 kind:By
 names:List (By)
 cB:List Int
 text:By
structure dX where
 name:By
 want:Int
 acc:Bool
structure sH where
 name:By
 last:Int
structure jX where
 name:By
 line:By
 aG:List (By)
structure cQ where
 name:By
 gives:By
 line:By
 aI:List (By)
structure kF where
 name:By
 mod:By
 bd:List Int
structure nP where
 name:By
 jw:By
 iQ:Int
 rel:Bool
structure dA where
 tick:Int
 lines:List dX
 aG:List sH
 aj:List jX
 ar:List cQ
 aE:List kF
 aJ:List nP
def dA.zero:dA:=⟨0,[],[],[],[],[],[]⟩
def yq:dX:=⟨[],0,false⟩
def Pn:sH:=⟨[],0⟩
def E1:jX:=⟨[],[],[]⟩
def yp:cQ:=⟨[],[],[],[]⟩
def vO:kF:=⟨[],[],[]⟩
def Iw:nP:=⟨[],[],0,false⟩
def a8(l:List (By))(n:By):Nat:=l.findIdx λx=>decide (x=n)
def km{α:Type}(f:α->By)(l:List α)(n:By)(d:α):α:=l.getD (a8 (l.map f) n) d
def gq(R:dA):List (By):=R.lines.map dX.name
def jT(R:dA):List (By):=R.aG.map sH.name
def nj(R:dA):List (By):=R.aj.map jX.name
def fL(R:dA):List (By):=R.ar.map cQ.name
def iA(R:dA):List (By):=R.aE.map kF.name
def lh(R:dA):List (By):=R.aJ.map nP.name
def H3(R:dA):Nat->List (By)
 | 0=>gq R
 | 1=>jT R
 | 2=>nj R
 | 3=>fL R
 | 4=>iA R
 |_=>lh R
def dq(R:dA)(n:By):dX:=km dX.name R.lines n yq
def jH(R:dA)(n:By):sH:=km sH.name R.aG n Pn
def rm(R:dA)(n:By):jX:=km jX.name R.aj n E1
def gT(R:dA)(n:By):cQ:=km cQ.name R.ar n yp
def cW(R:dA)(n:By):kF:=km kF.name R.aE n vO
def jr(R:dA)(n:By):nP:=km nP.name R.aJ n Iw
def dW(R:dA)(t:Nat)(n:By):Bool:=decide (n∈H3 R t)
def jJ(R:dA)(t:Int)(n:By):Bool:=decide (t<=(jH R n).last)
def gX(R:dA)(x:jX)(t:Int):Bool:=x.aG.any (jJ R t)
def kG(R:dA)(t:Int):List (By):=(R.aj.filter λx=>!gX R x t).map jX.name
def rC(R:dA)(n:By):List jX:=R.aj.filter λx=>decide (x.line=n)
def cI:List Int->Nat->List Int
 |[],_=>[]
 |x::r,i=>if x<0 then(i:Int)::cI r (i+1)else cI r (i+1)
def lz(R:dA)(j:By):Bool:=R.aJ.any λp=>decide (p.jw=j)
def cp(m:By)(l:List cQ):List (By):=l.foldl (λn x=>if x.name∈n then n++x.aI else n) [m]
def dP(R:dA)(m:By):List cQ:=R.ar.filter λx=>decide (x.name∈cp m R.ar.reverse)
def dV(R:dA)(m:By):List dX:=R.lines.filter λl=>decide (l.name∈(dP R m).map cQ.line)
def gD(R:dA)(p:By):List (By):=
 (R.aj.filter λx=>decide (x.line∈(dV R (cW R (jr R p).jw).mod).map dX.name)).map jX.name
def fP(l:List Int):Int:=l.foldl (λx s=>(257*x+s).tmod 16777213) 1
def aL(e:dN)(i:Nat):By:=e.names.getD i []
def bI(e:dN)(i:Nat):Int:=e.cB.getD i 0
def dM:By:=[115,104,111,116,115]
def mC:By:=[115,101,99,116,105,111,110]
def oM:By:=[105,109,97,103,101]
def ng(n:Int):By:=if n=1 then dM else if n=2 then dM else if n=3 then mC else oM
def jW(n:Int):By:=if n=1 then dM else if n=2 then mC else oM
def gW(e:dN):Int:=
 if bg e.num 1 1000≠0 then 3 else
 match gU e.kind with
 |none=>13
 |some d=>if e.names.length≠(bJ d).length\/e.cB.length≠cD d then 2
  else if e.names.any (λs=>!dQ s)then 8
  else if e.cB.any (λn=>decide (bg n 0 999999999≠0))then 3
  else if e.text≠[]then 1 else 0
def nf(R:dA)(e:dN):List (Nat×Bool)->Nat->Bool
 |[],_=>false
 |r::l,i=>(r.2 && !dW R r.1 (aL e i))||nf R e l (i+1)
def rf(R:dA)(e:dN):List (Nat×Bool)->Nat->Bool
 |[],_=>false
 |r::l,i=>(!r.2&&dW R r.1 (aL e i))||rf R e l (i+1)
def kM(d:Kd)(R:dA)(e:dN):Int:=if nf R e (bJ d) 0 then 10 else if rf R e (bJ d) 0 then 9 else 0
def fQ(R:dA)(e:dN):Int:=(cW R (aL e 0)).bd.getD (bI e 1).toNat 0
def jz(R:dA)(e:dN):Int:=if lz R (aL e 0)then 23 else if((cW R (aL e 0)).bd.length:Int)<=bI e 1 then 3 else 0
def bn(R:dA)(e:dN):Kd->Int
 |.eV=>0
 |.line=>if bg (bI e 1) 1 64≠0 then 3 else if 16<=R.lines.length then 5 else 0
 |.tape=>if 999999999<bI e 0+bI e 1 then 4 else if 16<=R.aG.length then 5 else 0
 |.gp=>if(dq R (aL e 1)).acc then 23 else if !jJ R (bI e 0) (aL e 2)then 30 else if 64<=R.aj.length then 5 else 0
 |.copy=>if aL e 0=aL e 1 then 24 else if !jJ R (bI e 0) (aL e 0)then 30 else if !jJ R (bI e 0) (aL e 1)then 30 else 0
 |.accept=>if(dq R (aL e 0)).acc then 23 else if((rC R (aL e 0)).length:Int)<(dq R (aL e 0)).want then 16 else if(rC R (aL e 0)).any (λx=>!gX R x (bI e 0))then 30 else 0
 |.source=>if 32<=R.ar.length then 5 else 0
 |.gg=>if bg (bI e 1) 1 4≠0 then 13 else if(gT R (aL e 1)).gives≠ng (bI e 1)then 2 else if 32<=R.ar.length then 5 else 0
 |.merge=>if aL e 1=aL e 2 then 24 else if(gT R (aL e 1)).gives≠(gT R (aL e 2)).gives then 2 else if 32<=R.ar.length then 5 else 0
 |.run=>if(dV R (aL e 1)).any (λx=>!x.acc)then 32 else if bg (bI e 1) 1 32≠0 then 3 else if 16<=R.aE.length then 5 else 0
 |.fT=>if jz R e≠0 then jz R e else if 0<=fQ R e then 9 else 0
 |.fail=>if jz R e≠0 then jz R e else if fQ R e<0 then 7 else 0
 |.gE=>if lz R (aL e 1)then 23 else if cI (cW R (aL e 1)).bd 0≠[]then 32 else if 16<=R.aJ.length then 5 else 0
 |.rel=>if(jr R (aL e 0)).rel then 23 else 0
def je(a b:By)(x:jX):jX:=if a∈x.aG/\b∉x.aG then {x with aG:=x.aG++[b] } else x
def lC(R:dA)(e:dN)(s:Int):List kF:=R.aE.set (a8 (iA R) (aL e 0)) {cW R (aL e 0)with bd:=(cW R (aL e 0)).bd.set (bI e 1).toNat s}
def dt(R:dA)(e:dN):Kd->dA
 |.eV=>R
 |.line=>{R with lines:=R.lines++[⟨aL e 0,bI e 1,false⟩] }
 |.tape=>{R with aG:=R.aG++[⟨aL e 0,bI e 0+bI e 1⟩] }
 |.gp=>{R with aj:=R.aj++[⟨aL e 0,aL e 1,[aL e 2]⟩] }
 |.copy=>{R with aj:=R.aj.map (je (aL e 0) (aL e 1)) }
 |.accept=>{R with lines:=R.lines.set (a8 (gq R) (aL e 0)) {dq R (aL e 0)with acc:=true} }
 |.source=>{R with ar:=R.ar++[⟨aL e 0,dM,aL e 1,[]⟩] }
 |.gg=>{R with ar:=R.ar++[⟨aL e 0,jW (bI e 1),[],e.names.drop 1⟩] }
 |.merge=>{R with ar:=R.ar++[⟨aL e 0,(gT R (aL e 1)).gives,[],e.names.drop 1⟩] }
 |.run=>{R with aE:=R.aE++[⟨aL e 0,aL e 1,List.replicate (bI e 1).toNat (-1)⟩] }
 |.fT=>{R with aE:=lC R e (bI e 2) }
 |.fail=>{R with aE:=lC R e (-1) }
 |.gE=>{R with aJ:=R.aJ++[⟨aL e 0,aL e 1,fP (cW R (aL e 1)).bd,false⟩] }
 |.rel=>{R with aJ:=R.aJ.set (a8 (lh R) (aL e 0)) {jr R (aL e 0)with rel:=true} }
def gL(R:dA)(e:dN)(d:Kd):Int:=if bI e 0<R.tick then 22 else if kM d R e≠0 then kM d R e else bn R e d
def iw(R:dA)(e:dN)(d:Kd):dA:={dt R e d with tick:=bI e 0}
structure iK where
 da:List dN
 e8:List dN
 cM:List dA
def iK.zero:iK:=⟨[],[],[]⟩
def iK.now(H:iK):dA:=H.cM.getLastD dA.zero
def kE(e:dN):Kd:=(gU e.kind).getD .eV
def kD(H:iK)(e:dN):Int:=
 if e.num≠(H.da.length:Int)+1 then 11 else
 if kE e=.eV then
  (match H.e8.getLast? with
  |none=>12
  |some c=>if kE c=.rel then 21 else 0)
 else gL H.now e (kE e)
def kX(H:iK)(e:dN):iK:=
 if kE e=.eV then⟨H.da++[e],H.e8.dropLast,H.cM.dropLast⟩
 else⟨H.da++[e],H.e8++[e],H.cM++[iw H.now e (kE e)]⟩
def fJ(H:iK)(e:dN):Int:=if gW e≠0 then gW e else kD H e
def jC(H:iK):List dN->Nat->iK×Int×Int
 |[],_=>(H,0,0)
 |e::l,i=>if fJ H e≠0 then(iK.zero,(i:Int)+1,fJ H e)else jC (kX H e) l (i+1)
def bF(l:List dN):iK×Int×Int:=if 1000<l.length then(iK.zero,0,5)else jC iK.zero l 0
def cL{l n}(h:n∈l):a8 l n<l.length:=
 List.findIdx_lt_length_of_exists ⟨n,h,Si⟩
def lO{l n}(h:n∈l):l[a8 l n]'(cL h)=n:=by
 have:=List.findIdx_getElem (p:=λx=>decide (x=n)) (xs:=l) (w:=cL h);exact aaU this
def vG{l n}(h:n∉l):a8 l n=l.length:=by
 refine List.findIdx_eq_length.2 λx hx=>ZD λe=>h (e▸hx)
def cS{α:Type}{f:α->By}{l:List α}{n:By}{d:α}(h:n∈l.map f):km f l n d=l[a8 (l.map f) n]'(by simpa using cL h):=by
 have:a8 (l.map f) n<l.length:=by simpa using cL h
 rw[km,aaf,ZH this];rfl
def fH{α:Type}{f:α->By}{l:List α}{n:By}{d:α}(h:n∈l.map f):km f l n d∈l:=by
 rw[cS h];exact ZR _
def fi{α:Type}{f:α->By}{l:List α}{n:By}{d:α}(h:n∈l.map f):f (km f l n d)=n:=by
 rw[cS h];have:=lO h;rw[aaN]at this;exact this
def jd{α:Type}{f:α->By}{l:List α}{x d:α}(hn:(l.map f).Nodup)(h:x∈l):km f l (f x) d=x:=by
 have hm:f x∈l.map f:=ZT h;obtain⟨i,hi,rfl⟩:=abt h;rw[cS hm];have h1:=lO hm;have h2:(l.map f)[i]'(by simpa using hi)=f l[i]:=aaN ..;have:=(List.getElem_inj hn).1 (h1.trans h2.symm);congr 1
structure pY(l:List (By)):Prop where
 nd:l.Nodup
 nm:∀n∈l,dQ n=true
def pY.nil:pY []:=⟨List.nodup_nil,λ_ h=>by cases h⟩
def pY.add{l n}(h:pY l)(hn:dQ n=true)(hl:n∉l):pY (l++[n]):=by
 refine⟨abm.2 ⟨h.nd,Si,?_⟩,λx hx=>?_⟩
 ·intro a ha b hb e;rw[ZW]at hb;exact hl (hb▸e▸ha)
 ·rcases ZK.1 hx with hx|hx
  ·exact h.nm x hx
  ·rw[ZW]at hx;rw[hx];exact hn
structure eD(R:dA):Prop where
 n0:pY (gq R)
 n1:pY (jT R)
 n2:pY (nj R)
 n3:pY (fL R)
 n4:pY (iA R)
 n5:pY (lh R)
 tk:0<=R.tick/\R.tick<=999999999
 l0:R.lines.length<=16
 l1:R.aG.length<=16
 l2:R.aj.length<=64
 l3:R.ar.length<=32
 l4:R.aE.length<=16
 l5:R.aJ.length<=16
 ln:∀x∈R.lines,1<=x.want/\x.want<=64
 tp:∀x∈R.aG,0<=x.last/\x.last<=999999999
 sh:∀x∈R.aj,x.line∈gq R/\x.aG≠[]/\x.aG.Nodup/\∀t∈x.aG,t∈jT R
 md:∀x∈R.ar,((x.aI=[]/\x.line∈gq R)\/(x.aI≠[]/\x.line=[]))/\x.aI.length<=2/\∀t∈x.aI,t∈fL R
 jb:∀x∈R.aE,x.mod∈fL R/\1<=x.bd.length/\x.bd.length<=32/\∀s∈x.bd,-1<=s/\s<=999999999
 pc:∀x∈R.aJ,x.jw∈iA R/\0<=x.iQ/\x.iQ<16777213
theorem eD.zero:eD dA.zero:=by
 refine⟨.nil,.nil,.nil,.nil,.nil,.nil,De,De,De,De,De,De,De,?_,?_,?_,?_,?_,?_⟩
 all_goals intro x hx;cases hx
structure jY(e:dN)(d:Kd):Prop where
 kd:gU e.kind=some d
 nu:1<=e.num/\e.num<=1000
 nl:e.names.length=(bJ d).length
 vl:e.cB.length=cD d
 nm:∀n∈e.names,dQ n=true
 vr:∀v∈e.cB,0<=v/\v<=999999999
 tx:e.text=[]
def iD{n lo hi}(h:¬bg n lo hi≠0):lo<=n/\n<=hi:=by
 unfold bg at h;split at h
 ·exact absurd De h
 ·omega
def uy{e}(h:gW e=0):∃d,jY e d:=by
 unfold gW at h;split at h
 ·cases h
 case isFalse h0=>
 cases hk:gU e.kind with
 |none=>rw[hk]at h;cases h
 |some d=>
  rw[hk]at h;simp only at h;split at h
  ·cases h
  case isFalse h1=>
  split at h
  ·cases h
  case isFalse h2=>
  split at h
  ·cases h
  case isFalse h3=>
  split at h
  ·cases h
  case isFalse h4=>
  refine⟨d,hk,iD h0,Om,Om,?_,?_,by simpa using h4⟩
  ·intro n hn;cases hc:dQ n with
   |true=>rfl
   |false=>exact absurd (aaY.2 ⟨n,hn,by simp[hc]⟩) h2
  ·intro v hv;refine iD λhc=>h3 (aaY.2 ⟨v,hv,by simpa using hc⟩)
def zl{e i}(h:i<e.names.length):aL e i∈e.names:=by
 rw[aL,aaf,ZH h];exact ZR h
def qD{e i}(h:i<e.cB.length):bI e i∈e.cB:=by
 rw[bI,aaf,ZH h];exact ZR h
def gI{α:Type}{l m:List α}{x:α}(h:x∈l):x∈l++m:=ZK.2 (.inl h)
def jh{α:Type}{p:α->Prop}{l:List α}{y:α}(h:∀x∈l,p x)(hy:p y):∀x∈l++[y],p x:=by
 intro x hx;rcases ZK.1 hx with hx|hx
 ·exact h x hx
 ·rw[ZW]at hx;rw[hx];exact hy
def qR{α:Type}{p:α->Prop}{l:List α}{y:α}{i:Nat}(h:∀x∈l,p x)(hy:p y):∀x∈l.set i y,p x:=by
 intro x hx;rcases aaQ hx with hx|hx
 ·exact h x hx
 ·rw[hx];exact hy
def map_set{α:Type}{f:α->By}{l:List α}{n:By}{d y:α}(hn:n∈l.map f)(hy:f y=n):(l.set (a8 (l.map f) n) y).map f=l.map f:=by
 rw[abJ];have:=lO hn;rw[hy]
 conv=>lhs;arg 3;rw[<-this]
 exact List.set_getElem_self _
structure sU(R:dA)(e:dN)(d:Kd):Prop where
 kn:∀i t,(bJ d)[i]? =some (t,true)->aL e i∈H3 R t
 fr:∀i t,(bJ d)[i]? =some (t,false)->aL e i∉H3 R t
theorem BL{R e}:∀{l}{i},nf R e l i=false->∀j t,l[j]? =some (t,true)->aL e (i+j)∈H3 R t
 |[],i,_,j,t,h=>by simp at h
 |r::l,i,h,j,t,hj=>by
  rw[nf,Bool.or_eq_false_iff]at h;cases j with
  |zero=>
   simp only[aaO,aaa]at hj;subst hj;have:=h.1;simp only[aa4,Bool.not_eq_false',dW,aah]at this;exact this
  |succ j=>
   simp only[aaX]at hj;have:=BL h.2 j t hj
   rwa [Nat.add_assoc,Nat.add_comm 1 j]at this
theorem BQ{R e}:∀{l}{i},rf R e l i=false->∀j t,l[j]? =some (t,false)->aL e (i+j)∉H3 R t
 |[],i,_,j,t,h=>by simp at h
 |r::l,i,h,j,t,hj=>by
  rw[rf,Bool.or_eq_false_iff]at h;cases j with
  |zero=>
   simp only[aaO,aaa]at hj;subst hj;have:=h.1;simp only[aab,aa4,dW,abp]at this;exact this
  |succ j=>
   simp only[aaX]at hj;have:=BQ h.2 j t hj
   rwa [Nat.add_assoc,Nat.add_comm 1 j]at this
def vP{R e d}(h:kM d R e=0):sU R e d:=by
 unfold kM at h;split at h
 ·cases h
 case isFalse h1=>
 split at h
 ·cases h
 case isFalse h2=>
 refine⟨λi t hi=>?_,λi t hi=>?_⟩
 ·have:=BL (by simpa using h1) i t hi;rwa [aau]at this
 ·have:=BQ (by simpa using h2) i t hi;rwa [aau]at this
def AU(x s:Int)(hx:0<=x)(hs:0<=s):0<=(257*x+s).tmod 16777213/\(257*x+s).tmod 16777213<16777213:=by
 rw[Int.tmod_eq_emod_of_nonneg Om];omega
theorem wU:∀(l:List Int) (x:Int),(∀s∈l,0<=s)->0<=x->x<16777213->0<=l.foldl (λx s=>(257*x+s).tmod 16777213) x/\l.foldl (λx s=>(257*x+s).tmod 16777213) x<16777213
 |[],x,_,h1,h2=>⟨h1,h2⟩
 |s::l,x,hs,h1,h2=>by
  have:=AU x s h1 (hs s Si);exact wU l _ (λt ht=>hs t (Z8 _ ht)) this.1 this.2
def FC{l}(hs:∀s∈l,0<=s):0<=fP l/\fP l<16777213:=wU l 1 hs De De
theorem pJ:∀{l}{i},cI l i=[]->∀s∈l,0<=s
 |[],_,_,s,hs=>by cases hs
 |x::r,i,h,s,hs=>by
  rw[cI]at h;split at h
  ·cases h
  ·rcases aag.1 hs with rfl|hs
   ·omega
   ·exact pJ h s hs
theorem eD.tick{R}(w:eD R){t}(h:0<=t/\t<=999999999):eD {R with tick:=t}:={w with tk:=h}
section
variable {R:dA}{e:dN}(w:eD R)
include w
theorem eD.ME{n}(hn:n∈iA R):cW R n∈R.aE/\(cW R n).name=n:=⟨fH hn,fi hn⟩
def eD.G1(s:Int)(hn:aL e 0∈iA R)(hs:-1<=s/\s<=999999999):eD {R with aE:=lC R e s}:=by
 have hj:=w.ME hn;have hm:List.map kF.name (lC R e s)=iA R:=map_set (d:=vO) hn hj.2;refine {w with n4:=?_,l4:=?_,jb:=?_,pc:=?_}
 ·show pY (List.map kF.name (lC R e s));rw[hm];exact w.n4
 ·show(lC R e s).length<=16;rw[lC,aap];exact w.l4
 ·refine qR (λx hx=>w.jb x hx) ?_;have:=w.jb _ hj.1;refine⟨this.1,?_,?_,qR this.2.2.2 hs⟩
  ·show 1<=(List.set _ _ _).length;rw[aap];exact this.2.1
  ·show(List.set _ _ _).length<=32;rw[aap];exact this.2.2.1
 ·intro x hx;have:=w.pc x hx;exact⟨by show x.jw∈List.map kF.name (lC R e s);rw[hm];exact this.1,this.2⟩
def eD.act{d:Kd}(he:jY e d)(hk:sU R e d)(hc:bn R e d=0):eD (dt R e d):=by
 have gn:∀i,i<(bJ d).length->dQ (aL e i)=true:=λi hi=>he.nm _ (zl (by rw[he.nl];exact hi))
 have gv:∀i,i<cD d->0<=bI e i/\bI e i<=999999999:=λi hi=>he.vr _ (qD (by rw[he.vl];exact hi))
 cases d with
 |eV=>exact w
 |line=>
  have f0:aL e 0∉gq R:=hk.fr 0 0 rfl;rw[bn]at hc;split at hc
  ·cases hc
  case isFalse h1=>
  split at hc
  ·cases hc
  case isFalse h2=>
  have h1:=iD h1;have em:gq (dt R e .line)=gq R++[aL e 0]:=ZM;refine {w with n0:=?_,l0:=?_,ln:=?_,sh:=?_,md:=?_}
  ·rw[em];exact w.n0.add (gn 0 De) f0
  ·show(R.lines++[_]).length<=16;rw[ZB,Z4];omega
  ·exact jh w.ln h1
  ·intro x hx;have:=w.sh x hx;exact⟨by rw[em];exact gI this.1,this.2⟩
  ·intro x hx;obtain⟨h3,h4⟩:=w.md x hx;refine⟨?_,h4⟩;rcases h3 with h3|h3
   ·exact .inl ⟨h3.1,by rw[em];exact gI h3.2⟩
   ·exact .inr h3
 |tape=>
  have f0:aL e 0∉jT R:=hk.fr 0 1 rfl;have v0:=gv 0 De;have v1:=gv 1 De;rw[bn]at hc;split at hc
  ·cases hc
  case isFalse h1=>
  split at hc
  ·cases hc
  case isFalse h2=>
  have em:jT (dt R e .tape)=jT R++[aL e 0]:=ZM;refine {w with n1:=?_,l1:=?_,tp:=?_,sh:=?_}
  ·rw[em];exact w.n1.add (gn 0 De) f0
  ·show(R.aG++[_]).length<=16;rw[ZB,Z4];omega
  ·exact jh w.tp (by show 0<=bI e 0+bI e 1/\bI e 0+bI e 1<=999999999;omega)
  ·intro x hx;obtain⟨h3,h4,h5,h6⟩:=w.sh x hx;exact⟨h3,h4,h5,λt ht=>by rw[em];exact gI (h6 t ht)⟩
 |gp=>
  have f0:aL e 0∉nj R:=hk.fr 0 2 rfl;have k1:aL e 1∈gq R:=hk.kn 1 0 rfl;have k2:aL e 2∈jT R:=hk.kn 2 1 rfl;rw[bn]at hc;split at hc
  ·cases hc
  split at hc
  ·cases hc
  split at hc
  ·cases hc
  case isFalse h2=>
  have em:nj (dt R e .gp)=nj R++[aL e 0]:=ZM;refine {w with n2:=?_,l2:=?_,sh:=?_}
  ·rw[em];exact w.n2.add (gn 0 De) f0
  ·show(R.aj++[_]).length<=64;rw[ZB,Z4];omega
  ·refine jh w.sh ⟨k1,Si,Si,λt ht=>?_⟩;rw[ZW]at ht;rw[ht];exact k2
 |copy=>
  have k1:aL e 1∈jT R:=hk.kn 1 1 rfl;have en:∀x,(je (aL e 0) (aL e 1) x).name=x.name:=λx=>by unfold je;split<;>rfl
  have el:∀x,(je (aL e 0) (aL e 1) x).line=x.line:=λx=>by unfold je;split<;>rfl
  have em:nj (dt R e .copy)=nj R:=by
   show List.map _ (List.map _ _)=_;rw[abj];exact List.map_congr_left λx _=>en x
  refine {w with n2:=?_,l2:=?_,sh:=?_}
  ·rw[em];exact w.n2
  ·show(List.map _ _).length<=64;rw[ZL];exact w.l2
  ·intro y hy;obtain⟨x,hx,rfl⟩:=Z3.1 (show y∈List.map _ R.aj from hy);obtain⟨h1,h2,h3,h4⟩:=w.sh x hx;rw[el];refine⟨h1,?_⟩;unfold je;split
   case isFalse=>exact⟨h2,h3,h4⟩
   case isTrue h5=>
    refine⟨Si,?_,jh h4 k1⟩;refine abm.2 ⟨h3,Si,λa ha b hb eq=>?_⟩;rw[ZW]at hb;exact h5.2 (hb▸eq▸ha)
 |accept=>
  have k0:aL e 0∈gq R:=hk.kn 0 0 rfl;have em:gq (dt R e .accept)=gq R:=map_set (d:=yq) k0 (fi k0);refine {w with n0:=?_,l0:=?_,ln:=?_,sh:=?_,md:=?_}
  ·rw[em];exact w.n0
  ·show(List.set _ _ _).length<=16;rw[aap];exact w.l0
  ·exact qR w.ln (w.ln (dq R (aL e 0)) (fH k0))
  ·intro x hx;have:=w.sh x hx;exact⟨by rw[em];exact this.1,this.2⟩
  ·intro x hx;obtain⟨h3,h4⟩:=w.md x hx;refine⟨?_,h4⟩;rcases h3 with h3|h3
   ·exact .inl ⟨h3.1,by rw[em];exact h3.2⟩
   ·exact .inr h3
 |source=>
  have f0:aL e 0∉fL R:=hk.fr 0 3 rfl;have k1:aL e 1∈gq R:=hk.kn 1 0 rfl;rw[bn]at hc;split at hc
  ·cases hc
  case isFalse h2=>
  have em:fL (dt R e .source)=fL R++[aL e 0]:=ZM;refine {w with n3:=?_,l3:=?_,md:=?_,jb:=?_}
  ·exact HK
  ·exact z85
  ·refine jh (λx hx=>?_) ⟨.inl ⟨rfl,k1⟩,aac _,λt ht=>by cases ht⟩;exact N3
  ·intro x hx;have:=w.jb x hx;exact⟨by rw[em];exact gI this.1,this.2⟩
 |gg=>
  have f0:aL e 0∉fL R:=hk.fr 0 3 rfl;have k1:aL e 1∈fL R:=hk.kn 1 3 rfl;have hl:e.names.length=2:=he.nl;have hdr:e.names.drop 1=[aL e 1]:=by
   match hn:e.names,hl with
   |[a,b],_=>simp[aL,hn]
  rw[bn]at hc;split at hc
  ·cases hc
  split at hc
  ·cases hc
  split at hc
  ·cases hc
  case isFalse h2=>
  have em:fL (dt R e .gg)=fL R++[aL e 0]:=ZM;refine {w with n3:=?_,l3:=?_,md:=?_,jb:=?_}
  ·exact HK
  ·exact z85
  ·refine jh (λx hx=>?_) ?_
   ·exact N3
   ·simp only[hdr];exact⟨.inr Si,Si,λt ht=>by rw[ZW]at ht;rw[ht,em];exact gI k1⟩
  ·intro x hx;have:=w.jb x hx;exact⟨by rw[em];exact gI this.1,this.2⟩
 |merge=>
  have f0:aL e 0∉fL R:=hk.fr 0 3 rfl;have k1:aL e 1∈fL R:=hk.kn 1 3 rfl;have k2:aL e 2∈fL R:=hk.kn 2 3 rfl;have hl:e.names.length=3:=he.nl;have hdr:e.names.drop 1=[aL e 1,aL e 2]:=by
   match hn:e.names,hl with
   |[a,b,c],_=>simp[aL,hn]
  rw[bn]at hc;split at hc
  ·cases hc
  split at hc
  ·cases hc
  split at hc
  ·cases hc
  case isFalse h2=>
  have em:fL (dt R e .merge)=fL R++[aL e 0]:=ZM;refine {w with n3:=?_,l3:=?_,md:=?_,jb:=?_}
  ·exact HK
  ·exact z85
  ·refine jh (λx hx=>?_) ?_
   ·exact N3
   ·simp only[hdr];refine⟨.inr Si,Si,λt ht=>?_⟩;rw[em];rcases aag.1 ht with ht|ht
    ·rw[ht];exact gI k1
    ·rw[ZW]at ht;rw[ht];exact gI k2
  ·intro x hx;have:=w.jb x hx;exact⟨by rw[em];exact gI this.1,this.2⟩
 |run=>
  have f0:aL e 0∉iA R:=hk.fr 0 4 rfl;have k1:aL e 1∈fL R:=hk.kn 1 3 rfl;rw[bn]at hc;split at hc
  ·cases hc
  split at hc
  ·cases hc
  case isFalse h1=>
  split at hc
  ·cases hc
  case isFalse h2=>
  have h1:=iD h1;have em:iA (dt R e .run)=iA R++[aL e 0]:=ZM;refine {w with n4:=?_,l4:=?_,jb:=?_,pc:=?_}
  ·rw[em];exact w.n4.add (gn 0 De) f0
  ·show(R.aE++[_]).length<=16;rw[ZB,Z4];omega
  ·refine jh w.jb ⟨k1,?_,?_,λs hs=>?_⟩
   ·show 1<=(List.replicate _ _).length;rw[aaK];omega
   ·show(List.replicate _ _).length<=32;rw[aaK];omega
   ·rw[(List.mem_replicate.1 hs).2];decide
  ·intro x hx;have:=w.pc x hx;exact⟨by rw[em];exact gI this.1,this.2⟩
 |fT=>exact w.G1 _ (hk.kn 0 4 rfl) (by have:=gv 2 De;omega)
 |fail=>exact w.G1 _ (hk.kn 0 4 rfl) De
 |gE=>
  have f0:aL e 0∉lh R:=hk.fr 0 5 rfl;have k1:aL e 1∈iA R:=hk.kn 1 4 rfl;rw[bn]at hc;split at hc
  ·cases hc
  split at hc
  ·cases hc
  case isFalse h1=>
  split at hc
  ·cases hc
  case isFalse h2=>
  have em:lh (dt R e .gE)=lh R++[aL e 0]:=ZM;refine {w with n5:=?_,l5:=?_,pc:=?_}
  ·rw[em];exact w.n5.add (gn 0 De) f0
  ·show(R.aJ++[_]).length<=16;rw[ZB,Z4];omega
  ·exact jh w.pc ⟨k1,FC (pJ (Classical.not_not.1 h1))⟩
 |rel=>
  have k0:aL e 0∈lh R:=hk.kn 0 5 rfl;have em:lh (dt R e .rel)=lh R:=map_set (d:=Iw) k0 (fi k0);refine {w with n5:=?_,l5:=?_,pc:=?_}
  ·rw[em];exact w.n5
  ·show(List.set _ _ _).length<=16;rw[aap];exact w.l5
  ·exact qR w.pc (w.pc (jr R (aL e 0)) (fH k0))
def eD.step{d}(he:jY e d)(hd:d≠.eV)(h:gL R e d=0):eD (iw R e d):=by
 unfold gL at h;split at h
 ·cases h
 split at h
 case isTrue h1=>exact absurd h h1
 case isFalse h1=>
 have h1:=Classical.not_not.1 h1;refine(w.act he (vP h1) h).tick (he.vr _ (qD ?_));rw[he.vl];cases d<;>first|exact absurd rfl hd|decide
end
def dm{α:Type}(p:α->Bool)(L:List α):Int:=
 match L.findIdx? p with
 |some i=>(i:Int)
 |none=>-1
def oI{α:Type}(p:α->Bool)(L:List α):decide (0<=dm p L)=L.any p:=by
 unfold dm;cases hx:L.findIdx? p with
 |none=>
  simp only[List.findIdx?_eq_none_iff]at hx;have:L.any p=false:=by rw[List.any_eq_false];intro x SC;simp[hx x SC]
  rw[this];rfl
 |some i=>
  have h1:=List.findIdx?_isSome (xs:=L) (p:=p);rw[hx]at h1;rw[<-h1];simp
def ao(x:By):List AV:=[.str x]
def bV(x:dX):List AV:=[.str x.name,.i x.want,.bool x.acc]
def dY(x:sH):List AV:=[.str x.name,.i x.last]
def bf(x:jX×AV):List AV:=[.str x.1.name,.str x.1.line,x.2]
def aP(x:cQ×AV):List AV:=[.str x.1.name,.str x.1.gives,.str x.1.line,x.2]
def bK(x:kF×AV):List AV:=[.str x.1.name,.str x.1.mod,x.2]
def cF(x:nP):List AV:=[.str x.name,.str x.jw,.i x.iQ,.bool x.rel]
structure RV where
 tick:Int
 lines:List dX
 aG:List sH
 aj:List (jX×AV)
 ar:List (cQ×AV)
 aE:List (kF×AV)
 aJ:List nP
 s0:AV
 s1:AV
 s2:AV
 s3:AV
 s4:AV
 s5:AV
def RV.an(V:RV):dA:=⟨V.tick,V.lines,V.aG,V.aj.map Prod.fst,V.ar.map Prod.fst,V.aE.map Prod.fst,V.aJ⟩
def RV.row(V:RV):List AV:=[.i V.tick,V.s0,V.s1,V.s2,V.s3,V.s4,V.s5]
def RV.zero:RV:=⟨0,[],[],[],[],[],[],.af,.af,.af,.af,.af,.af⟩
structure aD(h:ah)(V:RV):Prop where
 i0:aH h V.s0 3 (V.lines.map bV)
 i1:aH h V.s1 2 (V.aG.map dY)
 i2:aH h V.s2 3 (V.aj.map bf)
 i3:aH h V.s3 4 (V.ar.map aP)
 i4:aH h V.s4 3 (V.aE.map bK)
 i5:aH h V.s5 4 (V.aJ.map cF)
 e2:∀x∈V.aj,aH h x.2 1 (x.1.aG.map ao)
 e3:∀x∈V.ar,aH h x.2 1 (x.1.aI.map ao)
 e4:∀x∈V.aE,aH h x.2 1 (x.1.bd.map aM)
theorem aD.ext{h k V}(o:aD h V)(e:Ext h k):aD k V:=
 ⟨o.i0.ext e,o.i1.ext e,o.i2.ext e,o.i3.ext e,o.i4.ext e,o.i5.ext e,λx hx=>(o.e2 x hx).ext e,λx hx=>(o.e3 x hx).ext e,λx hx=>(o.e4 x hx).ext e⟩
theorem aD.zero{h}:aD h RV.zero:=by
 refine⟨.nil,.nil,.nil,.nil,.nil,.nil,?_,?_,?_⟩
 all_goals intro x hx;cases hx
def sB:AV->Option Nat
 |.slice b _ _ _=>some b
 |_=>none
def OE{v b}(h:sB v=some b):∃o n e,v=.slice b o n e:=by
 cases v with
 |slice b' o n e=>cases h;exact⟨o,n,e,rfl⟩
 |_=>cases h
def Fr.bP{N h s es cs}(hs:Fr N h s es cs){b}(hb:sB s=some b):N<=b/\b<h.length:=by
 obtain⟨o,n,e,rfl⟩:=OE hb;exact hs.lt rfl
def Fr.aC{N h k s es cs}(hs:Fr N h s es cs)(hk:∀b,sB s=some b->k[b]? =h[b]?):Fr N k s es cs:=by
 exact z146
def RV.bl(V:RV):List (Option Nat):=[sB V.s0,sB V.s1,sB V.s2,sB V.s3,sB V.s4,sB V.s5]++(V.aj.map λx=>sB x.2)++(V.ar.map λx=>sB x.2)++(V.aE.map λx=>sB x.2)
def lG(l:List (Option Nat)):Prop:=l.Pairwise λx y=>∀b,x=some b->y≠some b
structure cJ(N:Nat)(h:ah)(V:RV):Prop where
 i0:Fr N h V.s0 3 (V.lines.map bV)
 i1:Fr N h V.s1 2 (V.aG.map dY)
 i2:Fr N h V.s2 3 (V.aj.map bf)
 i3:Fr N h V.s3 4 (V.ar.map aP)
 i4:Fr N h V.s4 3 (V.aE.map bK)
 i5:Fr N h V.s5 4 (V.aJ.map cF)
 e2:∀x∈V.aj,Fr N h x.2 1 (x.1.aG.map ao)
 e3:∀x∈V.ar,Fr N h x.2 1 (x.1.aI.map ao)
 e4:∀x∈V.aE,Fr N h x.2 1 (x.1.bd.map aM)
 di:lG V.bl
def cJ.ok{N h V}(o:cJ N h V):aD h V:=
 ⟨o.i0.aX,o.i1.aX,o.i2.aX,o.i3.aX,o.i4.aX,o.i5.aX,λx hx=>(o.e2 x hx).aX,λx hx=>(o.e3 x hx).aX,λx hx=>(o.e4 x hx).aX⟩
theorem cJ.app{N h V}(o:cJ N h V)(g:ah):cJ N (h++g) V:=
 ⟨o.i0.app g,o.i1.app g,o.i2.app g,o.i3.app g,o.i4.app g,o.i5.app g,λx hx=>(o.e2 x hx).app g,λx hx=>(o.e3 x hx).app g,λx hx=>(o.e4 x hx).app g,o.di⟩
def cJ.ay{N h k V}(o:cJ N h V)(hk:∀b,some b∈V.bl->k[b]? =h[b]?):cJ N k V:=by
 have m6:∀x∈[sB V.s0,sB V.s1,sB V.s2,sB V.s3,sB V.s4,sB V.s5],x∈V.bl:=λx hx=>by simp only[RV.bl,ZK];exact .inl (.inl (.inl hx))
 refine⟨o.i0.aC λb hb=>hk b (hb▸m6 _ Si),o.i1.aC λb hb=>hk b (hb▸m6 _ Si),o.i2.aC λb hb=>hk b (hb▸m6 _ Si),o.i3.aC λb hb=>hk b (hb▸m6 _ Si),o.i4.aC λb hb=>hk b (hb▸m6 _ Si),o.i5.aC λb hb=>hk b (hb▸m6 _ Si),
  λx hx=>(o.e2 x hx).aC λb hb=>hk b ?_,λx hx=>(o.e3 x hx).aC λb hb=>hk b ?_,λx hx=>(o.e4 x hx).aC λb hb=>hk b ?_,o.di⟩
 ·exact z141
 ·exact KL
 ·exact z167
structure EV where
 ev:dN
 sn:AV
 sv:AV
def EV.row(x:EV):List AV:=[.i x.ev.num,.str x.ev.kind,x.sn,x.sv,.str x.ev.text]
structure bh(h:ah)(x:EV):Prop where
 n:aH h x.sn 1 (x.ev.names.map ao)
 v:aH h x.sv 1 (x.ev.cB.map aM)
theorem bh.ext{h k x}(o:bh h x)(e:Ext h k):bh k x:=⟨o.n.ext e,o.v.ext e⟩
structure eE(h:ah)(L:List EV)(s:AV):Prop where
 sl:aH h s 5 (L.map EV.row)
 all:∀x∈L,bh h x
theorem eE.ext{h k L s}(o:eE h L s)(e:Ext h k):eE k L s:=⟨o.sl.ext e,λx hx=>(o.all x hx).ext e⟩
end Go.Abs
namespace Go.Abs
inductive Ow (N:Nat) (h:ah):AV->Nat->List (List AV)->Prop
 |nil {es:Nat}:Ow N h .af es []
 |mk {b es:Nat}{cs:List (List AV)}{junk:List AV}(hN:N<=b) (hb:h[b]? =some (.cells (cs.flatten++junk) true true)) (he:∀x∈cs,x.length=es):Ow N h (.slice b 0 cs.length es) es cs
def Ow.aX{N h s es cs}(hs:Ow N h s es cs):aH h s es cs:=by
 cases hs with
 |nil=>exact .nil
 |mk hN hb he=>
  have hl:=eS he;exact .mk hb (by rw[aa0,<-hl,List.take_left]) (by rw[ZB];omega) he
def Ow.bP{N h s es cs}(hs:Ow N h s es cs){b}(hb:sB s=some b):N<=b/\b<h.length:=by
 cases hs with
 |nil=>cases hb
 |mk hN hb' he=>cases hb;exact⟨hN,(ZC.1 hb').1⟩
def Ow.aC{N h k s es cs}(hs:Ow N h s es cs)(hk:∀b,sB s=some b->k[b]? =h[b]?):Ow N k s es cs:=by
 exact z146
def Ow.cut{N h s es cs}(hs:Ow N h s es cs){n:Nat}(hn:n<=cs.length){k}:
  ∃s',Bx es s none (some (.int k (n:Int)))=some (s',.ay)/\sB s' =sB s/\Ow N h s' es (cs.take n):=by
 cases hs with
 |nil=>
  have:n=0:=by simpa using hn
  subst this;exact⟨.af,by simp only[Bx,jQ (ZO 0)],rfl,by rw[List.take_nil];exact .nil⟩
 | @mk b _ _ junk hN hb he=>
  refine⟨.slice b 0 n es,?_,rfl,?_⟩
  ·simp only[Bx,Z1,jQ hn,abI,ab6,Nat.sub_zero]
  ·have hl:(cs.take n).length=n:=by rw[aaB];omega
   have hf:cs.flatten++junk=(cs.take n).flatten++((cs.drop n).flatten++junk):=by
    rw[<-ZE,<-abl,aa5]
   rw[hf]at hb;have:=Ow.mk (cs:=cs.take n) hN hb (λx hx=>he x (aaD hx))
   rwa [hl]at this
section
variable {P:Program}{ro:Option Nat->Prop}{ks:List Kt}{ts:TS}{Q:Ex->TS->ah->Prop}
def WR.JA{h s y es cs ys N w d l}(hs:Ow N h s es cs)(hy:aH h y es ys)(hN:N<=h.length)(hes:0<es)(hne:0<ys.length)(eG:(cs.length+ys.length)*w<=2^46)
  (K:∀h',h'.length=h.length+1->Ow N h' (.slice h.length 0 (cs++ys).length es) es (cs++ys)->(∀b,b<h.length->sB s≠some b->h'[b]? =h[b]?)->WP P ro l ks (put ts d (.slice h.length 0 (cs++ys).length es)) h' Q):
  WR P ro (pR es w s y (λb=>h[b]?) h.length) false d l ks ts h Q:=by
 have Un:∀x∈cs++ys,x.length=es:=λx hx=>by
  exact KO
 have hk:¬ys.length=0:=Om
 simp only[pR,hy.fq];have mk:∀h1:ah,h1.length=h.length->Ow N (h1++[.cells (cs++ys).flatten true true]) (.slice h.length 0 (cs++ys).length es) es (cs++ys):=by
  intro h1 h1l;refine Ow.mk (junk:=[]) hN ?_ Un;rw[Z6,<-h1l];exact aV
 cases hs with
 |nil=>
  simp only[ZJ,aau]at eG;simp only[ZN hk,ZS eG];rw[mJ];have hK:=K (h++[.cells ys.flatten true true]) Si (mk h rfl) (λb hb _=>ZF hb);exact hK
 | @mk b _ _ junk hbN hb hre=>
  have hcl:=eS hre;simp only[Z1,ZN hk,ZS eG,hb,aau];rw[ZS (by rw[ZB];omega),nO];have hbl:b<h.length:=(ZC.1 hb).1;have hc:List.take (cs.length*es) (List.drop 0 (cs.flatten++junk))=cs.flatten:=by rw[aa0,<-hcl,List.take_left]
  rw[hc];have hK:=K (h.set b .dead++[.cells (cs++ys).flatten true true]) Si (mk _ Si) (λi hi hne=>by
   have:b≠i:=λe=>hne (by rw[<-e];rfl)
   rw[ZF (by simpa using hi),ZV this])
  simp only[abl,ZB]at hK ⊢;exact hK
end
def fS(ex:List (Option Nat))(h:ah):ah:=h.mapIdx λb k=>if some b∈ex then .dead else k
def uj{ex h b}(hb:some b∉ex):(fS ex h)[b]? =h[b]? :=by
 rw[fS,List.getElem?_mapIdx];cases h[b]? with
 |none=>rfl
 |some k=>simp[hb]
def rH{ex h b c mu tl}(hb:(fS ex h)[b]? =some (.cells c mu tl)):some b∉ex/\h[b]? =some (.cells c mu tl):=by
 rw[fS,List.getElem?_mapIdx]at hb;cases hk:h[b]? with
 |none=>rw[hk]at hb;cases hb
 |some k=>
  rw[hk]at hb;simp only[abv,aaa]at hb;split at hb
  ·cases hb
  case isFalse h1=>exact⟨h1,by rw[hb]⟩
def jA(k h:ah):Prop:=∀(b:Nat) (c:List AV) (mu tl:Bool),k[b]? =some (ak.cells c mu tl)->h[b]? =some (ak.cells c mu tl)
def aH.sub{k h s es cs}(o:aH k s es cs)(e:jA k h):aH h s es cs:=by
 cases o with
 |nil=>exact .nil
 |mk hb hf ho he=>exact .mk (e _ _ _ _ hb) hf ho he
theorem aD.sub{k h V}(o:aD k V)(e:jA k h):aD h V:=
 ⟨o.i0.sub e,o.i1.sub e,o.i2.sub e,o.i3.sub e,o.i4.sub e,o.i5.sub e,λx hx=>(o.e2 x hx).sub e,λx hx=>(o.e3 x hx).sub e,λx hx=>(o.e4 x hx).sub e⟩
theorem bh.sub{k h x}(o:bh k x)(e:jA k h):bh h x:=⟨o.n.sub e,o.v.sub e⟩
theorem jA.fS(ex:List (Option Nat))(h:ah):jA (fS ex h) h:=λ_ _ _ _ hb=>(rH hb).2
theorem aH.fS{h s es cs}(o:aH h s es cs){ex}(hx:∀b,sB s=some b->some b∉ex):aH (Go.Abs.fS ex h) s es cs:=by
 cases o with
 |nil=>exact .nil
 |mk hb hf ho he=>exact .mk ((uj (hx _ rfl)).trans hb) hf ho he
def aD.ay{h k V}(o:aD h V)(hk:∀b,some b∈V.bl->k[b]? =h[b]?):aD k V:=by
 have m6:∀x∈[sB V.s0,sB V.s1,sB V.s2,sB V.s3,sB V.s4,sB V.s5],x∈V.bl:=λx hx=>by simp only[RV.bl,ZK];exact .inl (.inl (.inl hx))
 have kp:∀{s:AV}{es:Nat}{cs:List (List AV)},aH h s es cs->(∀b,sB s=some b->k[b]? =h[b]?)->aH k s es cs:=λ{s es cs} hs hb=>by
  cases hs with
  |nil=>exact .nil
  |mk h1 h2 h3 h4=>exact .mk ((hb _ rfl).trans h1) h2 h3 h4
 refine⟨kp o.i0 λb hb=>hk b (hb▸m6 _ Si),kp o.i1 λb hb=>hk b (hb▸m6 _ Si),kp o.i2 λb hb=>hk b (hb▸m6 _ Si),kp o.i3 λb hb=>hk b (hb▸m6 _ Si),kp o.i4 λb hb=>hk b (hb▸m6 _ Si),kp o.i5 λb hb=>hk b (hb▸m6 _ Si),
  λx hx=>kp (o.e2 x hx) λb hb=>hk b ?_,λx hx=>kp (o.e3 x hx) λb hb=>hk b ?_,λx hx=>kp (o.e4 x hx) λb hb=>hk b ?_⟩
 ·exact z141
 ·exact KL
 ·exact z167
structure HV where
 da:List EV
 e8:List EV
 cM:List RV
 se:AV
 sc:AV
 sr:AV
def HV.bS(V:HV):iK:=⟨V.da.map EV.ev,V.e8.map EV.ev,V.cM.map RV.an⟩
def HV.ex(b:Nat)(V:HV):List (Option Nat):=[some b,sB V.se,sB V.sc,sB V.sr]
structure cH(N:Nat)(h:ah)(b:Nat)(V:HV):Prop where
 hN:N<=b
 hb:h[b]? =some (.b [V.se,V.sc,V.sr])
 oe:Ow N h V.se 5 (V.da.map EV.row)
 oc:Ow N h V.sc 5 (V.e8.map EV.row)
 og:Ow N h V.sr 7 (V.cM.map RV.row)
 di:lG (V.ex b)
 ae:∀x∈V.da,bh (fS (V.ex b) h) x
 ac:∀x∈V.e8,bh (fS (V.ex b) h) x
 ag:∀x∈V.cM,aD (fS (V.ex b) h) x
 lo:∀x∈V.cM,∀j,some j∈x.bl->N<=j
def nT{ex ex' h h'}(hk:∀b,b<h.length->some b∉ex->h'[b]? =h[b]?)(he:∀b,b<h.length->some b∈ex'->some b∈ex):jA (fS ex h) (fS ex' h'):=by
 intro b c mu tl hb;obtain⟨h1,h2⟩:=rH hb;have hlt:b<h.length:=(ZC.1 h2).1;rw[uj λh3=>h1 (he b hlt h3),hk b hlt h1,h2]
def cH.app{N h b V}(o:cH N h b V)(g:ah):cH N (h++g) b V:=by
 have hs:jA (fS (V.ex b) h) (fS (V.ex b) (h++g)):=nT (λb hb _=>ZF hb) (λb _ hb=>hb);have hbl:=(ZC.1 o.hb).1;exact⟨o.hN,(ZF hbl).trans o.hb,o.oe.aC λb hb=>ZF (o.oe.bP hb).2,o.oc.aC λb hb=>ZF (o.oc.bP hb).2,o.og.aC λb hb=>ZF (o.og.bP hb).2,o.di,
  λx hx=>(o.ae x hx).sub hs,λx hx=>(o.ac x hx).sub hs,λx hx=>(o.ag x hx).sub hs,o.lo⟩
end Go.Abs
namespace Go.Abs
def kj:By->Bool
 |[]=>true
 |c::r=>gj c&&r.all j8
def tz(s:By):dQ s=(decide (s≠[])&&decide (s.length<=24)&&kj s):=by
 cases s with
 |nil=>rfl
 |cons c r=>
  have:(r.length<24)=((c::r).length<=24):=by simp;omega
  simp only[dQ,kj,this];simp[Bool.and_assoc]
def AP{s:By}{k:Nat}(hk:k<s.length):kj (s.take (k+1))=(kj (s.take k)&&(if k=0 then gj s[k]else j8 s[k])):=by
 cases s with
 |nil=>simp at hk
 |cons c r=>
  cases k with
  |zero=>simp[kj]
  |succ k=>
   have hk':k<r.length:=by simpa using hk
   simp only[abu,kj,List.getElem_cons_succ];rw[aao,ZH hk',Option.toList_some];rw[List.all_append,abc,List.all_nil,Bool.and_true,Bool.and_assoc,ZN Om]
def AO{s k}(h:kj (s.take k)=false):kj s=false:=by
 cases s with
 |nil=>simp[kj]at h
 |cons c r=>
  cases k with
  |zero=>simp[kj]at h
  |succ k=>
   simp only[abu,kj,Bool.and_eq_false_iff]at h ⊢;rcases h with h|h
   ·exact .inl h
   ·right
    rw[List.all_eq_false]at h ⊢;obtain⟨x,hx,hr⟩:=h;exact⟨x,aaD hx,hr⟩
def dec_lt{s i}(hi:i<s.length)(h:s[i].toNat<128):Utf8.decode ⟨⟨s⟩⟩ i=(s[i].toNat,1):=by
 have hg:(ByteArray.get! ⟨⟨s⟩⟩ i).toNat=s[i].toNat:=by
  simp[ByteArray.get!,hi]
 simp only[Utf8.decode,ab6,hg,ZS h]
def Jn{s i}(hi:i<s.length)(h:128<=s[i].toNat):128<=(Utf8.decode ⟨⟨s⟩⟩ i).1:=by
 have hg:(ByteArray.get! ⟨⟨s⟩⟩ i).toNat=s[i].toNat:=by
  simp[ByteArray.get!,hi]
 simp only[Utf8.decode,ab6,hg];rw[ZN Om];simp only[Utf8.runeError]
 repeat' split
 all_goals first
  |(simp only;omega)
  |(simp only[aad,aah]at *;omega)
section
variable {P:Program}(T:fy P) {h:ah}
include T
def r85(c:Bool)(e:Int):aA P 85 [.bool c,.i e] h (λv _=>v=.i (cA c e)):=by
 refine .of T.mix T.c85 ?_;unfold fn85 gA;simp only[uset];cases c<;>simp only[aS]<;>rfl
def r94(n lo hi:Int):aA P 94 [.i n,.i lo,.i hi] h (λv _=>v=.i (bg n lo hi)):=by
 refine .of T.mix T.c94 ?_;unfold fn94 gA;simp only[uset];simp+contextual only[aS,pC,Z5,Z9];refine⟨λh1=>?_,λh1=>?_⟩<;>
 ·refine WF.res T.c85 (r85 T _ _) ?_;rintro _ g rfl;simp only[aS];simp[cA,bg,h1]
def r74{s l}(hs:aH h s 1 (l.map aM))(hl:l.length<2^63):aA P 74 [s] h (λv _=>v=.i (bD l)):=by
 refine .of T.mix T.c74 ?_;unfold fn74 gA;simp only[uset];have e1:(l.map aM).length=l.length:=Si
 simp only[aS,hs.ju,e1];refine WL.inv T.mix (λn ts h'=>∃k:Nat,k<=l.length/\n=l.length-k/\h' =h/\bD l=bD (l.drop k)/\ts.length=15/\slot ts 5=s/\slot ts 6=.i l.length/\slot ts 7=.i k) l.length
  ⟨0,Om,rfl,rfl,rfl,rfl,rfl,rfl,rfl⟩ ?_
 rintro _ ts _ ⟨k,hk,rfl,rfl,hf,hlen,h5,h6,h7⟩;rw[lU ts 15 hlen];by_cases hlt:k<l.length
 ·have hd:l.drop k=l[k]::l.drop (k+1):=Si
  have e2:(l.map aM)[k]'Om=[AV.i l[k]]:=Si
  have e3:(k:Int)<l.length:=Om
  simp+contextual (disch:=omega) only[aS,pC,h5,h6,h7,e3,Z5,hs.bG,Int.toNat_natCast,hs.Mk _ e2,bj];refine⟨λh1=>?_,λh1=>⟨l.length-(k+1),Om,k+1,Om,rfl,?_,rfl⟩⟩
  ·rw[hf,hd,bD,ZN h1]
  ·rw[hf,hd,bD,ZS Om]
 ·have e3:¬(k:Int)<l.length:=Om
  have e4:k=l.length:=Om
  simp+contextual (disch:=omega) only[aS,h5,h6,h7,e3,Z9,Z1];rw[hf,e4,aaF];rfl
def r193(c:UInt8):aA P 193 [.int .u8 c.toNat] h (λv _=>v=.bool (gj c)):=by
 refine .of T.mix T.c193 ?_;unfold fn193 gA;simp only[uset];simp+contextual only[aS,pC,Z5,Z9]
 grind [gj]
def r194(c:UInt8):aA P 194 [.int .u8 c.toNat] h (λv _=>v=.bool (fo c)):=by
 refine .of T.mix T.c194 ?_;unfold fn194 gA;simp only[uset];simp+contextual only[aS,pC,Z5,Z9]
 grind [fo]
def r102(s:By)(hl:s.length<2^63):aA P 102 [.str s] h (λv _=>v=.bool (dQ s)):=by
 refine .of T.mix T.c102 ?_;unfold fn102 gA;simp only[uset];cases s with
 |nil=>
  simp only[aS,ZJ];simp only[show((0:Nat):Int)=0 from rfl,Z5,aS];rfl
 |cons c r=>
  have e1:¬(((c::r).length:Nat):Int)=0:=by simp;omega
  simp+contextual only[aS,pC,e1,Z5,Z9];refine⟨λh1=>?_,λh1=>?_⟩
  ·have:¬r.length<24:=by simp at h1;omega
   simp[dQ,this]
  ·rw[wq];simp only[aS];refine WF.ce T.c193 (r193 T _) λg=>?_
   have hlt:r.length<24:=by simp at h1;omega
   cases hc:gj c with
   |false=>
    simp only[aS,aab];simp[dQ,hc]
   |true=>
    simp only[aS,Z7];have key:dQ (c::r)=r.all j8:=by simp[dQ,hc,hlt]
    refine WL.inv T.mix (λn ts h'=>∃k:Nat,k<=r.length/\n=r.length-k/\Ext h h'/\r.all j8=(r.drop k).all j8/\ts.length=42/\slot ts 0=.str (c::r)/\slot ts 3=.i (k+1)) r.length
     ⟨0,Om,rfl,⟨_,rfl⟩,rfl,rfl,rfl,rfl⟩ ?_
    rintro _ ts _ ⟨k,hk,rfl,⟨g',rfl⟩,hf,hlen,h0,h3⟩;rw[lU ts 42 hlen];have hlc:(c::r).length=r.length+1:=rfl;by_cases hlt:k<r.length
    ·have hd:r.drop k=r[k]::r.drop (k+1):=Si
     have e3:(k:Int)+1<((c::r).length:Nat):=Om
     have e4:wu (.str (c::r)) (.i (k+1))=some (.int .u8 r[k].toNat):=jU (s:=c::r) (i:=k+1) Om;simp only[aS,h0,h3,e3,Z5,e4];refine WF.ce T.c193 (r193 T _) λg1=>?_
     cases hx:gj r[k]with
     |true=>
      simp (disch:=omega) only[aS,Z7,bj];exact⟨_,Om,k+1,Om,rfl,by rw[hf,hd,abc,j8,hx,Bool.true_or,Bool.true_or,aa4],rfl⟩
     |false=>
      simp only[aS,aab,h0,h3,e4];refine WF.ce T.c194 (r194 T _) λg2=>?_
      cases hy:fo r[k]with
      |true=>
       simp (disch:=omega) only[aS,Z7,bj];exact⟨_,Om,k+1,Om,rfl,by rw[hf,hd,abc,j8,hx,hy,Bool.or_true,Bool.true_or,aa4],rfl⟩
      |false=>
       simp+contextual (disch:=omega) only[aS,pC,aab,h0,h3,e4,bj];refine⟨λh9=>?_,λh9=>⟨_,Om,k+1,Om,rfl,?_,rfl⟩⟩
       ·rw[key,hf,hd,abc,j8,hx,hy];simp;omega
       ·rw[hf,hd,abc,j8,hx,hy];simp;omega
    ·have e3:¬(k:Int)+1<((c::r).length:Nat):=Om
     have e4:k=r.length:=Om
     simp only[aS,h0,h3,e3,Z9,Z1];rw[key,hf,e4,aaF];rfl
def r132(s:By):aA P 132 [.str s] h (λv _=>v=.bool (dQ s)):=by
 refine .of T.mix T.c132 ?_;unfold fn132 gA;simp only[uset];simp only[aS,aW];refine WL.inv T.mix (λn ts h'=>∃k:Nat,k<=s.length/\n=s.length-k/\h' =h++[.iter s k]/\kj (s.take k)=true/\ts.length=54/\slot ts 0=.str s/\slot ts 8=.ptr h.length 0) s.length
  ⟨0,Om,rfl,rfl,rfl,rfl,rfl,rfl⟩ ?_
 rintro _ ts _ ⟨k,hk,rfl,rfl,hf,hlen,h0,h8⟩;rw[lU ts 54 hlen];by_cases hlt:k<s.length
 ·have SW:=AP hlt;rw[hf,aa4]at SW;obtain⟨c,w,UQ,hcw⟩:∃c w,Utf8.decode ⟨⟨s⟩⟩ k=(c,w)/\(c=s[k].toNat/\w=1\/128<=c/\128<=s[k].toNat):=by
   by_cases hc:s[k].toNat<128
   ·exact⟨_,_,dec_lt hlt hc,.inl ⟨rfl,rfl⟩⟩
   ·exact z194
  have UB:(if k=0 then gj s[k]else j8 s[k])=false->AV.bool false=AV.bool (dQ s):=λhb=>by
   rw[hb]at SW;rw[tz,AO SW,Bool.and_false]
  have Ym:∀w',c=s[k].toNat/\w' =1->(if k=0 then gj s[k]else j8 s[k])=true->∃m,m<s.length-k/\∃k_1,k_1<=s.length/\m=s.length-k_1/\h++[ak.iter s (k+w')]=h++[ak.iter s k_1]/\kj (List.take k_1 s)=true/\True:=λw' hw hb=>by
   rw[hb]at SW;exact⟨_,Om,k+1,Om,rfl,by rw[hw.2],SW,trivial⟩
  have hl:gj s[k]=(decide (65<=s[k].toNat)&&decide (s[k].toNat<=90)||decide (97<=s[k].toNat)&&decide (s[k].toNat<=122)):=rfl;have hr:j8 s[k]=(gj s[k]||(decide (48<=s[k].toNat)&&decide (s[k].toNat<=57))||s[k].toNat==95):=rfl;have h0':((k:Int)=0)=(k=0):=Si
  by_cases a1:(65:Int)<=c<;>by_cases a2:(c:Int)<=90<;>by_cases a3:(97:Int)<=c<;>by_cases a4:(c:Int)<=122<;>first|(exfalso;omega)|skip
  all_goals by_cases a5:(48:Int)<=c<;>by_cases a6:(c:Int)<=57<;>by_cases a7:(c:Int)=95<;>first|(exfalso;omega)|skip
  all_goals first|have b7:=aa9 a7|have b7:=ace a7
  all_goals simp only[aS,aW,h0,h8,eo,hlt,Z1,UQ,a1,a2,a3,a4,a5,a6,b7,Z5,Z9,Z7,aab]
  all_goals first
   |exact Ym _ Om (by grind)
   |(by_cases hk0:(k:Int)=0<;>simp only[aS,aW,hk0,Z5,Z9,Z7,aab]<;>first
     |exact UB (by grind)
     |exact Ym _ Om (by grind))
   |exact UB (by grind)
 ·simp only[aS,aW,h0,h8,eo,hlt,ZY,Z1];have e4:k=s.length:=Om
  rw[e4,aam]at hf;by_cases he:s=[]<;>simp only[aS,he,Z5,Z9,ne_eq,not_true_eq_false,not_false_eq_true]
  ·rfl
  ·rw[tz,hf];simp[he];omega
end
end Go.Abs
namespace Go.Abs
def fk{α:Type}{f:α->By}{L:List α}{n:By}(h:n∈L.map f):dm (λx=>decide (f x=n)) L=(a8 (L.map f) n:Int):=by
 have e:a8 (L.map f) n=L.findIdx λx=>decide (f x=n):=by
  rw[a8,List.findIdx_map];rfl
 have hlt:=cL h;rw[e,ZL]at hlt;rw[e,dm,List.findIdx?_eq_guard_findIdx_lt];simp[Option.guard,hlt]
def fO{α:Type}{f:α->By}{L:List α}{n:By}:decide (0<=dm (λx=>decide (f x=n)) L)=decide (n∈L.map f):=by
 rw[oI];rw[Bool.eq_iff_iff];simp[aaY]
section
variable {P:Program}(T:fy P) {h:ah}
include T
def r230{α:Type}{row L s f}(hs:aH h s 3 (L.map row))(hl:L.length<2^63)(p:α->Bool)
  (hf:∀x,x∈L->∀k,Ext h k->bE P f [.agg (row x)] k (λv _=>v=.bool (p x))):aA P 230 [s,f] h (λv _=>v=.i (dm p L)):=by
 refine .of T.mix T.c230 ?_;unfold fn230 gA;exact z1
def r232{α:Type}{row L s f}(hs:aH h s 2 (L.map row))(hl:L.length<2^63)(p:α->Bool)
  (hf:∀x,x∈L->∀k,Ext h k->bE P f [.agg (row x)] k (λv _=>v=.bool (p x))):aA P 232 [s,f] h (λv _=>v=.i (dm p L)):=by
 refine .of T.mix T.c232 ?_;unfold fn232 gA;exact z1
def r228{α:Type}{row L s f}(hs:aH h s 3 (L.map row))(hl:L.length<2^63)(p:α->Bool)
  (hf:∀x,x∈L->∀k,Ext h k->bE P f [.agg (row x)] k (λv _=>v=.bool (p x))):aA P 228 [s,f] h (λv _=>v=.i (dm p L)):=by
 refine .of T.mix T.c228 ?_;unfold fn228 gA;exact z1
def r234{α:Type}{row L s f}(hs:aH h s 4 (L.map row))(hl:L.length<2^63)(p:α->Bool)
  (hf:∀x,x∈L->∀k,Ext h k->bE P f [.agg (row x)] k (λv _=>v=.bool (p x))):aA P 234 [s,f] h (λv _=>v=.i (dm p L)):=by
 refine .of T.mix T.c234 ?_;unfold fn234 gA;exact z1
def r236{α:Type}{row L s f}(hs:aH h s 3 (L.map row))(hl:L.length<2^63)(p:α->Bool)
  (hf:∀x,x∈L->∀k,Ext h k->bE P f [.agg (row x)] k (λv _=>v=.bool (p x))):aA P 236 [s,f] h (λv _=>v=.i (dm p L)):=by
 refine .of T.mix T.c236 ?_;unfold fn236 gA;exact z1
def r238{α:Type}{row L s f}(hs:aH h s 4 (L.map row))(hl:L.length<2^63)(p:α->Bool)
  (hf:∀x,x∈L->∀k,Ext h k->bE P f [.agg (row x)] k (λv _=>v=.bool (p x))):aA P 238 [s,f] h (λv _=>v=.i (dm p L)):=by
 refine .of T.mix T.c238 ?_;unfold fn238 gA;exact z1
def r246{α:Type}{row:α->List AV}{L:List α}{s f:AV}(hs:aH h s 3 (L.map row))(hl:L.length<2^63)(p:α->Bool)
  (hf:∀x,x∈L->∀k,Ext h k->bE P f [.agg (row x)] k (λv _=>v=.bool (p x))):aA P 246 [s,f] h (λv _=>v=.bool (L.any p)):=by
 refine .of T.mix T.c246 ?_;unfold fn246 gA;refine Wn ?_;refine WF.ce T.c230 (r230 T hs hl p hf) λg=>?_
 exact Ws @oI Tv
def r243{α:Type}{row:α->List AV}{L:List α}{s f:AV}(hs:aH h s 3 (L.map row))(hl:L.length<2^63)(p:α->Bool)
  (hf:∀x,x∈L->∀k,Ext h k->bE P f [.agg (row x)] k (λv _=>v=.bool (p x))):aA P 243 [s,f] h (λv _=>v=.bool (L.any p)):=by
 refine .of T.mix T.c243 ?_;unfold fn243 gA;refine Wn ?_;refine WF.ce T.c228 (r228 T hs hl p hf) λg=>?_
 exact Ws @oI Tv
def r268{α:Type}{row:α->List AV}{L:List α}{s f:AV}(hs:aH h s 4 (L.map row))(hl:L.length<2^63)(p:α->Bool)
  (hf:∀x,x∈L->∀k,Ext h k->bE P f [.agg (row x)] k (λv _=>v=.bool (p x))):aA P 268 [s,f] h (λv _=>v=.bool (L.any p)):=by
 refine .of T.mix T.c268 ?_;unfold fn268 gA;refine Wn ?_;refine WF.ce T.c238 (r238 T hs hl p hf) λg=>?_
 exact Ws @oI Tv
def r123(x:dX):aA P 123 [.agg (bV x)] h (λv _=>v=.str x.name):=by
 refine .of T.mix T.c123 ?_;unfold fn123 gA bV;exact Wn Tv
def r231(x:dX){b n}(hb:h[b]? =some (.b [.str n])):aA P 231 [.agg (bV x),.ptr b 0] h (λv _=>v=.bool (decide (x.name=n))):=by
 refine .of T.mix T.c231 ?_;unfold fn231 gA;have hlt:=(ZC.1 hb).1;have hld:∀g:ah,aq none (.ptr b 0) (λz=>(h++g)[z]?)=dJ none 0 (.b [.str n]):=λg=>aB (by rw[c9 _ hlt];exact hb)
 have TT:∀g g':ah,aq none (.ptr b 0) (λz=>(h++g++g')[z]?)=dJ none 0 (.b [.str n]):=λg g'=>aB (by rw[ZE,c9 _ hlt];exact hb)
 unfold bV;refine Ws (A3 @hld @TT @kr) ?_;refine WF.val (bE.AH T.m123 T.c123 (r123 T x)) ?_;rintro _ g1 rfl;exact Af
def r142{L s}(hs:aH h s 3 (L.map bV))(hl:L.length<2^63)(n:By):aA P 142 [s,.str n] h (λv _=>v=.i (dm (λx=>decide (x.name=n)) L)):=by
 refine .of T.mix T.c142 ?_;unfold fn142 gA;refine Wn ?_;refine WF.ce T.c230 (r230 T (hs.ext (by repeat first|exact Ext.refl _|refine Ext.app _ ?_)) hl (λx=>decide (x.name=n)) (λx hx k e=>bE.of (a:=[]) (c:=[.ptr h.length 0]) T.c231 (r231 T x (e.some aV)))) λg1=>?_
 exact Wn Tv
def r322(x:sH):aA P 322 [.agg (dY x)] h (λv _=>v=.str x.name):=by
 refine .of T.mix T.c322 ?_;unfold fn322 gA dY;exact Wn Tv
def r233(x:sH){b n}(hb:h[b]? =some (.b [.str n])):aA P 233 [.agg (dY x),.ptr b 0] h (λv _=>v=.bool (decide (x.name=n))):=by
 refine .of T.mix T.c233 ?_;unfold fn233 gA;have hlt:=(ZC.1 hb).1;have hld:∀g:ah,aq none (.ptr b 0) (λz=>(h++g)[z]?)=dJ none 0 (.b [.str n]):=λg=>aB (by rw[c9 _ hlt];exact hb)
 have TT:∀g g':ah,aq none (.ptr b 0) (λz=>(h++g++g')[z]?)=dJ none 0 (.b [.str n]):=λg g'=>aB (by rw[ZE,c9 _ hlt];exact hb)
 unfold dY;refine Ws (A3 @hld @TT @kr) ?_;refine WF.val (bE.AH T.m322 T.c322 (r322 T x)) ?_;rintro _ g1 rfl;exact Af
def r143{L s}(hs:aH h s 2 (L.map dY))(hl:L.length<2^63)(n:By):aA P 143 [s,.str n] h (λv _=>v=.i (dm (λx=>decide (x.name=n)) L)):=by
 refine .of T.mix T.c143 ?_;unfold fn143 gA;refine Wn ?_;refine WF.ce T.c232 (r232 T (hs.ext (by repeat first|exact Ext.refl _|refine Ext.app _ ?_)) hl (λx=>decide (x.name=n)) (λx hx k e=>bE.of (a:=[]) (c:=[.ptr h.length 0]) T.c233 (r233 T x (e.some aV)))) λg1=>?_
 exact Wn Tv
def r140(x:jX×AV)(ho:x.2.one=true):aA P 140 [.agg (bf x)] h (λv _=>v=.str x.1.name):=by
 refine .of T.mix T.c140 ?_;unfold fn140 gA bf;exact Ws @ho Tv
def r229(x:jX×AV)(ho:x.2.one=true){b n}(hb:h[b]? =some (.b [.str n])):aA P 229 [.agg (bf x),.ptr b 0] h (λv _=>v=.bool (decide (x.1.name=n))):=by
 refine .of T.mix T.c229 ?_;unfold fn229 gA;have hlt:=(ZC.1 hb).1;have hld:∀g:ah,aq none (.ptr b 0) (λz=>(h++g)[z]?)=dJ none 0 (.b [.str n]):=λg=>aB (by rw[c9 _ hlt];exact hb)
 have TT:∀g g':ah,aq none (.ptr b 0) (λz=>(h++g++g')[z]?)=dJ none 0 (.b [.str n]):=λg g'=>aB (by rw[ZE,c9 _ hlt];exact hb)
 unfold bf;refine Ws (A4 @hld @TT @ho @kr) ?_;refine WF.val (bE.AH T.m140 T.c140 (r140 T x ho)) ?_;rintro _ g1 rfl;exact Af
def r136{L s}(hs:aH h s 3 (L.map bf))(ho:∀x∈L,x.2.one=true)(hl:L.length<2^63)(n:By):aA P 136 [s,.str n] h (λv _=>v=.i (dm (λx=>decide (x.1.name=n)) L)):=by
 refine .of T.mix T.c136 ?_;unfold fn136 gA;refine Wn ?_;refine WF.ce T.c228 (r228 T (hs.ext (by repeat first|exact Ext.refl _|refine Ext.app _ ?_)) hl (λx=>decide (x.1.name=n)) (λx hx k e=>bE.of (a:=[]) (c:=[.ptr h.length 0]) T.c229 (r229 T x (ho x hx) (e.some aV)))) λg1=>?_
 exact Wn Tv
def r120(x:cQ×AV)(ho:x.2.one=true):aA P 120 [.agg (aP x)] h (λv _=>v=.str x.1.name):=by
 refine .of T.mix T.c120 ?_;unfold fn120 gA aP;exact Ws @ho Tv
def r235(x:cQ×AV)(ho:x.2.one=true){b n}(hb:h[b]? =some (.b [.str n])):aA P 235 [.agg (aP x),.ptr b 0] h (λv _=>v=.bool (decide (x.1.name=n))):=by
 refine .of T.mix T.c235 ?_;unfold fn235 gA;have hlt:=(ZC.1 hb).1;have hld:∀g:ah,aq none (.ptr b 0) (λz=>(h++g)[z]?)=dJ none 0 (.b [.str n]):=λg=>aB (by rw[c9 _ hlt];exact hb)
 have TT:∀g g':ah,aq none (.ptr b 0) (λz=>(h++g++g')[z]?)=dJ none 0 (.b [.str n]):=λg g'=>aB (by rw[ZE,c9 _ hlt];exact hb)
 unfold aP;refine Ws (A4 @hld @TT @ho @kr) ?_;refine WF.val (bE.AH T.m120 T.c120 (r120 T x ho)) ?_;rintro _ g1 rfl;exact Af
def r144{L s}(hs:aH h s 4 (L.map aP))(ho:∀x∈L,x.2.one=true)(hl:L.length<2^63)(n:By):aA P 144 [s,.str n] h (λv _=>v=.i (dm (λx=>decide (x.1.name=n)) L)):=by
 refine .of T.mix T.c144 ?_;unfold fn144 gA;refine Wn ?_;refine WF.ce T.c234 (r234 T (hs.ext (by repeat first|exact Ext.refl _|refine Ext.app _ ?_)) hl (λx=>decide (x.1.name=n)) (λx hx k e=>bE.of (a:=[]) (c:=[.ptr h.length 0]) T.c235 (r235 T x (ho x hx) (e.some aV)))) λg1=>?_
 exact Wn Tv
def r324(x:kF×AV)(ho:x.2.one=true):aA P 324 [.agg (bK x)] h (λv _=>v=.str x.1.name):=by
 refine .of T.mix T.c324 ?_;unfold fn324 gA bK;exact Ws @ho Tv
def r237(x:kF×AV)(ho:x.2.one=true){b n}(hb:h[b]? =some (.b [.str n])):aA P 237 [.agg (bK x),.ptr b 0] h (λv _=>v=.bool (decide (x.1.name=n))):=by
 refine .of T.mix T.c237 ?_;unfold fn237 gA;have hlt:=(ZC.1 hb).1;have hld:∀g:ah,aq none (.ptr b 0) (λz=>(h++g)[z]?)=dJ none 0 (.b [.str n]):=λg=>aB (by rw[c9 _ hlt];exact hb)
 have TT:∀g g':ah,aq none (.ptr b 0) (λz=>(h++g++g')[z]?)=dJ none 0 (.b [.str n]):=λg g'=>aB (by rw[ZE,c9 _ hlt];exact hb)
 unfold bK;refine Ws (A4 @hld @TT @ho @kr) ?_;refine WF.val (bE.AH T.m324 T.c324 (r324 T x ho)) ?_;rintro _ g1 rfl;exact Af
def r145{L s}(hs:aH h s 3 (L.map bK))(ho:∀x∈L,x.2.one=true)(hl:L.length<2^63)(n:By):aA P 145 [s,.str n] h (λv _=>v=.i (dm (λx=>decide (x.1.name=n)) L)):=by
 refine .of T.mix T.c145 ?_;unfold fn145 gA;refine Wn ?_;refine WF.ce T.c236 (r236 T (hs.ext (by repeat first|exact Ext.refl _|refine Ext.app _ ?_)) hl (λx=>decide (x.1.name=n)) (λx hx k e=>bE.of (a:=[]) (c:=[.ptr h.length 0]) T.c237 (r237 T x (ho x hx) (e.some aV)))) λg1=>?_
 exact Wn Tv
def r323(x:nP):aA P 323 [.agg (cF x)] h (λv _=>v=.str x.name):=by
 refine .of T.mix T.c323 ?_;unfold fn323 gA cF;exact Wn Tv
def r239(x:nP){b n}(hb:h[b]? =some (.b [.str n])):aA P 239 [.agg (cF x),.ptr b 0] h (λv _=>v=.bool (decide (x.name=n))):=by
 refine .of T.mix T.c239 ?_;unfold fn239 gA;have hlt:=(ZC.1 hb).1;have hld:∀g:ah,aq none (.ptr b 0) (λz=>(h++g)[z]?)=dJ none 0 (.b [.str n]):=λg=>aB (by rw[c9 _ hlt];exact hb)
 have TT:∀g g':ah,aq none (.ptr b 0) (λz=>(h++g++g')[z]?)=dJ none 0 (.b [.str n]):=λg g'=>aB (by rw[ZE,c9 _ hlt];exact hb)
 unfold cF;refine Ws (A3 @hld @TT @kr) ?_;refine WF.val (bE.AH T.m323 T.c323 (r323 T x)) ?_;rintro _ g1 rfl;exact Af
def r146{L s}(hs:aH h s 4 (L.map cF))(hl:L.length<2^63)(n:By):aA P 146 [s,.str n] h (λv _=>v=.i (dm (λx=>decide (x.name=n)) L)):=by
 refine .of T.mix T.c146 ?_;unfold fn146 gA;refine Wn ?_;refine WF.ce T.c238 (r238 T (hs.ext (by repeat first|exact Ext.refl _|refine Ext.app _ ?_)) hl (λx=>decide (x.name=n)) (λx hx k e=>bE.of (a:=[]) (c:=[.ptr h.length 0]) T.c239 (r239 T x (e.some aV)))) λg1=>?_
 exact Wn Tv
end
def aH.L8{h s es cs}(hs:aH h s es cs):(s=.af/\cs=[])\/(∀neg:Bool,sP neg (oQ .Ay s .af)=some (.bool neg)):=by
 cases hs with
 |nil=>exact .inl ⟨rfl,rfl⟩
 |mk hb hf ho he=>right;intro neg;cases neg<;>rfl
def CH:sP false (oQ .Ay .af .af)=some (.bool true):=rfl
attribute [local irreducible] WP WC WE WB WR WF WL WG gk
section
variable {P:Program}(T:fy P) {h:ah}
include T
def r177{s cs}(hs:aH h s 1 cs)(hl:cs.length<=2^40):aA P 177 [s] h (λv h'=>Fr h.length h' v 1 cs):=by
 refine .of T.mix T.c177 ?_;unfold fn177 gA;exact Of
def r178{s cs}(hs:aH h s 1 cs)(hl:cs.length<=2^40):aA P 178 [s] h (λv h'=>Fr h.length h' v 1 cs):=by
 refine .of T.mix T.c178 ?_;unfold fn178 gA;exact Of
def r179{s cs}(hs:aH h s 2 cs)(hl:cs.length<=2^40):aA P 179 [s] h (λv h'=>Fr h.length h' v 2 cs):=by
 refine .of T.mix T.c179 ?_;unfold fn179 gA;exact Of
def r181(x:jX×AV)(hx:aH h x.2 1 (x.1.aG.map ao))(hl:x.1.aG.length<=2^40):aA P 181 [.agg (bf x)] h (λv h'=>∃s',v=.agg (bf (x.1,s'))/\Fr h.length h' s' 1 (x.1.aG.map ao)):=by
 refine .of T.mix T.c181 ?_;obtain⟨ts,Sv⟩:∃ts,ts=aT 8 [.agg (bf x)]:=⟨_,rfl⟩;have hlen:ts.length=8:=by rw[Sv];rfl
 have t0:slot ts 0=.agg (bf x):=by rw[Sv];rfl
 unfold fn181 gA;show WC P bN _ [] (aT 8 [.agg (bf x)]) h _;rw[<-Sv];clear Sv;have o1:=hx.one;unfold bf at t0 ⊢;exact Rh
def r183(x:cQ×AV)(hx:aH h x.2 1 (x.1.aI.map ao))(hl:x.1.aI.length<=2^40):aA P 183 [.agg (aP x)] h (λv h'=>∃s',v=.agg (aP (x.1,s'))/\Fr h.length h' s' 1 (x.1.aI.map ao)):=by
 refine .of T.mix T.c183 ?_;obtain⟨ts,Sv⟩:∃ts,ts=aT 8 [.agg (aP x)]:=⟨_,rfl⟩;have hlen:ts.length=8:=by rw[Sv];rfl
 have t0:slot ts 0=.agg (aP x):=by rw[Sv];rfl
 unfold fn183 gA;show WC P bN _ [] (aT 8 [.agg (aP x)]) h _;rw[<-Sv];clear Sv;have o1:=hx.one;unfold aP at t0 ⊢;exact Rh
def r185(x:kF×AV)(hx:aH h x.2 1 (x.1.bd.map aM))(hl:x.1.bd.length<=2^40):aA P 185 [.agg (bK x)] h (λv h'=>∃s',v=.agg (bK (x.1,s'))/\Fr h.length h' s' 1 (x.1.bd.map aM)):=by
 refine .of T.mix T.c185 ?_;obtain⟨ts,Sv⟩:∃ts,ts=aT 8 [.agg (bK x)]:=⟨_,rfl⟩;have hlen:ts.length=8:=by rw[Sv];rfl
 have t0:slot ts 0=.agg (bK x):=by rw[Sv];rfl
 unfold fn185 gA;show WC P bN _ [] (aT 8 [.agg (bK x)]) h _;rw[<-Sv];clear Sv;have o1:=hx.one;unfold bK at t0 ⊢;refine Rs (A2 t0 @o1) ?_;refine WF.res T.c178 (r178 T (hx.ext Xx) (by simp;omega)) ?_;rintro s' g1 hf;have o2:=hf.aX.one;refine Rs (A3 t0 @o1 @o2) ?_;exact⟨s',rfl,(Fr.swap hf Si).low Si⟩
set_option maxRecDepth 10000 in
def r91(x:EV)(hx:bh h x)(hl:x.ev.names.length<=2^40/\x.ev.cB.length<=2^40):aA P 91 [.agg x.row] h (λv h'=>∃x':EV,x'.ev=x.ev/\v=.agg x'.row/\Fr h.length h' x'.sn 1 (x.ev.names.map ao)/\Fr h.length h' x'.sv 1 (x.ev.cB.map aM)):=by
 refine .of T.mix T.c91 ?_;obtain⟨ts,Sv⟩:∃ts,ts=aT 12 [.agg x.row]:=⟨_,rfl⟩;have hlen:ts.length=12:=by rw[Sv];rfl
 have t0:slot ts 0=.agg x.row:=by rw[Sv];rfl
 unfold fn91;show WC P bN _ [] (aT 12 [.agg x.row]) h _;rw[<-Sv];clear Sv;have o1:=hx.n.one;have o2:=hx.v.one;unfold EV.row at t0 ⊢;refine Rs (A3 t0 @o1 @o2) ?_;refine WF.res T.c177 (r177 T (hx.n.ext Xx) (by simp;omega)) ?_;rintro s1 g1 VT;have o3:=VT.aX.one;refine Rs (A4 t0 @o1 @o2 @o3) ?_;refine WF.res T.c178 (r178 T (hx.v.ext Xx) (by simp;omega)) ?_;rintro s2 g2 Vc;have o4:=Vc.aX.one;refine Rs (A5 t0 @o1 @o2 @o3 @o4) ?_;refine⟨⟨x.ev,s1,s2⟩,rfl,rfl,?_,?_⟩
 ·exact((Fr.swap VT Si).app _).low Si
 ·exact(Fr.swap Vc Si).low Si
def r130{L:List (By)}{s f:AV}(hs:aH h s 1 (L.map ao))(hl:L.length<=2^40)(F:(By)->Int)(hf:∀x,x∈L->∀k,Ext h k->bE P f [.str x] k (λv _=>v=.i (F x))):
  aA P 130 [s,f] h (λv h'=>Fr h.length h' v 1 ((L.map F).map aM)):=by
 refine .of T.mix T.c130 ?_;unfold fn130 gA;refine Ws hs.aK ?_;refine WL.inv T.mix (λn ts h'=>∃(k:Nat) (out:AV),k<=L.length/\n=L.length-k/\Ext h h'/\Fr h.length h' out 1 (((L.take k).map F).map aM)/\ts.length=22/\slot ts 1=f/\slot ts 5=out/\slot ts 8=s/\slot ts 9=.i L.length/\slot ts 10=.i k) L.length
  ⟨0,.af,Om,rfl,Ext.refl h,.nil,rfl,rfl,rfl,rfl,rfl,rfl⟩ ?_
 rintro _ ts _ ⟨k,out,hk,rfl,⟨g,rfl⟩,hfr,hlen,t1,t5,t8,t9,t10⟩;rw[lU ts 22 hlen];by_cases hlt:k<L.length
 ·have e3:(k:Int)<L.length:=Om
  have hvk:=hf L[k] Si;have Xw:∀{kk:ah},Ext h kk->aq none (cT s 1 k) (λb=>kk[b]?)=some (.str L[k],.ay):=λ{kk} e=>hs.kg hlt rfl e
  simp only[aS,aW,bo,bp,reduceAdd,reduceMul,reduceLeDiff,reduceEqDiff,t1,t5,t8,t9,t10,e3,Z5,hs.dE hlt,Xw];refine WF.val (hvk _ (by repeat first|exact Ext.refl _|refine Ext.app _ ?_)) ?_;rintro _ g1 rfl;refine Wn ?_;refine WR.fZ (h0:=h) (cs:=((L.take k).map F).map aM) (ys:=[aM (F L[k])]) (((hfr.app _).app _)) (Fr.push (N:=0) (aac _) [aM (F L[k])] (by simp[aM])).aX De Si (by simp;omega) (by simp only[sO]) ?_;intro g' SI hff hkp;have hrow:((L.take k).map F).map aM++[aM (F L[k])]=((L.take (k+1)).map F).map aM:=by rw[aao,ZH hlt,ZM,ZM];rfl
  exact z6
 ·exact z5
def r92{L:List (Int)}{s f:AV}(hs:aH h s 1 (L.map aM))(hl:L.length<=2^40)(F:(Int)->Int)(hf:∀x,x∈L->∀k,Ext h k->bE P f [.i x] k (λv _=>v=.i (F x))):
  aA P 92 [s,f] h (λv h'=>Fr h.length h' v 1 ((L.map F).map aM)):=by
 refine .of T.mix T.c92 ?_;unfold fn92 Lg;refine Ws hs.aK ?_;refine WL.inv T.mix (λn ts h'=>∃(k:Nat) (out:AV),k<=L.length/\n=L.length-k/\Ext h h'/\Fr h.length h' out 1 (((L.take k).map F).map aM)/\ts.length=22/\slot ts 1=f/\slot ts 5=out/\slot ts 8=s/\slot ts 9=.i L.length/\slot ts 10=.i k) L.length
  ⟨0,.af,Om,rfl,Ext.refl h,.nil,rfl,rfl,rfl,rfl,rfl,rfl⟩ ?_
 rintro _ ts _ ⟨k,out,hk,rfl,⟨g,rfl⟩,hfr,hlen,t1,t5,t8,t9,t10⟩;rw[lU ts 22 hlen];by_cases hlt:k<L.length
 ·have e3:(k:Int)<L.length:=Om
  have hvk:=hf L[k] Si;have Xw:∀{kk:ah},Ext h kk->aq none (cT s 1 k) (λb=>kk[b]?)=some (.i L[k],.ay):=λ{kk} e=>hs.kg hlt rfl e
  simp only[aS,aW,bo,bp,reduceAdd,reduceMul,reduceLeDiff,reduceEqDiff,t1,t5,t8,t9,t10,e3,Z5,hs.dE hlt,Xw];refine WF.val (hvk _ (by repeat first|exact Ext.refl _|refine Ext.app _ ?_)) ?_;rintro _ g1 rfl;refine Wn ?_;refine WR.fZ (h0:=h) (cs:=((L.take k).map F).map aM) (ys:=[aM (F L[k])]) (((hfr.app _).app _)) (Fr.push (N:=0) (aac _) [aM (F L[k])] (by simp[aM])).aX De Si (by simp;omega) (by simp only[sO]) ?_;intro g' SI hff hkp;have hrow:((L.take k).map F).map aM++[aM (F L[k])]=((L.take (k+1)).map F).map aM:=by rw[aao,ZH hlt,ZM,ZM];rfl
  exact z6
 ·exact z5
def r199{L:List (Int)}{s f:AV}(hs:aH h s 1 (L.map aM))(hl:L.length<=2^40)(F:(Int)->By)(hf:∀x,x∈L->∀k,Ext h k->bE P f [.i x] k (λv _=>v=.str (F x))):
  aA P 199 [s,f] h (λv h'=>Fr h.length h' v 1 ((L.map F).map ao)):=by
 refine .of T.mix T.c199 ?_;unfold fn199 gA;refine Ws hs.aK ?_;refine WL.inv T.mix (λn ts h'=>∃(k:Nat) (out:AV),k<=L.length/\n=L.length-k/\Ext h h'/\Fr h.length h' out 1 (((L.take k).map F).map ao)/\ts.length=22/\slot ts 1=f/\slot ts 5=out/\slot ts 8=s/\slot ts 9=.i L.length/\slot ts 10=.i k) L.length
  ⟨0,.af,Om,rfl,Ext.refl h,.nil,rfl,rfl,rfl,rfl,rfl,rfl⟩ ?_
 rintro _ ts _ ⟨k,out,hk,rfl,⟨g,rfl⟩,hfr,hlen,t1,t5,t8,t9,t10⟩;rw[lU ts 22 hlen];by_cases hlt:k<L.length
 ·have e3:(k:Int)<L.length:=Om
  have hvk:=hf L[k] Si;have Xw:∀{kk:ah},Ext h kk->aq none (cT s 1 k) (λb=>kk[b]?)=some (.i L[k],.ay):=λ{kk} e=>hs.kg hlt rfl e
  simp only[aS,aW,bo,bp,reduceAdd,reduceMul,reduceLeDiff,reduceEqDiff,t1,t5,t8,t9,t10,e3,Z5,hs.dE hlt,Xw];refine WF.val (hvk _ (by repeat first|exact Ext.refl _|refine Ext.app _ ?_)) ?_;rintro _ g1 rfl;refine Wn ?_;refine WR.fZ (h0:=h) (cs:=((L.take k).map F).map ao) (ys:=[ao (F L[k])]) (((hfr.app _).app _)) (Fr.push (N:=0) (aac _) [ao (F L[k])] (by simp[ao])).aX De Si (by simp;omega) (by simp only[sO]) ?_;intro g' SI hff hkp;have hrow:((L.take k).map F).map ao++[ao (F L[k])]=((L.take (k+1)).map F).map ao:=by rw[aao,ZH hlt,ZM,ZM];rfl
  exact z6
 ·exact z5
def r137{L:List (jX×AV)}{s f:AV}(hs:aH h s 3 (L.map bf))(ho:∀x∈L,x.2.one=true)(hl:L.length<=2^40)(F:(jX×AV)->By)(hf:∀x,x∈L->∀k,Ext h k->bE P f [.agg (bf x)] k (λv _=>v=.str (F x))):
  aA P 137 [s,f] h (λv h'=>Fr h.length h' v 1 ((L.map F).map ao)):=by
 refine .of T.mix T.c137 ?_;unfold fn137 gA;refine Ws hs.aK ?_;refine WL.inv T.mix (λn ts h'=>∃(k:Nat) (out:AV),k<=L.length/\n=L.length-k/\Ext h h'/\Fr h.length h' out 1 (((L.take k).map F).map ao)/\ts.length=22/\slot ts 1=f/\slot ts 5=out/\slot ts 8=s/\slot ts 9=.i L.length/\slot ts 10=.i k) L.length
  ⟨0,.af,Om,rfl,Ext.refl h,.nil,rfl,rfl,rfl,rfl,rfl,rfl⟩ ?_
 rintro _ ts _ ⟨k,out,hk,rfl,⟨g,rfl⟩,hfr,hlen,t1,t5,t8,t9,t10⟩;rw[lU ts 22 hlen];by_cases hlt:k<L.length
 ·have e3:(k:Int)<L.length:=Om
  have hvk:=hf L[k] Si;simp only[aS,aW,bo,bp,reduceAdd,reduceMul,reduceLeDiff,reduceEqDiff,t1,t5,t8,t9,t10,e3,Z5,hs.dE hlt,hs.kf hlt,bf,ho L[k] Si];exact z4
 ·exact z5
def r121{L:List (dX)}{s f:AV}(hs:aH h s 3 (L.map bV))(hl:L.length<=2^40)(F:(dX)->By)(hf:∀x,x∈L->∀k,Ext h k->bE P f [.agg (bV x)] k (λv _=>v=.str (F x))):
  aA P 121 [s,f] h (λv h'=>Fr h.length h' v 1 ((L.map F).map ao)):=by
 refine .of T.mix T.c121 ?_;unfold fn121 gA;refine Ws hs.aK ?_;refine WL.inv T.mix (λn ts h'=>∃(k:Nat) (out:AV),k<=L.length/\n=L.length-k/\Ext h h'/\Fr h.length h' out 1 (((L.take k).map F).map ao)/\ts.length=22/\slot ts 1=f/\slot ts 5=out/\slot ts 8=s/\slot ts 9=.i L.length/\slot ts 10=.i k) L.length
  ⟨0,.af,Om,rfl,Ext.refl h,.nil,rfl,rfl,rfl,rfl,rfl,rfl⟩ ?_
 rintro _ ts _ ⟨k,out,hk,rfl,⟨g,rfl⟩,hfr,hlen,t1,t5,t8,t9,t10⟩;rw[lU ts 22 hlen];by_cases hlt:k<L.length
 ·have e3:(k:Int)<L.length:=Om
  have hvk:=hf L[k] Si;simp only[aS,aW,bo,bp,reduceAdd,reduceMul,reduceLeDiff,reduceEqDiff,t1,t5,t8,t9,t10,e3,Z5,hs.dE hlt,hs.kf hlt,bV];exact z4
 ·exact z5
def r117{L:List (cQ×AV)}{s f:AV}(hs:aH h s 4 (L.map aP))(ho:∀x∈L,x.2.one=true)(hl:L.length<=2^40)(F:(cQ×AV)->By)(hf:∀x,x∈L->∀k,Ext h k->bE P f [.agg (aP x)] k (λv _=>v=.str (F x))):
  aA P 117 [s,f] h (λv h'=>Fr h.length h' v 1 ((L.map F).map ao)):=by
 refine .of T.mix T.c117 ?_;unfold fn117 gA;refine Ws hs.aK ?_;refine WL.inv T.mix (λn ts h'=>∃(k:Nat) (out:AV),k<=L.length/\n=L.length-k/\Ext h h'/\Fr h.length h' out 1 (((L.take k).map F).map ao)/\ts.length=22/\slot ts 1=f/\slot ts 5=out/\slot ts 8=s/\slot ts 9=.i L.length/\slot ts 10=.i k) L.length
  ⟨0,.af,Om,rfl,Ext.refl h,.nil,rfl,rfl,rfl,rfl,rfl,rfl⟩ ?_
 rintro _ ts _ ⟨k,out,hk,rfl,⟨g,rfl⟩,hfr,hlen,t1,t5,t8,t9,t10⟩;rw[lU ts 22 hlen];by_cases hlt:k<L.length
 ·have e3:(k:Int)<L.length:=Om
  have hvk:=hf L[k] Si;simp only[aS,aW,bo,bp,reduceAdd,reduceMul,reduceLeDiff,reduceEqDiff,t1,t5,t8,t9,t10,e3,Z5,hs.dE hlt,hs.kf hlt,aP,ho L[k] Si];exact z4
 ·exact z5
def r115{L:List (EV)}{s f:AV}(hs:aH h s 5 (L.map EV.row))(ho:∀x∈L,x.sn.one=true/\x.sv.one=true)(hl:L.length<=2^40)(F:(EV)->By)(hf:∀x,x∈L->∀k,Ext h k->bE P f [.agg (EV.row x)] k (λv _=>v=.str (F x))):
  aA P 115 [s,f] h (λv h'=>Fr h.length h' v 1 ((L.map F).map ao)):=by
 refine .of T.mix T.c115 ?_;unfold fn115 gA;refine Ws hs.aK ?_;refine WL.inv T.mix (λn ts h'=>∃(k:Nat) (out:AV),k<=L.length/\n=L.length-k/\Ext h h'/\Fr h.length h' out 1 (((L.take k).map F).map ao)/\ts.length=22/\slot ts 1=f/\slot ts 5=out/\slot ts 8=s/\slot ts 9=.i L.length/\slot ts 10=.i k) L.length
  ⟨0,.af,Om,rfl,Ext.refl h,.nil,rfl,rfl,rfl,rfl,rfl,rfl⟩ ?_
 rintro _ ts _ ⟨k,out,hk,rfl,⟨g,rfl⟩,hfr,hlen,t1,t5,t8,t9,t10⟩;rw[lU ts 22 hlen];by_cases hlt:k<L.length
 ·have e3:(k:Int)<L.length:=Om
  have hvk:=hf L[k] Si;simp only[aS,aW,bo,bp,reduceAdd,reduceMul,reduceLeDiff,reduceEqDiff,t1,t5,t8,t9,t10,e3,Z5,hs.dE hlt,hs.kf hlt,EV.row,(ho L[k] Si).1,(ho L[k] Si).2];exact z4
 ·exact z5
set_option maxRecDepth 10000 in
def r138{L:List (jX×AV)}{s f:AV}(hs:aH h s 3 (L.map bf))(ho:∀x∈L,x.2.one=true)(hl:L.length<=2^38)(p:(jX×AV)->Bool)(hf:∀x,x∈L->∀k,Ext h k->bE P f [.agg (bf x)] k (λv _=>v=.bool (p x))):
  aA P 138 [s,f] h (λv h'=>Fr h.length h' v 3 ((L.filter p).map bf)):=by
 refine .of T.mix T.c138 ?_;unfold fn138 gA;refine Ws hs.aK ?_;refine WL.inv T.mix (λn ts h'=>∃(k:Nat) (out:AV),k<=L.length/\n=L.length-k/\Ext h h'/\Fr h.length h' out 3 (((L.take k).filter p).map bf)/\ts.length=23/\slot ts 1=f/\slot ts 5=out/\slot ts 8=s/\slot ts 9=.i L.length/\slot ts 10=.i k) L.length
  ⟨0,.af,Om,rfl,Ext.refl h,.nil,rfl,rfl,rfl,rfl,rfl,rfl⟩ ?_
 rintro _ ts _ ⟨k,out,hk,rfl,⟨g,rfl⟩,hfr,hlen,t1,t5,t8,t9,t10⟩;rw[lU ts 23 hlen];by_cases hlt:k<L.length
 ·have e3:(k:Int)<L.length:=Om
  have hvk:=hf L[k] Si;have SU:(L.take (k+1)).filter p=(L.take k).filter p++(if p L[k]=true then [L[k]]else []):=by
   exact N4
  have S4:((L.take k).filter p).length<=L.length:=aat (aaj _ _) (by rw[aaB];omega);simp only[aS,aW,bo,bp,reduceAdd,reduceMul,reduceLeDiff,reduceEqDiff,t1,t5,t8,t9,t10,e3,Z5,hs.dE hlt,hs.kf hlt,bf,ho L[k] Si];refine WF.val (hvk _ (by repeat first|exact Ext.refl _|refine Ext.app _ ?_)) ?_;rintro _ g1 rfl;cases hp:p L[k]with
  |true=>
   rw[hp,ZS rfl]at SU;simp only[aS,aW,bo,bp,reduceAdd,reduceMul,reduceLeDiff,reduceEqDiff,ho L[k] Si];refine WR.fZ (h0:=h) (cs:=((L.take k).filter p).map bf) (ys:=[bf L[k]]) (((hfr.app _).app _).app _) (Fr.push (N:=0) (aac _) [bf L[k]] (by simp[bf])).aX De Si (by simp only[ZL,ZG,ZJ];omega) (by simp only[sO]) ?_;intro g' SI hff hkp;have hrow:((L.take k).filter p).map bf++[bf L[k]]=((L.take (k+1)).filter p).map bf:=by rw[SU,ZM];rfl
   exact z6
  |false=>
   exact z37
 ·exact z5
set_option maxRecDepth 10000 in
def r216{L:List (dX)}{s f:AV}(hs:aH h s 3 (L.map bV))(hl:L.length<=2^38)(p:(dX)->Bool)(hf:∀x,x∈L->∀k,Ext h k->bE P f [.agg (bV x)] k (λv _=>v=.bool (p x))):
  aA P 216 [s,f] h (λv h'=>Fr h.length h' v 3 ((L.filter p).map bV)):=by
 refine .of T.mix T.c216 ?_;unfold fn216 gA;refine Ws hs.aK ?_;refine WL.inv T.mix (λn ts h'=>∃(k:Nat) (out:AV),k<=L.length/\n=L.length-k/\Ext h h'/\Fr h.length h' out 3 (((L.take k).filter p).map bV)/\ts.length=23/\slot ts 1=f/\slot ts 5=out/\slot ts 8=s/\slot ts 9=.i L.length/\slot ts 10=.i k) L.length
  ⟨0,.af,Om,rfl,Ext.refl h,.nil,rfl,rfl,rfl,rfl,rfl,rfl⟩ ?_
 rintro _ ts _ ⟨k,out,hk,rfl,⟨g,rfl⟩,hfr,hlen,t1,t5,t8,t9,t10⟩;rw[lU ts 23 hlen];by_cases hlt:k<L.length
 ·have e3:(k:Int)<L.length:=Om
  have hvk:=hf L[k] Si;have SU:(L.take (k+1)).filter p=(L.take k).filter p++(if p L[k]=true then [L[k]]else []):=by
   exact N4
  have S4:((L.take k).filter p).length<=L.length:=aat (aaj _ _) (by rw[aaB];omega);simp only[aS,aW,bo,bp,reduceAdd,reduceMul,reduceLeDiff,reduceEqDiff,t1,t5,t8,t9,t10,e3,Z5,hs.dE hlt,hs.kf hlt,bV];refine WF.val (hvk _ (by repeat first|exact Ext.refl _|refine Ext.app _ ?_)) ?_;rintro _ g1 rfl;cases hp:p L[k]with
  |true=>
   rw[hp,ZS rfl]at SU;refine Wn ?_;refine WR.fZ (h0:=h) (cs:=((L.take k).filter p).map bV) (ys:=[bV L[k]]) (((hfr.app _).app _).app _) (Fr.push (N:=0) (aac _) [bV L[k]] (by simp[bV])).aX De Si (by simp only[ZL,ZG,ZJ];omega) (by simp only[sO]) ?_;intro g' SI hff hkp;have hrow:((L.take k).filter p).map bV++[bV L[k]]=((L.take (k+1)).filter p).map bV:=by rw[SU,ZM];rfl
   exact z6
  |false=>
   exact z37
 ·exact z5
set_option maxRecDepth 10000 in
def r88{L:List (EV)}{s f:AV}(hs:aH h s 5 (L.map EV.row))(ho:∀x∈L,x.sn.one=true/\x.sv.one=true)(hl:L.length<=2^38)(p:(EV)->Bool)(hf:∀x,x∈L->∀k,Ext h k->bE P f [.agg (EV.row x)] k (λv _=>v=.bool (p x))):
  aA P 88 [s,f] h (λv h'=>Fr h.length h' v 5 ((L.filter p).map EV.row)):=by
 refine .of T.mix T.c88 ?_;unfold fn88 gA;refine Ws hs.aK ?_;refine WL.inv T.mix (λn ts h'=>∃(k:Nat) (out:AV),k<=L.length/\n=L.length-k/\Ext h h'/\Fr h.length h' out 5 (((L.take k).filter p).map EV.row)/\ts.length=23/\slot ts 1=f/\slot ts 5=out/\slot ts 8=s/\slot ts 9=.i L.length/\slot ts 10=.i k) L.length
  ⟨0,.af,Om,rfl,Ext.refl h,.nil,rfl,rfl,rfl,rfl,rfl,rfl⟩ ?_
 rintro _ ts _ ⟨k,out,hk,rfl,⟨g,rfl⟩,hfr,hlen,t1,t5,t8,t9,t10⟩;rw[lU ts 23 hlen];by_cases hlt:k<L.length
 ·have e3:(k:Int)<L.length:=Om
  have hvk:=hf L[k] Si;have SU:(L.take (k+1)).filter p=(L.take k).filter p++(if p L[k]=true then [L[k]]else []):=by
   exact N4
  have S4:((L.take k).filter p).length<=L.length:=aat (aaj _ _) (by rw[aaB];omega);simp only[aS,aW,bo,bp,reduceAdd,reduceMul,reduceLeDiff,reduceEqDiff,t1,t5,t8,t9,t10,e3,Z5,hs.dE hlt,hs.kf hlt,EV.row,(ho L[k] Si).1,(ho L[k] Si).2];refine WF.val (hvk _ (by repeat first|exact Ext.refl _|refine Ext.app _ ?_)) ?_;rintro _ g1 rfl;cases hp:p L[k]with
  |true=>
   rw[hp,ZS rfl]at SU;simp only[aS,aW,bo,bp,reduceAdd,reduceMul,reduceLeDiff,reduceEqDiff,(ho L[k] Si).1,(ho L[k] Si).2];refine WR.fZ (h0:=h) (cs:=((L.take k).filter p).map EV.row) (ys:=[EV.row L[k]]) (((hfr.app _).app _).app _) (Fr.push (N:=0) (aac _) [EV.row L[k]] (by simp[EV.row])).aX De Si (by simp only[ZL,ZG,ZJ];omega) (by simp only[sO]) ?_;intro g' SI hff hkp;have hrow:((L.take k).filter p).map EV.row++[EV.row L[k]]=((L.take (k+1)).filter p).map EV.row:=by rw[SU,ZM];rfl
   exact z6
  |false=>
   exact z37
 ·exact z5
end
section
variable {P:Program}(T:fy P) {h:ah}
include T
set_option maxRecDepth 10000 in
def r180{L:List (jX×AV)}{s:AV}(hs:aH h s 3 (L.map bf))(he:∀x∈L,aH h x.2 1 (x.1.aG.map ao))(hl:L.length<=2^30)(hle:∀x∈L,x.1.aG.length<=2^40):
  aA P 180 [s,.func (.func 181) [] []] h (λv h'=>∃L':List (jX×AV),L'.map Prod.fst=L.map Prod.fst/\Fr h.length h' v 3 (L'.map bf)/\(∀x∈L',Fr h.length h' x.2 1 (x.1.aG.map ao))/\lG (sB v::L'.map λx=>sB x.2)):=by
 refine .of T.mix T.c180 ?_;unfold fn180 gA;refine Ws hs.aK ?_;refine WL.inv T.mix (λn ts h'=>∃(k:Nat) (out:AV) (L':List (jX×AV)),k<=L.length/\n=L.length-k/\Ext h h'/\L'.map Prod.fst=(L.take k).map Prod.fst/\Fr h.length h' out 3 (L'.map bf)/\(∀x∈L',Fr h.length h' x.2 1 (x.1.aG.map ao))/\lG (sB out::L'.map λx=>sB x.2)/\
   ts.length=22/\slot ts 1=.func (.func 181) [] []/\slot ts 5=out/\slot ts 8=s/\slot ts 9=.i L.length/\slot ts 10=.i k) L.length
  ⟨0,.af,[],Om,rfl,Ext.refl h,rfl,.nil,(λx hx=>by cases hx),abg _ _,rfl,rfl,rfl,rfl,rfl,rfl⟩ ?_
 rintro _ ts _ ⟨k,out,L',hk,rfl,⟨g,rfl⟩,hm,hfr,hin,Tq,hlen,t1,t5,t8,t9,t10⟩;rw[lU ts 22 hlen];have Xq:L'.length=k:=by have:=aai List.length hm;simp at this;omega
 by_cases hlt:k<L.length
 ·have e3:(k:Int)<L.length:=Om
  have Ya:=he L[k] Si;have UM:=hle L[k] Si;have ox:=Ya.one;have eQ:∀{kk:ah},Ext h kk->aq (some 3) (cT s 3 k) (λb=>kk[b]?)=some (.agg (bf L[k]),.ay):=λ{kk} e=>hs.kf hlt e
  unfold bf at eQ;simp only[aS,aW,bo,bp,reduceAdd,reduceMul,reduceLeDiff,reduceEqDiff,t1,t5,t8,t9,t10,e3,Z5,hs.dE hlt,eQ,ox];have hown:=λkk (e:Ext h kk)=>r181 T (h:=kk) L[k] (Ya.ext e) UM
  unfold bf at hown;refine WF.res T.c181 (hown _ (by repeat first|exact Ext.refl _|refine Ext.app _ ?_)) ?_;rintro _ g1 ⟨s',rfl,Zp⟩;have os:=Zp.aX.one;refine Ws @os ?_;refine WR.fZ (h0:=h) (cs:=L'.map bf) (ys:=[bf (L[k].1,s')]) ((((hfr.app _).app _).app _)) (Fr.push (N:=0) (aac _) [bf (L[k].1,s')] (by simp[bf])).aX De Si (by simp only[ZL,ZG,ZJ];omega) (by simp only[sO]) ?_;intro g' SI hff hkp;have hrow:L'.map bf++[bf (L[k].1,s')]=(L'++[(L[k].1,s')]).map bf:=by rw[ZM];rfl
  exact z2
 ·exact N9
set_option maxRecDepth 10000 in
def r182{L:List (cQ×AV)}{s:AV}(hs:aH h s 4 (L.map aP))(he:∀x∈L,aH h x.2 1 (x.1.aI.map ao))(hl:L.length<=2^30)(hle:∀x∈L,x.1.aI.length<=2^40):
  aA P 182 [s,.func (.func 183) [] []] h (λv h'=>∃L':List (cQ×AV),L'.map Prod.fst=L.map Prod.fst/\Fr h.length h' v 4 (L'.map aP)/\(∀x∈L',Fr h.length h' x.2 1 (x.1.aI.map ao))/\lG (sB v::L'.map λx=>sB x.2)):=by
 refine .of T.mix T.c182 ?_;unfold fn182 gA;refine Ws hs.aK ?_;refine WL.inv T.mix (λn ts h'=>∃(k:Nat) (out:AV) (L':List (cQ×AV)),k<=L.length/\n=L.length-k/\Ext h h'/\L'.map Prod.fst=(L.take k).map Prod.fst/\Fr h.length h' out 4 (L'.map aP)/\(∀x∈L',Fr h.length h' x.2 1 (x.1.aI.map ao))/\lG (sB out::L'.map λx=>sB x.2)/\
   ts.length=22/\slot ts 1=.func (.func 183) [] []/\slot ts 5=out/\slot ts 8=s/\slot ts 9=.i L.length/\slot ts 10=.i k) L.length
  ⟨0,.af,[],Om,rfl,Ext.refl h,rfl,.nil,(λx hx=>by cases hx),abg _ _,rfl,rfl,rfl,rfl,rfl,rfl⟩ ?_
 rintro _ ts _ ⟨k,out,L',hk,rfl,⟨g,rfl⟩,hm,hfr,hin,Tq,hlen,t1,t5,t8,t9,t10⟩;rw[lU ts 22 hlen];have Xq:L'.length=k:=by have:=aai List.length hm;simp at this;omega
 by_cases hlt:k<L.length
 ·have e3:(k:Int)<L.length:=Om
  have Ya:=he L[k] Si;have UM:=hle L[k] Si;have ox:=Ya.one;have eQ:∀{kk:ah},Ext h kk->aq (some 4) (cT s 4 k) (λb=>kk[b]?)=some (.agg (aP L[k]),.ay):=λ{kk} e=>hs.kf hlt e
  unfold aP at eQ;simp only[aS,aW,bo,bp,reduceAdd,reduceMul,reduceLeDiff,reduceEqDiff,t1,t5,t8,t9,t10,e3,Z5,hs.dE hlt,eQ,ox];have hown:=λkk (e:Ext h kk)=>r183 T (h:=kk) L[k] (Ya.ext e) UM
  unfold aP at hown;refine WF.res T.c183 (hown _ (by repeat first|exact Ext.refl _|refine Ext.app _ ?_)) ?_;rintro _ g1 ⟨s',rfl,Zp⟩;have os:=Zp.aX.one;refine Ws @os ?_;refine WR.fZ (h0:=h) (cs:=L'.map aP) (ys:=[aP (L[k].1,s')]) ((((hfr.app _).app _).app _)) (Fr.push (N:=0) (aac _) [aP (L[k].1,s')] (by simp[aP])).aX De Si (by simp only[ZL,ZG,ZJ];omega) (by simp only[sO]) ?_;intro g' SI hff hkp;have hrow:L'.map aP++[aP (L[k].1,s')]=(L'++[(L[k].1,s')]).map aP:=by rw[ZM];rfl
  exact z2
 ·exact N9
set_option maxRecDepth 10000 in
def r184{L:List (kF×AV)}{s:AV}(hs:aH h s 3 (L.map bK))(he:∀x∈L,aH h x.2 1 (x.1.bd.map aM))(hl:L.length<=2^30)(hle:∀x∈L,x.1.bd.length<=2^40):
  aA P 184 [s,.func (.func 185) [] []] h (λv h'=>∃L':List (kF×AV),L'.map Prod.fst=L.map Prod.fst/\Fr h.length h' v 3 (L'.map bK)/\(∀x∈L',Fr h.length h' x.2 1 (x.1.bd.map aM))/\lG (sB v::L'.map λx=>sB x.2)):=by
 refine .of T.mix T.c184 ?_;unfold fn184 gA;refine Ws hs.aK ?_;refine WL.inv T.mix (λn ts h'=>∃(k:Nat) (out:AV) (L':List (kF×AV)),k<=L.length/\n=L.length-k/\Ext h h'/\L'.map Prod.fst=(L.take k).map Prod.fst/\Fr h.length h' out 3 (L'.map bK)/\(∀x∈L',Fr h.length h' x.2 1 (x.1.bd.map aM))/\lG (sB out::L'.map λx=>sB x.2)/\
   ts.length=22/\slot ts 1=.func (.func 185) [] []/\slot ts 5=out/\slot ts 8=s/\slot ts 9=.i L.length/\slot ts 10=.i k) L.length
  ⟨0,.af,[],Om,rfl,Ext.refl h,rfl,.nil,(λx hx=>by cases hx),abg _ _,rfl,rfl,rfl,rfl,rfl,rfl⟩ ?_
 rintro _ ts _ ⟨k,out,L',hk,rfl,⟨g,rfl⟩,hm,hfr,hin,Tq,hlen,t1,t5,t8,t9,t10⟩;rw[lU ts 22 hlen];have Xq:L'.length=k:=by have:=aai List.length hm;simp at this;omega
 by_cases hlt:k<L.length
 ·have e3:(k:Int)<L.length:=Om
  have Ya:=he L[k] Si;have UM:=hle L[k] Si;have ox:=Ya.one;have eQ:∀{kk:ah},Ext h kk->aq (some 3) (cT s 3 k) (λb=>kk[b]?)=some (.agg (bK L[k]),.ay):=λ{kk} e=>hs.kf hlt e
  unfold bK at eQ;simp only[aS,aW,bo,bp,reduceAdd,reduceMul,reduceLeDiff,reduceEqDiff,t1,t5,t8,t9,t10,e3,Z5,hs.dE hlt,eQ,ox];have hown:=λkk (e:Ext h kk)=>r185 T (h:=kk) L[k] (Ya.ext e) UM
  unfold bK at hown;refine WF.res T.c185 (hown _ (by repeat first|exact Ext.refl _|refine Ext.app _ ?_)) ?_;rintro _ g1 ⟨s',rfl,Zp⟩;have os:=Zp.aX.one;refine Ws @os ?_;refine WR.fZ (h0:=h) (cs:=L'.map bK) (ys:=[bK (L[k].1,s')]) ((((hfr.app _).app _).app _)) (Fr.push (N:=0) (aac _) [bK (L[k].1,s')] (by simp[bK])).aX De Si (by simp only[ZL,ZG,ZJ];omega) (by simp only[sO]) ?_;intro g' SI hff hkp;have hrow:L'.map bK++[bK (L[k].1,s')]=(L'++[(L[k].1,s')]).map bK:=by rw[ZM];rfl
  exact z2
 ·exact N9
end
theorem aD.row{h V}(o:aD h V):V.row.all AV.one=true:=by
 simp only[RV.row,DO,DN,CD,o.i0.one,o.i1.one,o.i2.one,o.i3.one,o.i4.one,o.i5.one,Bool.and_self]
def aD.box{h V}(o:aD h V){N}:pO (.agg V.row) N=some (.ptr N 0,.push (.cells V.row true false)):=by
 have:(AV.agg V.row).cells=V.row:=rfl;simp only[pO,this,o.row,Z1]
def ti{V:RV}:V.row[0]? =some (.int .i64 V.tick):=rfl
def fR{V:RV}:V.row[1]? =some (V.s0):=rfl
def lJ{V:RV}:V.row[2]? =some (V.s1):=rfl
def fB{V:RV}:V.row[3]? =some (V.s2):=rfl
def fx{V:RV}:V.row[4]? =some (V.s3):=rfl
def ga{V:RV}:V.row[5]? =some (V.s4):=rfl
def gY{V:RV}:V.row[6]? =some (V.s5):=rfl
def aF{V:RV}{mu tl:Bool}:dJ (some 7) 0 (.cells V.row mu tl)=some (.agg V.row,.ay):=rfl
def lG.app{l m}(hl:lG l)(hm:lG m)(h:∀x∈l,∀y∈m,∀b,x=some b->y≠some b):lG (l++m):=aaT.2 ⟨hl,hm,h⟩
def lG.one{x}:lG [x]:=abg _ _
theorem lG.perm{l m}(hl:lG l)(h:l.Perm m):lG m:=List.Pairwise.perm hl h λ{x y} hxy b hy hx=>hxy b hx hy
def mg{n z}:dO n z=(List.replicate n z).flatten:=by
 induction n with
 |zero=>rfl
 |succ n ih=>rw[BE,abe,aaR,ih]
def Eo{h X:ah}{A B B':ak}{b:Nat}(hb:h.length+2<=b):(h++([A]++([B']++X)))[b]? =(h++([A]++([B]++X)))[b]? :=by
 have e:∀C:ak,(h++([A]++([C]++X)))[b]? =X[b-h.length-1-1]? :=λC=>by
  rw[ZP Om,ZP (by simp only[Z4];omega),ZP (by simp only[Z4];omega)];rfl
 rw[e,e]
theorem cJ.low{N M h V}(o:cJ N h V)(hM:M<=N):cJ M h V:=
 ⟨o.i0.low hM,o.i1.low hM,o.i2.low hM,o.i3.low hM,o.i4.low hM,o.i5.low hM,λx hx=>(o.e2 x hx).low hM,λx hx=>(o.e3 x hx).low hM,λx hx=>(o.e4 x hx).low hM,o.di⟩
def cJ.dU{N h V}(o:cJ N h V){b}(hb:some b∈V.bl):N<=b/\b<h.length:=by
 simp only[RV.bl,ZK,aag,Z3,aaC,abh]at hb;rcases hb with((hb|⟨x,hx,hb⟩)|⟨x,hx,hb⟩)|⟨x,hx,hb⟩
 ·rcases hb with hb|hb|hb|hb|hb|hb
  ·exact o.i0.bP hb.symm
  ·exact o.i1.bP hb.symm
  ·exact o.i2.bP hb.symm
  ·exact o.i3.bP hb.symm
  ·exact o.i4.bP hb.symm
  ·exact o.i5.bP hb.symm
 ·exact(o.e2 x hx).bP hb
 ·exact(o.e3 x hx).bP hb
 ·exact(o.e4 x hx).bP hb
theorem rD:∀{l m:List (By)},l.Nodup->(∀x∈l,x∈m)->l.length<=m.length
 |[],_,_,_=>aac _
 |x::l,m,hn,hs=>by
  have h1:=abX.1 hn;have hx:=hs x Si;have:=rD (m:=m.erase x) h1.2 λy hy=>(List.mem_erase_of_ne (λ(e:y=x)=>h1.1 (by rw[<-e];exact hy))).2 (hs y (Z8 _ hy))
  rw[List.length_erase_of_mem hx]at this;have hp:=List.length_pos_of_mem hx;simp only[ZG];omega
inductive Lay:Nat->Nat->List (Option Nat)->Prop
 |nil {a:Nat}:Lay a a []
 |cons {a b c:Nat}{l m:List (Option Nat)}(hab:a<=b) (hl:lG l) (hin:∀x,some x∈l->a<=x/\x<b) (r:Lay b c m):Lay a c (l++m)
def Lay.le{a c l}(h:Lay a c l):a<=c:=by
 induction h with
 |nil=>exact ZO _
 |cons hab _ _ _ ih=>omega
def Lay.mem{a c l}(h:Lay a c l):∀x,some x∈l->a<=x/\x<c:=by
 induction h with
 |nil=>intro x hx;cases hx
 |cons hab _ hin r ih=>
  intro x hx;have:=r.le;rcases ZK.1 hx with hx|hx
  ·have:=hin x hx;omega
  ·have:=ih x hx;omega
def Lay.Sc{a c l}(h:Lay a c l):lG l:=by
 induction h with
 |nil=>exact List.Pairwise.nil
 |cons hab hl hin r ih=>
  refine hl.app ih λx hx y hy b hb Vo=>?_
  subst hb;have h1:=hin b hx;rw[Vo]at hy;have h2:=r.mem b hy;omega
def MW{N h s es cs}(hs:Fr N h s es cs):∀x,some x∈[sB s]->N<=x/\x<h.length:=by
 intro x hx;rw[ZW]at hx;exact hs.bP hx.symm
set_option maxRecDepth 10000
section
variable {P:Program}(T:fy P) {h:ah}
include T
def r96{V:RV}(o:aD h V)(w:eD V.an):aA P 96 [.agg V.row] h (λv h'=>∃V':RV,V'.an=V.an/\v=.agg V'.row/\cJ h.length h' V'):=by
 refine .of T.mix T.c96 ?_;obtain⟨ts,Sv⟩:∃ts,ts=aT 38 [.agg V.row]:=⟨_,rfl⟩;have hlen:ts.length=38:=by rw[Sv];rfl
 have t0:slot ts 0=.agg V.row:=by rw[Sv];rfl
 unfold fn96;show WC P bN _ [] (aT 38 [.agg V.row]) h _;rw[<-Sv];clear Sv;have Su:=@aD.box _ _ o;have n0:V.lines.length<=16:=w.l0;have n5:V.aJ.length<=16:=w.l5;have n1:V.aG.length<=16:=w.l1;have n2:V.aj.length<=64:=by have:=w.l2;simpa [RV.an]using this
 have n3:V.ar.length<=32:=by have:=w.l3;simpa [RV.an]using this
 have n4:V.aE.length<=16:=by have:=w.l4;simpa [RV.an]using this
 have mk0:∀{N:Nat},tA 3 32 [AV.str [],.int .i64 0,.bool false] (.int .i64 (V.lines.length:Int)) (.int .i64 (V.lines.length:Int)) N=some (.slice N 0 V.lines.length 3,.push (.cells (dO V.lines.length [AV.str [],.int .i64 0,.bool false]) true true)):=om Om Om;have mk5:∀{N:Nat},tA 4 48 [AV.str [],.str [],.int .i64 0,.bool false] (.int .i64 (V.aJ.length:Int)) (.int .i64 (V.aJ.length:Int)) N=some (.slice N 0 V.aJ.length 4,.push (.cells (dO V.aJ.length [AV.str [],.str [],.int .i64 0,.bool false]) true true)):=om Om Om;refine Rs (A8 t0 @Su @fR @gY o.i0.aK o.i5.aK @mk0 @mk5) ?_
 have z0:(dO V.lines.length [AV.str [],.int .i64 0,.bool false])=(List.replicate V.lines.length [AV.str [],.int .i64 0,.bool false]).flatten:=mg;have z5:(dO V.aJ.length [AV.str [],.str [],.int .i64 0,.bool false])=(List.replicate V.aJ.length [AV.str [],.str [],.int .i64 0,.bool false]).flatten:=mg;obtain⟨B,hB⟩:∃B,B=ak.cells [AV.int .i64 0,.af,.af,.af,.af,.af,.af] true false:=⟨_,rfl⟩;rw[<-hB];have f0:Fr (h++[ak.cells V.row true false]++[B]).length (h++[ak.cells V.row true false]++[B]++([ak.cells (dO V.lines.length [AV.str [],.int .i64 0,.bool false]) true true]++[ak.cells (dO V.aJ.length [AV.str [],.str [],.int .i64 0,.bool false]) true true])) (.slice (h++[ak.cells V.row true false]++[B]).length 0 V.lines.length 3) 3 (List.replicate V.lines.length [AV.str [],.int .i64 0,.bool false]):=by
  rw[<-ZE];exact(Fr.BG (ZO _) rfl).app _
 have f5:Fr (h++[ak.cells V.row true false]++[B]).length (h++[ak.cells V.row true false]++[B]++([ak.cells (dO V.lines.length [AV.str [],.int .i64 0,.bool false]) true true]++[ak.cells (dO V.aJ.length [AV.str [],.str [],.int .i64 0,.bool false]) true true])) (.slice (h++[ak.cells V.row true false]++[B]++[ak.cells (dO V.lines.length [AV.str [],.int .i64 0,.bool false]) true true]).length 0 V.aJ.length 4) 4 (List.replicate V.aJ.length [AV.str [],.str [],.int .i64 0,.bool false]):=by
  rw[<-ZE];exact Fr.BG Si rfl
 obtain⟨Z,hZ⟩:∃Z,Z=([ak.cells (dO V.lines.length [AV.str [],.int .i64 0,.bool false]) true true]++[ak.cells (dO V.aJ.length [AV.str [],.str [],.int .i64 0,.bool false]) true true]):=⟨_,rfl⟩;have hZl:Z.length=2:=by rw[hZ];rfl
 have el5:(h++[ak.cells V.row true false]++[B]++[ak.cells (dO V.lines.length [AV.str [],.int .i64 0,.bool false]) true true]).length=(h++[ak.cells V.row true false]++[B]).length+1:=Si
 rw[ZE (h++[ak.cells V.row true false]++[B]),<-hZ];rw[<-hZ,el5]at f5;rw[<-hZ]at f0;rw[el5];clear hZ;refine WR.Na (h0:=h++[ak.cells V.row true false]++[B]) (g:=Z) (Sq t0) (Sq t0) f0 (o.i0.ext Xx) Si ?_;intro g1 _ Wt hf0 hk0;have Zo:=f5.aC (k:=h++[ak.cells V.row true false]++[B]++g1) λb hb=>hk0 b λb0 o n e he=>by cases he;cases hb;omega
 refine Rs (A2 t0 @gY) ?_;refine WR.Na (h0:=h++[ak.cells V.row true false]++[B]) (g:=g1) (Sq t0) (Sq t0) Zo (o.i5.ext Xx) Si ?_;intro g2 _ hl2 hf5' hk5;have hf0':=hf0.aC (k:=h++[ak.cells V.row true false]++[B]++g2) λb hb=>hk5 b λb0 o n e he=>by cases he;cases hb;omega
 have Wx:g2.length=2:=Om
 refine Rs (A3 t0 @ti @lJ) ?_;refine WF.res T.c179 (r179 T (o.i1.ext Xx) (by simp;omega)) ?_;rintro s1 c1 q1;refine Rs (A2 t0 @fB) ?_;refine WF.res T.c180 (r180 T (o.i2.ext Xx) (λx hx=>(o.e2 x hx).ext Xx) Om (λx hx=>?_)) ?_
 ·have:=(w.sh x.1 (ZT hx)).2.2;have hle:=rD this.1 (λt ht=>this.2 t ht);have Wt:(jT V.an).length=V.aG.length:=by simp[jT,RV.an]
  omega
 rintro s2 c2 ⟨L2,m2,q2,q2e,q2d⟩;refine Rs (A2 t0 @fx) ?_;refine WF.res T.c182 (r182 T (o.i3.ext Xx) (λx hx=>(o.e3 x hx).ext Xx) Om (λx hx=>by have:=(w.md x.1 (ZT hx)).2.1;omega)) ?_;rintro s3 c3 ⟨L3,m3,q3,q3e,q3d⟩;refine Rs (A2 t0 @ga) ?_;refine WF.res T.c184 (r184 T (o.i4.ext Xx) (λx hx=>(o.e4 x hx).ext Xx) Om (λx hx=>by have:=(w.jb x.1 (ZT hx)).2.2.1;omega)) ?_;rintro s4 c4 ⟨L4,m4,q4,q4e,q4d⟩;refine Rs (A6 t0 q1.aX.one q2.aX.one q3.aX.one q4.aX.one @hB) ?_;refine⟨⟨V.tick,V.lines,V.aG,L2,L3,L4,V.aJ,.slice (h++[ak.cells V.row true false]++[B]).length 0 V.lines.length 3,s1,s2,s3,s4,.slice ((h++[ak.cells V.row true false]++[B]).length+1) 0 V.aJ.length 4⟩,?_,?_,?_⟩
 ·simp only[RV.an,m2,m3,m4]
 ·rw[<-hB];rfl
 obtain⟨H,hH⟩:∃H,H=h++[ak.cells V.row true false]++[B]:=⟨_,rfl⟩;have VX:h.length<=H.length:=by rw[hH];simp
 rw[<-hH]at hf0' hf5' q1 q2 q2e q3 q3e q4 q4e;have own:cJ H.length (H++g2++c1++c2++c3++c4) ⟨V.tick,V.lines,V.aG,L2,L3,L4,V.aJ,.slice H.length 0 V.lines.length 3,s1,s2,s3,s4,.slice (H.length+1) 0 V.aJ.length 4⟩:=by
  have n0:V.lines.length=(V.lines.map bV).length:=Si
  have n5:V.aJ.length=(V.aJ.map cF).length:=Si
  refine⟨(((hf0'.app _).app _).app _).app _,?_,?_,?_,?_,(((hf5'.app _).app _).app _).app _,?_,?_,?_,?_⟩
  ·exact(((q1.app _).app _).app _).low Si
  ·exact((q2.app _).app _).low (by simp only[ZB];omega)
  ·exact(q3.app _).low (by simp only[ZB];omega)
  ·exact q4.low (by simp only[ZB];omega)
  ·exactλx hx=>(((q2e x hx).app _).app _).low (by simp only[ZB];omega)
  ·exactλx hx=>((q3e x hx).app _).low (by simp only[ZB];omega)
  ·exactλx hx=>(q4e x hx).low (by simp only[ZB];omega)
  ·have lay:Lay H.length (H++g2++c1++c2++c3++c4).length ([some H.length]++([some (H.length+1)]++([sB s1]++((sB s2::L2.map λx=>sB x.2)++((sB s3::L3.map λx=>sB x.2)++((sB s4::L4.map λx=>sB x.2)++[])))))):=by
    refine .cons (b:=H.length+1) Om .one (λx hx=>by simp at hx;omega) ?_;refine .cons (b:=(H++g2).length) (by simp only[ZB];omega) .one (λx hx=>by simp at hx;simp only[ZB];omega) ?_;refine .cons (b:=(H++g2++c1).length) (by simp only[ZB];omega) .one (MW q1) ?_;refine .cons (b:=(H++g2++c1++c2).length) (by simp only[ZB];omega) q2d (λx hx=>?_) ?_
    ·rcases aag.1 hx with hx|hx
     ·exact q2.bP hx.symm
     ·obtain⟨y,hy,YW⟩:=Z3.1 hx;exact(q2e y hy).bP YW
    refine .cons (b:=(H++g2++c1++c2++c3).length) (by simp only[ZB];omega) q3d (λx hx=>?_) ?_
    ·rcases aag.1 hx with hx|hx
     ·exact q3.bP hx.symm
     ·obtain⟨y,hy,YW⟩:=Z3.1 hx;exact(q3e y hy).bP YW
    refine .cons (b:=(H++g2++c1++c2++c3++c4).length) (by simp only[ZB];omega) q4d (λx hx=>?_) .nil;rcases aag.1 hx with hx|hx
    ·exact q4.bP hx.symm
    ·obtain⟨y,hy,YW⟩:=Z3.1 hx;exact(q4e y hy).bP YW
   refine lay.Sc.perm (List.perm_iff_count.2 λa=>?_);simp only[RV.bl,sB,List.count_append,List.count_cons,List.count_nil,aau,ab6]
   ac_rfl
 rw[hH]at own VX;refine(own.low VX).ay λb hb=>?_
 have hbN:=(own.dU hb).1;simp only[ZE];exact Eo (by simpa using hbN)
end
def aD.js{h V}(o:aD h V):(∀x∈V.aj,x.2.one=true)/\(∀x∈V.ar,x.2.one=true)/\(∀x∈V.aE,x.2.one=true):=
 ⟨λx hx=>(o.e2 x hx).one,λx hx=>(o.e3 x hx).one,λx hx=>(o.e4 x hx).one⟩
structure eO(V:RV):Prop where
 l0:V.lines.length<2^30
 l1:V.aG.length<2^30
 l2:V.aj.length<2^30
 l3:V.ar.length<2^30
 l4:V.aE.length<2^30
 l5:V.aJ.length<2^30
def eD.len{V}(w:eD V.an):eO V:=by
 have h0:=w.l0;have h1:=w.l1;have h2:=w.l2;have h3:=w.l3;have h4:=w.l4;have h5:=w.l5;simp only[RV.an,ZL]at h0 h1 h2 h3 h4 h5;exact⟨Om,Om,Om,Om,Om,Om⟩
def ka{V:RV}:nj V.an=V.aj.map λx=>x.1.name:=by simp[nj,RV.an,ab0]
def iE{V:RV}:fL V.an=V.ar.map λx=>x.1.name:=by simp[fL,RV.an,ab0]
def iF{V:RV}:iA V.an=V.aE.map λx=>x.1.name:=by simp[iA,RV.an,ab0]
section
variable {P:Program}(T:fy P) {h:ah}
include T
def r205{V}(o:aD h V)(l:eO V){n}(hn:n∈gq V.an):aA P 205 [.agg V.row,.str n] h (λv _=>v=.agg (bV (dq V.an n))):=by
 refine .eP 13 T.mix T.c205 ?_;intro ts hlen t0 t1;unfold fn205 gA;have Su:=@aD.box _ _ o;have hlt:a8 (gq V.an) n<V.lines.length:=by have:=cL hn;simpa [gq,RV.an]using this
 have ei:dm (λx:dX=>decide (x.name=n)) V.lines=(a8 (gq V.an) n:Int):=fk (f:=dX.name) hn;have ix:aZ 3 V.s0 (.i (a8 (gq V.an) n:Int))=some (cT V.s0 3 (a8 (gq V.an) n),.ay):=o.i0.dE hlt;have ld:∀{k:ah},Ext h k->aq (some 3) (cT V.s0 3 (a8 (gq V.an) n)) (λb=>k[b]?)=some (.agg (bV (V.lines[a8 (gq V.an) n])),.ay):=λ{k} e=>o.i0.kf hlt e
 have sp:dq V.an n=V.lines[a8 (gq V.an) n]:=cS hn;rw[sp];unfold bV at ld ⊢;refine Rs (A4 t0 t1 @Su @fR) ?_;refine WF.ce T.c142 (r142 T (o.i0.ext Xx) (by have:=l.l0;omega) n) λg1=>?_
 exact z119
def r134{V}(o:aD h V)(l:eO V){n}(hn:n∈jT V.an):aA P 134 [.agg V.row,.str n] h (λv _=>v=.agg (dY (jH V.an n))):=by
 refine .eP 13 T.mix T.c134 ?_;intro ts hlen t0 t1;unfold fn134 gA;have Su:=@aD.box _ _ o;have hlt:a8 (jT V.an) n<V.aG.length:=by have:=cL hn;simpa [jT,RV.an]using this
 have ei:dm (λx:sH=>decide (x.name=n)) V.aG=(a8 (jT V.an) n:Int):=fk (f:=sH.name) hn;have ix:aZ 2 V.s1 (.i (a8 (jT V.an) n:Int))=some (cT V.s1 2 (a8 (jT V.an) n),.ay):=o.i1.dE hlt;have ld:∀{k:ah},Ext h k->aq (some 2) (cT V.s1 2 (a8 (jT V.an) n)) (λb=>k[b]?)=some (.agg (dY (V.aG[a8 (jT V.an) n])),.ay):=λ{k} e=>o.i1.kf hlt e
 have sp:jH V.an n=V.aG[a8 (jT V.an) n]:=cS hn;rw[sp];unfold dY at ld ⊢;refine Rs (A4 t0 t1 @Su @lJ) ?_;refine WF.ce T.c143 (r143 T (o.i1.ext Xx) (by have:=l.l1;omega) n) λg1=>?_
 exact z119
def r77{V:RV}(o:aD h V)(l:eO V){n:By}(hn:n∈nj V.an):aA P 77 [.agg V.row,.str n] h (λv _=>∃x∈V.aj,x.1=rm V.an n/\v=.agg (bf x)):=by
 refine .eP 13 T.mix T.c77 ?_;intro ts hlen t0 t1;unfold fn77 gA;have Su:=@aD.box _ _ o;have hlt:a8 (nj V.an) n<V.aj.length:=by have:=cL hn;simpa [nj,RV.an]using this
 have ei:dm (λx:jX×AV=>decide (x.1.name=n)) V.aj=(a8 (nj V.an) n:Int):=(fk (f:=λx:jX×AV=>x.1.name) (by rw[<-ka];exact hn)).trans (by rw[ka]);have ix:aZ 3 V.s2 (.i (a8 (nj V.an) n:Int))=some (cT V.s2 3 (a8 (nj V.an) n),.ay):=o.i2.dE hlt;have ld:∀{k:ah},Ext h k->aq (some 3) (cT V.s2 3 (a8 (nj V.an) n)) (λb=>k[b]?)=some (.agg (bf (V.aj[a8 (nj V.an) n])),.ay):=λ{k} e=>o.i2.kf hlt e
 have sp:(V.aj[a8 (nj V.an) n]).1=rm V.an n:=by
  have:=cS (f:=jX.name) (l:=V.an.aj) (n:=n) (d:=E1) hn;rw[show rm V.an n=_ from this];exact Eg
 have on:=o.js.1 (V.aj[a8 (nj V.an) n]) (ZR _);have T8:V.aj[a8 (nj V.an) n]∈V.aj:=ZR _;generalize V.aj[a8 (nj V.an) n]=x at *;unfold bf at ld ⊢;refine Rs (A4 t0 t1 @Su @fB) ?_;refine WF.ce T.c136 (r136 T (o.i2.ext Xx) o.js.1 (by have:=l.l2;omega) n) λg1=>?_
 exact z105
def r245{V:RV}(o:aD h V)(l:eO V){n:By}(hn:n∈fL V.an):aA P 245 [.agg V.row,.str n] h (λv _=>∃x∈V.ar,x.1=gT V.an n/\v=.agg (aP x)):=by
 refine .eP 13 T.mix T.c245 ?_;intro ts hlen t0 t1;unfold fn245 gA;have Su:=@aD.box _ _ o;have hlt:a8 (fL V.an) n<V.ar.length:=by have:=cL hn;simpa [fL,RV.an]using this
 have ei:dm (λx:cQ×AV=>decide (x.1.name=n)) V.ar=(a8 (fL V.an) n:Int):=(fk (f:=λx:cQ×AV=>x.1.name) (by rw[<-iE];exact hn)).trans (by rw[iE]);have ix:aZ 4 V.s3 (.i (a8 (fL V.an) n:Int))=some (cT V.s3 4 (a8 (fL V.an) n),.ay):=o.i3.dE hlt;have ld:∀{k:ah},Ext h k->aq (some 4) (cT V.s3 4 (a8 (fL V.an) n)) (λb=>k[b]?)=some (.agg (aP (V.ar[a8 (fL V.an) n])),.ay):=λ{k} e=>o.i3.kf hlt e
 have sp:(V.ar[a8 (fL V.an) n]).1=gT V.an n:=by
  have:=cS (f:=cQ.name) (l:=V.an.ar) (n:=n) (d:=yp) hn;rw[show gT V.an n=_ from this];exact Eg
 have on:=o.js.2.1 (V.ar[a8 (fL V.an) n]) (ZR _);have T8:V.ar[a8 (fL V.an) n]∈V.ar:=ZR _;generalize V.ar[a8 (fL V.an) n]=x at *;unfold aP at ld ⊢;refine Rs (A4 t0 t1 @Su @fx) ?_;refine WF.ce T.c144 (r144 T (o.i3.ext Xx) o.js.2.1 (by have:=l.l3;omega) n) λg1=>?_
 exact z105
def r124{V:RV}(o:aD h V)(l:eO V){n:By}(hn:n∈iA V.an):aA P 124 [.agg V.row,.str n] h (λv _=>∃x∈V.aE,x.1=cW V.an n/\v=.agg (bK x)):=by
 refine .eP 13 T.mix T.c124 ?_;intro ts hlen t0 t1;unfold fn124 gA;have Su:=@aD.box _ _ o;have hlt:a8 (iA V.an) n<V.aE.length:=by have:=cL hn;simpa [iA,RV.an]using this
 have ei:dm (λx:kF×AV=>decide (x.1.name=n)) V.aE=(a8 (iA V.an) n:Int):=(fk (f:=λx:kF×AV=>x.1.name) (by rw[<-iF];exact hn)).trans (by rw[iF]);have ix:aZ 3 V.s4 (.i (a8 (iA V.an) n:Int))=some (cT V.s4 3 (a8 (iA V.an) n),.ay):=o.i4.dE hlt;have ld:∀{k:ah},Ext h k->aq (some 3) (cT V.s4 3 (a8 (iA V.an) n)) (λb=>k[b]?)=some (.agg (bK (V.aE[a8 (iA V.an) n])),.ay):=λ{k} e=>o.i4.kf hlt e
 have sp:(V.aE[a8 (iA V.an) n]).1=cW V.an n:=by
  have:=cS (f:=kF.name) (l:=V.an.aE) (n:=n) (d:=vO) hn;rw[show cW V.an n=_ from this];exact Eg
 have on:=o.js.2.2 (V.aE[a8 (iA V.an) n]) (ZR _);have T8:V.aE[a8 (iA V.an) n]∈V.aE:=ZR _;generalize V.aE[a8 (iA V.an) n]=x at *;unfold bK at ld ⊢;refine Rs (A4 t0 t1 @Su @ga) ?_;refine WF.ce T.c145 (r145 T (o.i4.ext Xx) o.js.2.2 (by have:=l.l4;omega) n) λg1=>?_
 exact z105
def r218{V}(o:aD h V)(l:eO V){n}(hn:n∈lh V.an):aA P 218 [.agg V.row,.str n] h (λv _=>v=.agg (cF (jr V.an n))):=by
 refine .eP 13 T.mix T.c218 ?_;intro ts hlen t0 t1;unfold fn218 gA;have Su:=@aD.box _ _ o;have hlt:a8 (lh V.an) n<V.aJ.length:=by have:=cL hn;simpa [lh,RV.an]using this
 have ei:dm (λx:nP=>decide (x.name=n)) V.aJ=(a8 (lh V.an) n:Int):=fk (f:=nP.name) hn;have ix:aZ 4 V.s5 (.i (a8 (lh V.an) n:Int))=some (cT V.s5 4 (a8 (lh V.an) n),.ay):=o.i5.dE hlt;have ld:∀{k:ah},Ext h k->aq (some 4) (cT V.s5 4 (a8 (lh V.an) n)) (λb=>k[b]?)=some (.agg (cF (V.aJ[a8 (lh V.an) n])),.ay):=λ{k} e=>o.i5.kf hlt e
 have sp:jr V.an n=V.aJ[a8 (lh V.an) n]:=cS hn;rw[sp];unfold cF at ld ⊢;refine Rs (A4 t0 t1 @Su @gY) ?_;refine WF.ce T.c146 (r146 T (o.i5.ext Xx) (by have:=l.l5;omega) n) λg1=>?_
 exact z119
def MP{V}(o:aD h V)(l:eO V)(n:By):aA P 86 [.agg V.row,.i 0,.str n] h (λv _=>v=.bool (dW V.an 0 n)):=by
 refine .nW 47 T.mix T.c86 ?_;intro ts hlen t0 t1 t2;unfold fn86;have Su:=@aD.box _ _ o;have eh:dW V.an 0 n=decide (0<=dm (λx=>decide (x.name=n)) V.lines):=(fO (f:=dX.name)).symm;rw[eh]
 skip
 refine Rs (A7 t0 t1 t2 @Su @fR @Z5 @Z9) ?_;refine WF.ce T.c142 (r142 T (o.i0.ext Xx) (by have:=l.l0;omega) n) λg1=>?_
 exact GO
def MO{V}(o:aD h V)(l:eO V)(n:By):aA P 86 [.agg V.row,.i 1,.str n] h (λv _=>v=.bool (dW V.an 1 n)):=by
 refine .nW 47 T.mix T.c86 ?_;intro ts hlen t0 t1 t2;unfold fn86;have Su:=@aD.box _ _ o;have eh:dW V.an 1 n=decide (0<=dm (λx=>decide (x.name=n)) V.aG):=(fO (f:=sH.name)).symm;rw[eh]
 skip
 have d0:((1:Int)=0)=False:=aa9 De;refine Rs (A8 t0 t1 t2 @Su @lJ @Z5 @Z9 @d0) ?_;refine WF.ce T.c143 (r143 T (o.i1.ext Xx) (by have:=l.l1;omega) n) λg1=>?_
 exact GO
def MN{V:RV}(o:aD h V)(l:eO V)(n:By):aA P 86 [.agg V.row,.i 2,.str n] h (λv _=>v=.bool (dW V.an 2 n)):=by
 refine .nW 47 T.mix T.c86 ?_;intro ts hlen t0 t1 t2;unfold fn86;have Su:=@aD.box _ _ o;have eh:dW V.an 2 n=decide (0<=dm (λx=>decide (x.1.name=n)) V.aj):=by
  rw[fO (f:=λx:jX×AV=>x.1.name),<-ka];rfl
 rw[eh]
 skip
 have d0:((2:Int)=0)=False:=aa9 De;have d1:((2:Int)=1)=False:=aa9 De;refine Rs (A9 t0 t1 t2 @Su @fB @Z5 @Z9 @d0 @d1) ?_;refine WF.ce T.c136 (r136 T (o.i2.ext Xx) o.js.1 (by have:=l.l2;omega) n) λg1=>?_
 exact GO
def MM{V:RV}(o:aD h V)(l:eO V)(n:By):aA P 86 [.agg V.row,.i 3,.str n] h (λv _=>v=.bool (dW V.an 3 n)):=by
 refine .nW 47 T.mix T.c86 ?_;intro ts hlen t0 t1 t2;unfold fn86;have Su:=@aD.box _ _ o;have eh:dW V.an 3 n=decide (0<=dm (λx=>decide (x.1.name=n)) V.ar):=by
  rw[fO (f:=λx:cQ×AV=>x.1.name),<-iE];rfl
 rw[eh]
 skip
 have d0:((3:Int)=0)=False:=aa9 De;have d1:((3:Int)=1)=False:=aa9 De;have d2:((3:Int)=2)=False:=aa9 De;refine Rs (na t0 t1 t2 @Su @fx @Z5 @Z9 @d0 @d1 @d2) ?_;refine WF.ce T.c144 (r144 T (o.i3.ext Xx) o.js.2.1 (by have:=l.l3;omega) n) λg1=>?_
 exact GO
def ML{V:RV}(o:aD h V)(l:eO V)(n:By):aA P 86 [.agg V.row,.i 4,.str n] h (λv _=>v=.bool (dW V.an 4 n)):=by
 refine .nW 47 T.mix T.c86 ?_;intro ts hlen t0 t1 t2;unfold fn86;have Su:=@aD.box _ _ o;have eh:dW V.an 4 n=decide (0<=dm (λx=>decide (x.1.name=n)) V.aE):=by
  rw[fO (f:=λx:kF×AV=>x.1.name),<-iF];rfl
 rw[eh]
 skip
 have d0:((4:Int)=0)=False:=aa9 De;have d1:((4:Int)=1)=False:=aa9 De;have d2:((4:Int)=2)=False:=aa9 De;have d3:((4:Int)=3)=False:=aa9 De;refine Rs (mZ t0 t1 t2 @Su @ga @Z5 @Z9 @d0 @d1 @d2 @d3) ?_;refine WF.ce T.c145 (r145 T (o.i4.ext Xx) o.js.2.2 (by have:=l.l4;omega) n) λg1=>?_
 exact GO
def MK{V}(o:aD h V)(l:eO V)(n:By):aA P 86 [.agg V.row,.i 5,.str n] h (λv _=>v=.bool (dW V.an 5 n)):=by
 refine .nW 47 T.mix T.c86 ?_;intro ts hlen t0 t1 t2;unfold fn86;have Su:=@aD.box _ _ o;have eh:dW V.an 5 n=decide (0<=dm (λx=>decide (x.name=n)) V.aJ):=(fO (f:=nP.name)).symm;rw[eh]
 skip
 have d0:((5:Int)=0)=False:=aa9 De;have d1:((5:Int)=1)=False:=aa9 De;have d2:((5:Int)=2)=False:=aa9 De;have d3:((5:Int)=3)=False:=aa9 De;have d4:((5:Int)=4)=False:=aa9 De;refine Rs (pB t0 t1 t2 @Su @gY @Z5 @Z9 @d0 @d1 @d2 @d3 @d4) ?_;refine WF.ce T.c146 (r146 T (o.i5.ext Xx) (by have:=l.l5;omega) n) λg1=>?_
 exact GO
def r86{V:RV}(o:aD h V)(l:eO V){t:Nat}(ht:t<6)(n:By):aA P 86 [.agg V.row,.i t,.str n] h (λv _=>v=.bool (dW V.an t n)):=by
 match t,ht with
 | 0,_=>exact MP T o l n
 | 1,_=>exact MO T o l n
 | 2,_=>exact MN T o l n
 | 3,_=>exact MM T o l n
 | 4,_=>exact ML T o l n
 | 5,_=>exact MK T o l n
def r135(x:sH)(t:Int):aA P 135 [.agg (dY x),.i t] h (λv _=>v=.bool (decide (t<=x.last))):=by
 refine .of T.mix T.c135 ?_;unfold fn135 gA dY;exact Wn Tv
def r76{V}(o:aD h V)(l:eO V){x}(hx:aH h x.2 1 (x.1.aG.map ao))(hl:x.1.aG.length<2^30)(hk:∀n∈x.1.aG,n∈jT V.an)(t:Int):
  aA P 76 [.agg V.row,.agg (bf x),.i t] h (λv _=>v=.bool (gX V.an x.1 t)):=by
 refine .nW 24 T.mix T.c76 ?_;intro ts hlen t0 t1 t2;unfold fn76 gA;have Su:=@aD.box _ _ o;have ox:=hx.one;unfold bf at t1;refine Rs (A6 t0 t1 t2 @Su @ox hx.aK) ?_;refine WL.inv T.mix (λn ts h'=>∃k:Nat,k<=x.1.aG.length/\n=x.1.aG.length-k/\Ext (h++[ak.b V.row]) h'/\gX V.an x.1 t=(x.1.aG.drop k).any (jJ V.an t)/\
   ts.length=24/\slot ts 2=.i t/\slot ts 3=.ptr h.length 0/\slot ts 7=.bool false/\slot ts 11=x.2/\slot ts 12=.i x.1.aG.length/\slot ts 13=.i k) x.1.aG.length
  ⟨0,Om,rfl,Xx,rfl,Sn,(Sq t2),(Sq t0),(Sq t0),(Sq t0),(Sq t0),(Sk t0)⟩ ?_
 rintro _ ts _ ⟨k,hk',rfl,⟨g,rfl⟩,hs,hlen,t2,t3,t7,t11,t12,t13⟩;by_cases hlt:k<x.1.aG.length
 ·have hd:x.1.aG.drop k=x.1.aG[k]::x.1.aG.drop (k+1):=Si
  have e3:=eC hlt;have ix:=hx.dE (kk:=.i64) hlt;have ld:∀{k':ah},Ext h k'->aq none (cT x.2 1 k) (λb=>k'[b]?)=some (.str x.1.aG[k],.ay):=λ{k'} e=>hx.kg hlt rfl e
  refine Rs (na t2 t3 t7 t11 t12 t13 e3 ix @ld @aF) ?_;refine WF.ce T.c134 (r134 T (o.ext Xx) l (hk _ (ZR hlt))) λg1=>?_
  refine Rs (A6 t2 t3 t7 t11 t12 t13) ?_;refine WF.ce T.c135 (r135 T _ t) λg2=>?_
  have hr:decide (t<=(jH V.an x.1.aG[k]).last)=jJ V.an t x.1.aG[k]:=rfl;rw[hr];rw[hd,ab1]at hs;cases TR:jJ V.an t x.1.aG[k]with
  |true=>
   rw[TR,Bool.true_or]at hs;rw[hs];exact Rs (A6 t2 t3 t7 t11 t12 t13) Tv
  |false=>
   rw[TR,abO]at hs;have e5:=wrapN (n:=k) Om;refine Rs (A7 t2 t3 t7 t11 t12 t13 e5) ?_;exact⟨_,Om,k+1,Om,rfl,hs,rfl⟩
 ·have e3:=ff hlt;have e4:k=x.1.aG.length:=Om
  rw[e4,aaF]at hs;rw[hs];refine Rs (A7 t2 t3 t7 t11 t12 t13 e3) ?_;rfl
end
structure QZ(V:RV):Prop where
 sh:∀x∈V.aj,(∀n∈x.1.aG,n∈jT V.an)/\x.1.aG.length<2^30
def eD.zB{V}(w:eD V.an):QZ V:=by
 refine⟨λx hx=>?_⟩;have:=(w.sh x.1 (ZT hx)).2.2;have hle:=rD this.1 (λt ht=>this.2 t ht);have h1:=w.l1;have Wt:(jT V.an).length=V.an.aG.length:=by simp[jT]
 exact⟨this.2,Om⟩
section
variable {P:Program}(T:fy P) {h:ah}
include T
def r139{V}(o:aD h V)(l:eO V)(ir:QZ V){x}(hm:x∈V.aj){t b c}(hb:h[b]? =some (.b V.row))(hc:h[c]? =some (.b [.i t])):
  aA P 139 [.agg (bf x),.ptr b 0,.ptr c 0] h (λv _=>v=.bool (!gX V.an x.1 t)):=by
 refine .nW 10 T.mix T.c139 ?_;intro ts hlen t0 t1 t2;unfold fn139 gA;have ox:=(o.e2 x hm).one;have lb:∀{k:ah}{n:Option Nat}{a:Nat},Ext h k->aq n (.ptr b a) (λz=>k[z]?)=dJ n a (.b V.row):=λe=>aB (e.some hb)
 have lc:∀{k:ah}{n:Option Nat}{a:Nat},Ext h k->aq n (.ptr c a) (λz=>k[z]?)=dJ n a (.b [.i t]):=λe=>aB (e.some hc)
 have hsf:=λ(k:ah) (e:Ext h k)=>r76 T (o.ext e) l ((o.e2 x hm).ext e) (ir.sh x hm).2 (ir.sh x hm).1 t
 unfold bf at t0 hsf;refine Rs (A7 t0 t1 t2 @ox @lb @lc @aF) ?_;refine WF.ce T.c76 (hsf _ Xx) λg1=>?_
 exact GO
def r80{V}(o:aD h V)(l:eO V)(ir:QZ V)(t:Int):aA P 80 [.agg V.row,.i t] h (λv h'=>aH h' v 1 ((kG V.an t).map ao)):=by
 refine .eP 10 T.mix T.c80 ?_;intro ts hlen t0 t1;unfold fn80 gA;have Su:=@aD.box _ _ o;refine Rs (A4 t0 t1 @Su @fB) ?_;have hm:∀x,x∈V.aj->∀k,Ext (h++[ak.b V.row]++[ak.b [AV.i t]]) k->bE P (.func (.func 139) [] [.ptr h.length 0,.ptr (h++[ak.b V.row]).length 0]) [.agg (bf x)] k (λv _=>v=.bool (!gX V.an x.1 t)):=λx hx k e=>
  bE.of (a:=[]) T.c139 (r139 T (o.ext (Ext.trans Xx e)) l ir hx (e.some uB) (e.some aV))
 refine WF.res T.c138 (r138 T (o.i2.ext Xx) o.js.1 (by have:=l.l2;omega) (λx=>!gX V.an x.1 t) hm) ?_;rintro s1 g1 hf;refine Rs (A2 t0 t1) ?_;have S4:(V.aj.filter λx=>!gX V.an x.1 t).length<=V.aj.length:=aaj _ _;refine WF.res T.c137 (r137 T hf.aX (λx hx=>o.js.1 x ((aaq.1 hx).1)) (by have:=l.l2;omega) (λx=>x.1.name) (λx hx k e=>bE.of (a:=[]) (c:=[]) T.c140 (r140 T x (o.js.1 x ((aaq.1 hx).1))))) ?_;rintro s2 g2 Vc;have eu:kG V.an t=(V.aj.filter λx=>!gX V.an x.1 t).map λx=>x.1.name:=by
  simp only[kG,RV.an,abw,abj];rfl
 rw[eu];have:=Vc.aX;refine Rs (A2 t0 t1) ?_;exact this
def r255{x}(ox:x.2.one=true){n b}(hb:h[b]? =some (.b [.str n])):aA P 255 [.agg (bf x),.ptr b 0] h (λv _=>v=.bool (decide (x.1.line=n))):=by
 refine .eP 8 T.mix T.c255 ?_;intro ts hlen t0 t1;unfold fn255 gA;have lb:∀{k:ah}{n':Option Nat}{a:Nat},Ext h k->aq n' (.ptr b a) (λz=>k[z]?)=dJ n' a (.b [.str n]):=λe=>aB (e.some hb)
 unfold bf at t0;exact Rs (A4 t0 t1 @ox @lb) Tv
def r206{V}(o:aD h V)(l:eO V)(n:By):aA P 206 [.agg V.row,.str n] h (λv h'=>aH h' v 3 ((V.aj.filter λx=>decide (x.1.line=n)).map bf)):=by
 refine .eP 9 T.mix T.c206 ?_;intro ts hlen t0 t1;unfold fn206 gA;have Su:=@aD.box _ _ o;refine Rs (A4 t0 t1 @Su @fB) ?_;refine WF.res T.c138 (r138 T (o.i2.ext Xx) o.js.1 (by have:=l.l2;omega) (λx=>decide (x.1.line=n)) (λx hx k e=>bE.of (a:=[]) (c:=[.ptr (h++[ak.b V.row]).length 0]) T.c255 (r255 T (o.js.1 x hx) (e.some aV)))) ?_;rintro s1 g1 hf;have:=hf.aX;refine Rs (A2 t0 t1) ?_;exact this
def r269{x n b}(hb:h[b]? =some (.b [.str n])):aA P 269 [.agg (cF x),.ptr b 0] h (λv _=>v=.bool (decide (x.jw=n))):=by
 refine .eP 8 T.mix T.c269 ?_;intro ts hlen t0 t1;unfold fn269 GP;have lb:∀{k:ah}{n':Option Nat}{a:Nat},Ext h k->aq n' (.ptr b a) (λz=>k[z]?)=dJ n' a (.b [.str n]):=λe=>aB (e.some hb)
 unfold cF at t0;exact Rs (A3 t0 t1 @lb) Tv
def r251{V}(o:aD h V)(l:eO V)(n:By):aA P 251 [.agg V.row,.str n] h (λv _=>v=.bool (lz V.an n)):=by
 refine .eP 9 T.mix T.c251 ?_;intro ts hlen t0 t1;unfold fn251 gA;have Su:=@aD.box _ _ o;refine Rs (A4 t0 t1 @Su @gY) ?_;refine WF.ce T.c268 (r268 T (o.i5.ext Xx) (by have:=l.l5;omega) (λx=>decide (x.jw=n)) (λx hx k e=>bE.of (a:=[]) (c:=[.ptr (h++[ak.b V.row]).length 0]) T.c269 (r269 T (e.some aV)))) λg1=>?_
 refine Rs (A2 t0 t1) ?_;rfl
end
end Go.Abs
namespace Go.Abs
def WF.Lc{P ro ks ts h h' Q fv args d l v}(H:fu P fv args h v h')(K:WP P ro l ks (put ts d v) h' Q):WF P ro false fv args d l ks ts h Q:=
 ⟨v,h',H,λhq=>absurd hq Si,K⟩
structure IterM(P:Program)(f:FuncId)(a c:List AV)(L:List (List AV))(pre:ah->Prop):Prop where
 run:∀(l:Nat) (h:ah) (J:Nat->Nat->ah->Prop) (D:ah->Prop),(∀m i k,J m i k->pre k)->(∀m i k g,J m i k->J m i (k++g))->
  (∀m i (hi:i<L.length) k,J m i k->∃b k',fu P (.func (.yield l) [] []) L[i] k (.bool b) k'/\(∀x,l<x->x<m->k'[x]? =k[x]?)/\(if b=true then J m (i+1) k' else D k'))->
  (∀m k,J m L.length k->D k)->l+1=h.length->pre h->(∀g,J (h++g).length 0 (h++g))->du P f (a++[.func (.yield l) [] []]++c) h (λ_ k=>D k)
section
variable {P:Program}{ks:List Kt}{ts:TS}{h:ah}{Q:Ex->TS->ah->Prop}
def WC.iterM(hmix:P.follows .mixedOrders=true){f A a c L pre g ps asg body}(hA:bR P f=some A)
  (hg:val ts g=.func (.func f) a c) (hi:IterM P f a c L pre) (hps:∀x∈L,x.length=ps.length) (I:Nat->Nat->ah->ah->Prop) (Fin:Ex->ah->ah->Prop)
  (h0:∀g,I (h.length+1+g.length) 0 h g) (hcl:∀m i h' g g2,I m i h' g->I m i h' (g++g2)) (hp0:∀X,pre (h++[X])) (hpre:∀m i h' g X,h'.length=h.length->I m i h' g->pre (h'++[X]++g))
  (step:∀m i (hi:i<L.length) h' g (R B:ak),h'.length=h.length->I m i h' g->
   WC P C9 asg [] (setArgs ts ps L[i]) (h'++[R]++g) λe1 VI h2=>e1=.normal/\∃h1 g1,h2=h1++[R]++g1/\h1.length=h.length/\
    WC P C9 body [] VI (h1++[B]++g1) λe2 _ h4=>∃h3 g3,h4=h3++[B]++g3/\h3.length=h.length/\(∀x,x+h.length+1<m->g3[x]? =g[x]?)/\(if e2=.normal then I m (i+1) h3 g3 else Fin e2 h3 g3))
  (done:∀e h' g,h'.length=h.length->(if e=.normal then ∃m,I m L.length h' g else Fin e h' g)->WE P bN e ks ts (h'++[ak.dead]++g) Q):WC P bN (.fW g ps asg body) ks ts h Q:=by
 let J:Nat->Nat->ah->Prop:=λm i k=>∃h' g,k=h'++[.loop .ready .normal ts ps asg body]++g/\h'.length=h.length/\I m i h' g
 let D:ah->Prop:=λk=>∃e h' g st,k=h'++[.loop st e ts ps asg body]++g/\h'.length=h.length/\st≠.busy/\(if e=.normal then ∃m,I m L.length h' g else Fin e h' g)
 obtain⟨v,h2,hs,e,h',g',st,rfl,hl,bS,T9⟩:=hi.run h.length (h++[.loop .ready .normal ts ps asg body]) J D
  (λm i k hJ=>by obtain⟨h',g,rfl,h1,h2⟩:=hJ;exact hpre m i h' g _ h1 h2)
  (λm i k g2 hJ=>by obtain⟨h',g,rfl,h1,h2⟩:=hJ;exact⟨h',g++g2,by rw[ZE],h1,hcl _ _ _ _ _ h2⟩)
  (λm i hi k hJ=>by
   obtain⟨h',g,rfl,h1,h2⟩:=hJ;obtain⟨e1,VI,k2,q1,rfl,h3,g3,rfl,h4,q2⟩:=W.sound hmix (step m i hi h' g (.loop .ready .normal ts ps asg body) (.loop .busy .normal ts ps asg body) h1 h2);obtain⟨e2,ts3,k3,q3,h5,g5,rfl,h6,q5,q4⟩:=W.sound hmix q2;have hy:fu P (.func (.yield h.length) [] []) L[i] (h'++[.loop .ready .normal ts ps asg body]++g) (.bool (decide (e2=.normal))) (List.set (h5++[ak.loop .busy .normal ts ps asg body]++g5) h.length (ak.loop (if e2=.normal then .ready else .done) e2 ts ps asg body)):=
    fu.yield (nF h1) (hps _ (ZR hi)) (λr=>q1 (some r) ⟨r,rfl⟩) (nF h4) (λr=>by rw[rK h4];exact q3 (some r) ⟨r,rfl⟩) (nF h6)
   rw[rK h6]at hy;refine⟨decide (e2=.normal),_,hy,?_,?_⟩
   ·intro x hx Tm;rw[ZP (by simp;omega),ZP (by simp;omega)];have:=q5 (x-h.length-1) Om;simp only[ZB,ZG,ZJ,h6,h1,aau,Nat.sub_sub]at this ⊢;exact this
   by_cases he:e2=.normal
   ·exact KR
   ·rw[ZN he]at q4;simp only[he,Z9,aav,ZY];exact⟨e2,h5,g5,.done,rfl,h6,Si,by rw[ZN he];exact q4⟩)
  (λm k hJ=>by obtain⟨h',g,rfl,h1,h2⟩:=hJ;exact⟨.normal,h',g,.ready,rfl,h1,Si,by rw[ZS rfl];exact⟨m,h2⟩⟩)
  Si (hp0 _) (λg=>⟨h,g,rfl,rfl,by have:=h0 g;simpa only[ZB,ZG,ZJ,aau]using this⟩)
 exact Rk
end
def WC.zp{P ro c ts h Q Q'}(H:WC P ro c [] ts h Q)(hq:∀e ts' h',Q e ts' h'->Q' e ts' h'):WC P ro c [] ts h Q':=W.mono H hq
def qQ{A B:ah}{K K':ak}{b:Nat}(h:b≠A.length):(A++[K]++B)[b]? =(A++[K']++B)[b]? :=by
 by_cases h1:b<A.length
 ·rw[ZE,ZE,ZF h1,ZF h1]
 ·exact N1
def Jy{A B:ah}{K:ak}:(A++[K]++B)[A.length]? =some K:=by
 exact z148
def dz(x:By×Bool):AV×AV:=(.str x.1,.bool x.2)
def gF:List (By×Bool)->By->Bool
 |[],_=>false
 |(a,b)::r,w=>if w=a then b else gF r w
def r9:List (By×Bool)->By->Bool->List (By×Bool)
 |[],w,b=>[(w,b)]
 |(a,c)::r,w,b=>if w=a then(w,b)::r else(a,c)::r9 r w b
theorem sf:∀{M}{w w'}{b},gF (r9 M w b) w' =if w' =w then b else gF M w'
 |[],w,w',b=>by rw[r9,gF];rfl
 |(a,c)::r,w,w',b=>by
  rw[r9];by_cases h1:w=a
  ·subst h1;rw[ZS rfl,gF,gF];exact z145
  ·rw[ZN h1,gF,gF,sf];exact KW
theorem tK:∀{M}{w},∃o:Option AV,hO .s (.str w) (M.map dz)=some o/\(o=some (.bool (gF M w))\/(o=none/\gF M w=false))
 |[],w=>⟨none,rfl,.inr ⟨rfl,rfl⟩⟩
 |(a,c)::r,w=>by
  by_cases h1:w=a
  ·subst h1;refine⟨some (.bool c),?_,.inl ?_⟩
   ·simp only[aar,dz,hO,cY,BEq.rfl]
   ·rw[gF,ZS rfl]
  ·obtain⟨o,h2,h3⟩:=tK (M:=r) (w:=w);have hb:(w==a)=false:=by simp[h1]
   refine⟨o,?_,?_⟩
   ·simp only[aar,dz,hO,cY,hb];exact h2
   ·rw[gF,ZN h1];exact h3
theorem vc:∀{M}{w}{b},mL .s (.str w) (.bool b) (M.map dz)=some ((r9 M w b).map dz)
 |[],w,b=>rfl
 |(a,c)::r,w,b=>by
  by_cases h1:w=a
  ·subst h1;rw[r9,ZS rfl];simp only[aar,dz,mL,cY,BEq.rfl]
  ·have hb:(w==a)=false:=by simp[h1]
   have:=vc (M:=r) (w:=w) (b:=b);rw[r9,ZN h1];show(match some (w==a)with|some true=>some ((AV.str w,AV.bool b)::r.map dz)|some false=>(mL .s (.str w) (.bool b) (r.map dz)).map ((AV.str a,AV.bool c)::·)|none=>none)=_;rw[hb,this];rfl
def oh(kk:CK)(m k x:AV)(G:Nat->Option ak):Option (AV×iR):=
 match m with
 |.map r=>
  match G r with
  |some (.aR es)=>
   match mL kk k x es with
   |some es'=>some (az,.set r (.aR es'))
   |none=>none
  |_=>none
 |_=>none
def qL{kk r k x G es es'}(hb:G r=some (.aR es))(hu:mL kk k x es=some es'):oh kk (.map r) k x G=some (az,.set r (.aR es')):=by
 simp only[oh,hb,hu]
def eA{kk m k x ρ G N}:stepT (.fj kk m k x) ρ G N=oh kk (ρ m) (ρ k) (ρ x) G:=rfl
def gZ(kk:CK)(z:AV)(ok:Bool)(m k:AV)(G:Nat->Option ak):Option (AV×iR):=
 match m with
 |.dh=>some (if ok then .dL [z,.bool false]else z,.ay)
 |.map r=>
  match G r with
  |some (.aR es)=>
   match hO kk k es with
   |some (some v)=>some (if ok then .dL [v,.bool true]else v,.ay)
   |some none=>some (if ok then .dL [z,.bool false]else z,.ay)
   |none=>none
  |_=>none
 |_=>none
def bC{kk z ok m k ρ G N}:stepT (.look kk z ok m k) ρ G N=gZ kk z ok (ρ m) (ρ k) G:=rfl
def lQ(z:AV)(ok:Bool):Option AV->Option (AV×iR)
 |some v=>some (if ok then .dL [v,.bool true]else v,.ay)
 |none=>some (if ok then .dL [z,.bool false]else z,.ay)
def oA{kk z ok r k G es o}(hb:G r=some (.aR es))(hu:hO kk k es=some o):
  gZ kk z ok (.map r) k G=lQ z ok o:=by
 simp only[gZ,hb,hu];cases o<;>rfl
def pI{r w G M}(hb:G r=some (.aR (M.map dz))):gZ .s (.bool false) false (.map r) (.str w) G=some (.bool (gF M w),.ay):=by
 obtain⟨o,h1,h2⟩:=tK (M:=M) (w:=w);rw[oA hb h1];rcases h2 with rfl|⟨rfl,h2⟩
 ·rfl
 ·rw[h2];rfl
def rG{r w b G M}(hb:G r=some (.aR (M.map dz))):oh .s (.map r) (.str w) (.bool b) G=some (az,.set r (.aR ((r9 M w b).map dz))):=qL hb vc
def ai.tl:ai->ai
 |.seq _ b=>b
 |c=>c
def ai.hd:ai->ai
 |.seq a _=>a
 |c=>c
def ai.dr:Nat->ai->ai
 | 0,c=>c
 |n+1,c=>c.tl.dr n
def ai.jE:ai->ai
 |.block _ a=>a
 |.loop a=>a
 |c=>c
def ai.EK:ai->ai
 |.fW _ _ a _=>a
 |c=>c
def ai.D9:ai->ai
 |.fW _ _ _ b=>b
 |c=>c
def Fr.swap'{N A B g s es cs}(hs:Fr N (A++g) s es cs)(hA:A.length=N)(hB:B.length=N):Fr N (B++g) s es cs:=by
 subst hA;exact hs.swap hB
set_option maxRecDepth 10000
attribute [local irreducible] WP WC WE WB WR WF WL WG gk
def E8:ai:=((fn214).body.tl).hd
def Iy:ai:=E8.tl.jE
def Py:ai:=(fn214).body.tl.tl
def Mh:(fn214).body=.seq ((fn214).body.hd) (.seq (.seq E8.hd (.block 0 (.fW (.t 16) [17,18] Iy.EK Iy.D9))) Py):=rfl
section
variable {P:Program}(T:fy P) {h:ah}
include T
def CN{x:cQ×AV}{Hm:List (By×Bool)->ah}{mb bb xb:Nat}(a1:∀M,(Hm M)[mb]? =some (.aR (M.map dz)))(a2:∀M,(Hm M)[bb]? =some (.b [.map mb]))(a3:∀M,(Hm M)[xb]? =some (.b (aP x)))
  (a4:∀M K:List (By×Bool),(Hm M).set mb (.aR (K.map dz))=Hm K) (a5:∀M,aH (Hm M) x.2 1 (x.1.aI.map ao)) (hl:x.1.aI.length<2^30) {ts:TS}(hlen:ts.length=56) (t4:slot ts 4=.ptr bb 0) (t6:slot ts 6=.ptr xb 0)
  {M:List (By×Bool)}{S:List (By)}(hM:∀w,gF M w=decide (w∈S)):
  WC P C9 Iy.D9 [] ts (Hm M) λe _ h4=>e=.normal/\∃M',h4=Hm M'/\∀w,gF M' w=decide (w∈(if x.1.name∈S then S++x.1.aI else S)):=by
 have l2:∀{M n o},aq n (.ptr bb o) (λz=>(Hm M)[z]?)=dJ n o (.b [.map mb]):=λ{M _ _}=>aB (a2 M)
 have l3:∀{M n o},aq n (.ptr xb o) (λz=>(Hm M)[z]?)=dJ n o (.b [.str x.1.name,.str x.1.gives,.str x.1.line,x.2]):=λ{M _ _}=>aB (a3 M)
 have lk:∀{M w},gZ .s (.bool false) false (.map mb) (.str w) (λz=>(Hm M)[z]?)=some (.bool (gF M w),.ay):=λ{M _}=>pI (a1 M)
 have mp:∀{M w b},oh .s (.map mb) (.str w) (.bool b) (λz=>(Hm M)[z]?)=some (az,.set mb (.aR ((r9 M w b).map dz))):=λ{M _ _}=>rG (a1 M)
 have Vs:=λM G=>(a5 M).aK G
 unfold Iy E8 fn214 gA;simp only[ai.tl,ai.hd,ai.jE,ai.D9]
 repeat (first|simp (config:={maxSteps:=1000000}) only[aS,aW,bo,bp,reduceAdd,reduceMul,reduceLeDiff,reduceEqDiff,bw,hlen,ZY,Z1,t4,t6,l2,l3,Vs M]|simp (config:={maxSteps:=1000000}) (disch:=first|(simp only[ZB,ZG,ZJ]<;>omega)|rfl|omega|fail) only[fN,aS,aW,bo,bp,reduceAdd,reduceMul,reduceLeDiff,reduceEqDiff,bw,hlen,ZY,Z1,t4,t6,l2,l3,Vs M])
 refine WL.inv T.mix (λn ts h'=>∃(k:Nat) (M':List (By×Bool)),k<=x.1.aI.length/\n=x.1.aI.length-k/\h' =Hm M'/\(∀w,gF M' w=decide (w∈S\/(x.1.name∈S/\w∈x.1.aI.take k)))/\
   ts.length=56/\slot ts 4=.ptr bb 0/\slot ts 6=.ptr xb 0/\slot ts 20=x.2/\slot ts 21=.i x.1.aI.length/\slot ts 22=.i k) x.1.aI.length
  ⟨0,M,Om,rfl,rfl,λw=>by rw[hM];simp,Sn,(Sq t4),(Sq t6),(Sq t6),(Sq t6),gP⟩ ?_
 clear t4 t6 hlen hM;clear M ts;rintro _ ts _ ⟨k,M,hk',rfl,rfl,hM,hlen,t4,t6,t20,t21,t22⟩;by_cases hlt:k<x.1.aI.length
 ·have e3:=eC hlt;have ix:=(a5 M).dE (kk:=.i64) hlt;have ld:aq none (cT x.2 1 k) (λb=>(Hm M)[b]?)=some (.str x.1.aI[k],.ay):=(a5 M).kg hlt rfl (Ext.refl _);have e5:=wrapN (n:=k) Om;have hnew:∀w,gF (r9 M x.1.aI[k] (gF M x.1.aI[k]||gF M x.1.name)) w=decide (w∈S\/(x.1.name∈S/\w∈x.1.aI.take (k+1))):=by
   intro w;rw[sf];have ht:x.1.aI.take (k+1)=x.1.aI.take k++[x.1.aI[k]]:=by rw[aao,ZH hlt];rfl
   rw[ht];by_cases hw:w=x.1.aI[k]
   ·rw[ZS hw,hM,hM,hw,<-Bool.decide_or,abd,ZK,ZW];constructor
    ·rintro((h1|h1)|(h1|h1))
     ·exact .inl h1
     ·exact .inr ⟨h1.1,.inl h1.2⟩
     ·exact .inr ⟨h1,.inr rfl⟩
     ·exact .inr ⟨h1.1,.inr rfl⟩
    ·rintro(h1|h1)
     ·exact .inl (.inl h1)
     ·exact .inr (.inl h1.1)
   ·rw[ZN hw,hM,abd,ZK,ZW];simp only[hw,abh]
  cases hb:gF M x.1.aI[k]with
  |true=>
   rw[hb,Bool.true_or]at hnew;exact Rd
  |false=>
   rw[hb,abO]at hnew;exact Rd
 ·have e3:=ff hlt;have e4:k=x.1.aI.length:=Om
  rw[e4,aam]at hM;refine Rs (A6 t4 t6 t20 t21 t22 e3) ?_;refine⟨M,rfl,λw=>?_⟩;rw[hM,abd];by_cases hx:x.1.name∈S<;>simp[hx]
end
def Po:cQ×AV:=(yp,.af)
def tQ(X:List (cQ×AV)):List (List AV):=(List.range X.length).map λj=>[.i ((X.length-1-j:Nat):Int),.agg (aP (X.getD (X.length-1-j) Po))]
def jo{X}:(tQ X).length=X.length:=by simp[tQ]
def tP{X j}(hj:j<(tQ X).length):(tQ X)[j]=[.i ((X.length-1-j:Nat):Int),.agg (aP (X[X.length-1-j]'(by rw[jo]at hj;omega)))]:=by
 have h1:X.length-1-j<X.length:=by rw[jo]at hj;omega
 simp only[tQ,aaN,List.getElem_range,aaf,ZH h1,abP]
structure qw(V:RV)(m:By)(cm cr:Nat)(k:ah):Prop where
 m:k[cm]? =some (.b [.str m])
 r:k[cr]? =some (.b V.row)
 o:aD k V
theorem qw.ext{V m cm cr k k'}(p:qw V m cm cr k)(e:Ext k k'):qw V m cm cr k':=⟨e.some p.m,e.some p.r,p.o.ext e⟩
def iS(V:RV)(m:By):List (cQ×AV):=V.ar.filter λx=>decide (x.1.name∈cp m V.an.ar.reverse)
def AE{m:By}{l:List cQ}{i:Nat}(hi:i<l.length):cp m (l.take (i+1))=(if l[i].name∈cp m (l.take i)then cp m (l.take i)++l[i].aI else cp m (l.take i)):=by
 rw[aao,ZH hi,cp,List.foldl_append];rfl
def AR{α:Type}{p:α->Bool}{l:List α}{k:Nat}(hk:k<l.length)(hp:p l[k]=true):∃h:((l.take k).filter p).length<(l.filter p).length,(l.filter p)[((l.take k).filter p).length]=l[k]:=by
 have e:l.filter p=(l.take k).filter p++(l[k]:: (l.drop (k+1)).filter p):=by
  conv=>lhs;rw[<-aa5 k l,abD hk,aaL,aaM,ZS hp]
 have h:((l.take k).filter p).length<(l.filter p).length:=by rw[e];simp
 refine⟨h,?_⟩;have:(l.filter p)[((l.take k).filter p).length]? =some l[k]:=by rw[e,ZP (ZO _)];simp
 exact(ZC.1 this).2
def Dh{α:Type}{p:α->Bool}{l:List α}{k:Nat}(hk:k<l.length):((l.take (k+1)).filter p).length=if p l[k]=true then((l.take k).filter p).length+1 else((l.take k).filter p).length:=by
 rw[aao,ZH hk,aaL,ZB];cases h:p l[k]<;>simp[h]
def Dz{N}:pO .dh N=some (.ptr N 0,.push (.b [.dh])):=rfl
def Lk{r N}:jI 1 0 (.map r) N (.b [.dh])=some (az,.set N (.b [.map r])):=rfl
section
variable {P:Program}(T:fy P) {h:ah}
include T
def r215{s}(o:s.one=true):aA P 215 [s] h (λv h'=>v=.func (.func 259) [] [.ptr h.length 0]/\h' =h++[.b [s]]):=by
 refine .of T.mix T.c215 ?_;unfold fn215 gA;exact Ws @o Tv
def AN{b s X}(hl:X.length<2^30):
  Iter P 259 [] [.ptr b 0] (tQ X) (λk=>k[b]? =some (.b [s])/\aH k s 4 (X.map aP)):=by
 refine⟨λl h1 J Dn hpre happ SW Ux h0=>du.of T.mix T.c259 ?_⟩;obtain⟨ts,Sv⟩:∃ts,ts=aT 19 ([]++[.func (.yield l) [] []]++[.ptr b 0]):=⟨_,rfl⟩;have hlen:ts.length=19:=by rw[Sv];rfl
 have t0:slot ts 0=.func (.yield l) [] []:=by rw[Sv];rfl
 have t1:slot ts 1=.ptr b 0:=by rw[Sv];rfl
 unfold fn259 gA;show WC P bN _ [] (aT 19 ([]++[.func (.yield l) [] []]++[.ptr b 0])) h1 _;rw[<-Sv];clear Sv;have p0:=hpre 0 h1 h0;have l0:∀{n o},aq n (.ptr b o) (λz=>h1[z]?)=dJ n o (.b [s]):=λ{_ _}=>aB p0.1
 have e0:IntKind.i64.wrap ((X.length:Int)-1)=(X.length:Int)-1-(0:Nat):=by rw[bj Om Om];omega
 refine Rs (A5 t0 t1 @l0 p0.2.aK e0) ?_;refine WL.inv T.mix (λn ts h'=>∃k:Nat,k<=X.length/\n=X.length-k/\J k h'/\ts.length=19/\slot ts 0=.func (.yield l) [] []/\slot ts 1=.ptr b 0/\slot ts 3=.i ((X.length:Int)-1-k)) X.length
  ⟨0,Om,rfl,h0,Sn,(Sq t0),(Sq t1),(Sq t0)⟩ ?_
 clear t0 t1 hlen l0 p0;clear ts;rintro _ ts h' ⟨k,hk,rfl,hJ,hlen,t0,t1,t3⟩;obtain⟨p1,p2⟩:=hpre _ _ hJ;have l0:∀{n o},aq n (.ptr b o) (λz=>h'[z]?)=dJ n o (.b [s]):=λ{_ _}=>aB p1
 by_cases hlt:k<X.length
 ·have hj:X.length-1-k<X.length:=Om
  have ei:(X.length:Int)-1-k=((X.length-1-k:Nat):Int):=Om
  have e3:decide ((0:Int)<=((X.length-1-k:Nat):Int))=true:=ZI Om;have ix:=p2.dE (kk:=.i64) hj;have ld:aq (some 4) (cT s 4 (X.length-1-k)) (λb=>h'[b]?)=some (.agg (aP X[X.length-1-k]),.ay):=p2.kf hj (Ext.refl _);have hwk:IntKind.i64.wrap (((X.length-1-k:Nat):Int)-1)=(X.length:Int)-1-((k+1:Nat):Int):=by rw[bj Om Om];omega
  rw[ei]at t3;refine Rs (A7 t0 t1 t3 @l0 e3 ix @ld) ?_;obtain⟨bb,k',q1,q2⟩:=SW k (by rw[jo];exact hlt) h' hJ;rw[tP]at q1;refine WF.Lc q1 ?_;cases bb with
  |true=>
   refine Rs (A5 t0 t1 t3 @Z7 @hwk) ?_;exact⟨_,Om,k+1,Om,rfl,q2,rfl⟩
  |false=>
   refine Rs (A4 t0 t1 t3 @aab) ?_;exact q2
 ·have e3:decide ((0:Int)<=(X.length:Int)-1-k)=false:=ZD Om;have e4:k=X.length:=Om
  refine Rs (A4 t0 t1 t3 e3) ?_;refine Ux h' ?_;rw[jo,<-e4];exact hJ
def r119{V}(o:aD h V)(m:By):aA P 119 [.agg V.row,.str m] h (λv h'=>v=.func (.func 214) [] [.ptr (h.length+1) 0,.ptr h.length 0]/\qw V m (h.length+1) h.length h'):=by
 refine .eP 6 T.mix T.c119 ?_;intro ts hlen t0 t1;unfold fn119 gA;have Su:=@aD.box _ _ o;have hl2:(h++[ak.b V.row]).length=h.length+1:=Si
 refine Rs (A3 t0 t1 @Su) ?_;rw[hl2];refine⟨rfl,?_,uB,o.ext Xx⟩;rw[<-hl2];exact aV
def rO{V:RV}(l:eO V)(hin:∀x∈V.ar,x.1.aI.length<2^30)(m:By)(cm cr:Nat):
  IterM P 214 [] [.ptr cm 0,.ptr cr 0] ((iS V m).map λx=>[.agg (aP x)]) (qw V m cm cr):=by
 refine⟨λlp h J Dn hpre happ SW Ux hlp p0 h0=>du.of T.mix T.c214 ?_⟩;obtain⟨ts,Sv⟩:∃ts,ts=aT 56 ([]++[.func (.yield lp) [] []]++[.ptr cm 0,.ptr cr 0]):=⟨_,rfl⟩;have hlen:ts.length=56:=by rw[Sv];rfl
 have t0:slot ts 0=.func (.yield lp) [] []:=by rw[Sv];rfl
 have t1:slot ts 1=.ptr cm 0:=by rw[Sv];rfl
 have t2:slot ts 2=.ptr cr 0:=by rw[Sv];rfl
 show WC P bN (fn214).body [] (aT 56 ([]++[.func (.yield lp) [] []]++[.ptr cm 0,.ptr cr 0])) h _;rw[<-Sv,Mh];clear Sv;obtain⟨RR,Tx⟩:∃RR,RR=Py:=⟨_,rfl⟩;obtain⟨RA,Ys⟩:∃RA,RA=Iy.EK:=⟨_,rfl⟩;obtain⟨RB,Yr⟩:∃RB,RB=Iy.D9:=⟨_,rfl⟩;rw[<-Tx,<-Ys,<-Yr];unfold E8 fn214 gA;simp only[ai.tl,ai.hd];have lm:=@eQ _ _ _ p0.m;have lr:=@eQ _ _ _ p0.r;have u0:oh .s (.map h.length) (.str m) (.bool true) (λz=>(h++[ak.aR []])[z]?)=some (az,.set h.length (.aR ([(m,true)].map dz))):=rG (M:=[]) aV;refine Rs (na t0 t1 t2 @lm @lr @eA @u0 @fx @Dz @Lk) ?_;refine WF.res T.c215 (r215 T p0.o.i3.one) ?_;rintro _ g1 ⟨rfl,hg⟩;have hg:=abq hg
 subst hg;refine Rs (A3 t0 t1 t2) ?_;have hlV:V.an.ar.length=V.ar.length:=by simp[RV.an]
 refine WC.iter T.mix T.c259 (a:=[]) (c:=[.ptr (h++[ak.aR (List.map dz [(m,true)])]++[ak.b [AV.map h.length]]).length 0]) (Sq t0) (AN T (s:=V.s3) (X:=V.ar) (by have:=l.l3;omega)) (λy hy=>by obtain⟨z,_,rfl⟩:=Z3.1 hy;rfl)
  (λi h' g=>∃M:List (By×Bool),h' =h++[ak.aR (M.map dz)]++[ak.b [AV.map h.length]]++[ak.b [V.s3]]/\∀w,gF M w=decide (w∈cp m (V.an.ar.reverse.take i))) (λ_ _ _=>False)
  ⟨[(m,true)],rfl,λw=>?_⟩ (λi h' g g' hI=>hI) (λi h' g X hl hI=>?_) (λi hi h' g R B SI hI=>?_) (λe h' g hl hI=>?_)
 ·show(if w=m then true else false)=decide (w∈[m]);by_cases hw:w=m<;>simp[hw]
 ·obtain⟨M,rfl,_⟩:=hI;refine⟨?_,p0.o.i3.ext Xx⟩;have e:(h++[ak.aR (List.map dz [(m,true)])]++[ak.b [AV.map h.length]]).length=(h++[ak.aR (M.map dz)]++[ak.b [AV.map h.length]]).length:=Si
  rw[e];exact xy
 ·obtain⟨M,rfl,hM⟩:=hI;have hi':i<V.ar.length:=by rw[<-jo];exact hi
  have hj:V.ar.length-1-i<V.ar.length:=Om
  rw[tP,Ys];have Tm:V.ar[V.ar.length-1-i]∈V.ar:=ZR _;have hxr:V.an.ar.reverse[i]'(by rw[abx];omega)=(V.ar[V.ar.length-1-i]).1:=by
   rw[List.getElem_reverse];simp only[RV.an,aaN,ZL]
  have hns:=AE (m:=m) (l:=V.an.ar.reverse) (i:=i) (by rw[abx];omega);rw[hxr]at hns;generalize V.ar[V.ar.length-1-i]=x at *;have ox:=p0.o.js.2.1 x Tm;unfold Iy E8 fn214 gA;simp only[ai.tl,ai.hd,ai.jE,ai.EK,setArgs,aP];refine Rs (A4 t0 t1 t2 @ox) ?_;refine⟨_,g++[ak.b [AV.str x.1.name,.str x.1.gives,.str x.1.line,x.2]],by rw[<-ZE],SI,?_⟩;have xin:=p0.o.e3 x Tm;rw[Yr];refine WC.zp (CN T (x:=x) (mb:=h.length) (bb:=(h++[ak.aR (List.map dz [(m,true)])]).length) (xb:=(h++[ak.aR (List.map dz M)]++[ak.b [AV.map h.length]]++[ak.b [V.s3]]++[R]++g).length)
   (Hm:=λM=>h++[ak.aR (List.map dz M)]++[ak.b [AV.map h.length]]++[ak.b [V.s3]]++[B]++(g++[ak.b (aP x)]))
   (λM=>uA) (λM=>?_) (λM'=>?_) (λM K=>?_) (λM=>xin.ext Xx) (hin x Tm) ?_ (Sq t0) (Sq t0) hM) ?_
  ·have eL:(h++[ak.aR (List.map dz [(m,true)])]).length=(h++[ak.aR (List.map dz M)]).length:=Si
   rw[eL];exact sR
  ·have eL:(h++[ak.aR (List.map dz M)]++[ak.b [AV.map h.length]]++[ak.b [V.s3]]++[B]++g).length=(h++[ak.aR (List.map dz M')]++[ak.b [AV.map h.length]]++[ak.b [V.s3]]++[B]++g).length:=Si
   rw[<-ZE];have eR:(h++[ak.aR (List.map dz M)]++[ak.b [AV.map h.length]]++[ak.b [V.s3]]++[R]++g).length=(h++[ak.aR (List.map dz M')]++[ak.b [AV.map h.length]]++[ak.b [V.s3]]++[B]++g).length:=Si
   rw[eR];exact aV
  ·exact BZ
  ·simp only[bw,hlen]
  ·rintro e _ _ ⟨rfl,M',rfl,hM'⟩;refine⟨_,_,rfl,Si,?_⟩;rw[ZS rfl];exact⟨M',rfl,λw=>by rw[hM',hns]⟩
 ·by_cases Th:e=.normal
  case neg=>rw[ZN Th]at hI;exact hI.elim
  subst Th;rw[ZS rfl]at hI;obtain⟨M,rfl,hM⟩:=hI;have hM:∀w,gF M w=decide (w∈cp m V.an.ar.reverse):=λw=>by
   rw[hM,aal (by rw[abx,jo,hlV];exact ZO _)]
  rw[Tx];obtain⟨K0,Xr⟩:∃K0,K0=h++[ak.aR (M.map dz)]++[ak.b [AV.map h.length]]++[ak.b [V.s3]]++[ak.dead]++g:=⟨_,rfl⟩;have eK:Ext h K0:=by rw[Xr];exact Xx
  have k1:K0[h.length]? =some (.aR (M.map dz)):=by rw[Xr];exact uA
  have k2:K0[(h++[ak.aR (List.map dz [(m,true)])]).length]? =some (.b [AV.map h.length]):=by
   have eL:(h++[ak.aR (List.map dz [(m,true)])]).length=(h++[ak.aR (List.map dz M)]).length:=Si
   rw[Xr,eL];exact sR
  have hJ0:J K0.length 0 K0:=by
   obtain⟨g',SV⟩:=eK;have:=h0 g'
   rwa [<-SV]at this
  have XG:(h++[ak.aR (List.map dz [(m,true)])]).length<K0.length:=by rw[Xr];simp only[ZB,ZG,ZJ];omega
  have hbb:(h++[ak.aR (List.map dz [(m,true)])]).length=h.length+1:=Si
  rw[<-Xr];generalize K0.length=mm at hJ0 XG;have lr0:∀{n o},aq n (.ptr cr o) (λz=>K0[z]?)=dJ n o (.b V.row):=λ{_ _}=>aB (eK.some p0.r)
  have hlm3:=λG=>p0.o.i3.aK G
  unfold Py fn214 gA;simp only[ai.tl];refine Rs (A6 t0 t1 t2 @lr0 @fx @hlm3) ?_;rw[hbb]at k2 XG;refine WL.inv T.mix (λn ts h'=>∃k:Nat,k<=V.ar.length/\n=V.ar.length-k/\J mm ((V.ar.take k).filter λx=>decide (x.1.name∈cp m V.an.ar.reverse)).length h'/\h'[h.length]? =some (.aR (M.map dz))/\h'[h.length+1]? =some (.b [AV.map h.length])/\
    ts.length=56/\slot ts 0=.func (.yield lp) [] []/\slot ts 4=.ptr (h.length+1) 0/\slot ts 39=V.s3/\slot ts 40=.i V.ar.length/\slot ts 41=.i k) V.ar.length
   ⟨0,Om,rfl,hJ0,k1,k2,Sn,(Sq t0),(Sq (A2 t0 @hbb)),(Sq t0),(Sq t0),gP⟩ ?_
  clear t0 t1 t2 hlen lr lm u0 lr0 hJ0 k1 k2 hlm3;clear ts;rintro _ ts h' ⟨k,hk,rfl,hJ,k1,k2,hlen,t0,t4,t39,t40,t41⟩;by_cases hlt:k<V.ar.length
  ·have p1:=hpre _ _ _ hJ;have Tm:V.ar[k]∈V.ar:=ZR _;have ix:=p1.o.i3.dE (kk:=.i64) hlt;have ld:aq (some 4) (cT V.s3 4 k) (λb=>h'[b]?)=some (.agg (aP V.ar[k]),.ay):=p1.o.i3.kf hlt (Ext.refl _);have ox:=p1.o.js.2.1 _ Tm;have e3:=eC hlt;have e5:IntKind.i64.wrap ((k:Int)+1)=((k+1:Nat):Int):=wrapN (by have:=l.l3;omega);have l2:∀{z n o},Ext h' z->aq n (.ptr (h.length+1) o) (λb=>z[b]?)=dJ n o (.b [AV.map h.length]):=λ{_ _ _} e=>aB (e.some k2)
   have lk:∀{C w},gZ .s (.bool false) false (.map h.length) (.str w) (λz=>(h'++[C])[z]?)=some (.bool (gF M w),.ay):=λ{C _}=>pI ((Ext.app [C] (Ext.refl h')).some k1)
   have hf:=AR (p:=λx:cQ×AV=>decide (x.1.name∈cp m V.an.ar.reverse)) hlt;have hs:=Dh (p:=λx:cQ×AV=>decide (x.1.name∈cp m V.an.ar.reverse)) hlt;have hMx:=hM V.ar[k].1.name;generalize V.ar[k]=x at *;unfold aP at ld;cases hb:gF M x.1.name with
   |true=>
    rw[hb]at hMx;obtain⟨VT,Vc⟩:=hf hMx.symm;refine Rs (Ad t0 t4 t39 t40 t41 ix @ld @ox e3 @l2 @bC @lk @hb) ?_;obtain⟨bb,k',q1,q2,q3⟩:=SW mm _ (by rw[ZL];exact VT) _ (happ _ _ _ [ak.b [AV.str x.1.name,.str x.1.gives,.str x.1.line,x.2]] hJ);rw[aaN]at q1;have hf2':(iS V m)[((V.ar.take k).filter λx=>decide (x.1.name∈cp m V.an.ar.reverse)).length]'VT=x:=Vc;have q1:fu P (.func (.yield lp) [] []) [AV.agg (aP x)] (h'++[ak.b [AV.str x.1.name,.str x.1.gives,.str x.1.line,x.2]]) (.bool bb) k':=by
     refine Eq.mp ?_ q1;congr 1;exact aai (λy=>[AV.agg (aP y)]) hf2'
    unfold aP at q1;refine WF.Lc q1 ?_;cases bb with
    |true=>
     refine Rs (A7 t0 t4 t39 t40 t41 @Z7 e5) ?_;have hlt1:=(ZC.1 k1).1;have TE:=(ZC.1 k2).1;refine⟨_,Om,k+1,Om,rfl,?_,?_,?_,rfl⟩
     ·rw[hs,<-hMx,ZS rfl];exact q3
     ·rw[q2 _ Om Om,ZF hlt1];exact k1
     ·rw[q2 _ Om Om,ZF TE];exact k2
    |false=>
     refine Rs (A6 t0 t4 t39 t40 t41 @aab) ?_;exact q3
   |false=>
    rw[hb]at hMx;refine Rs (xJ t0 t4 t39 t40 t41 ix @ld @ox e3 @l2 @bC @lk @hb e5) ?_;have hlt1:=(ZC.1 k1).1;have TE:=(ZC.1 k2).1;refine⟨_,Om,k+1,Om,rfl,?_,?_,?_,rfl⟩
    ·rw[hs,<-hMx,ZN De];exact happ _ _ _ _ hJ
    ·rw[ZF hlt1];exact k1
    ·rw[ZF TE];exact k2
  ·have e3:=ff hlt;have e4:k=V.ar.length:=Om
   rw[e4,aam]at hJ;refine Rs (A6 t0 t4 t39 t40 t41 e3) ?_;refine Ux mm h' ?_;rw[ZL];exact hJ
end
def Em:ai:=((fn122).body.tl.tl).hd
def Lt:ai:=Em.tl.jE
def Oz:ai:=(fn122).body.tl.tl.tl
def Lq:(fn122).body=.seq ((fn122).body.hd) (.seq ((fn122).body.tl.hd) (.seq (.seq Em.hd (.block 0 (.fW (.t 10) [11] Lt.EK Lt.D9))) Oz)):=rfl
def H4{r N}:jI 1 0 (.map r) N (.b [.dh])=some (az,.set N (.b [.map r])):=rfl
def pH{V m}:(iS V m).map Prod.fst=dP V.an m:=by
 rw[iS,dP];show _=List.filter _ (List.map Prod.fst V.ar);rw[abw];rfl
section
variable {P:Program}(T:fy P) {h:ah}
include T
def r217{x b c M}(hb:h[b]? =some (.b [.map c]))(hc:h[c]? =some (.aR (M.map dz))):aA P 217 [.agg (bV x),.ptr b 0] h (λv _=>v=.bool (gF M x.name)):=by
 refine .eP 8 T.mix T.c217 ?_;intro ts hlen t0 t1;unfold fn217 gA;have lb:∀{k:ah}{n':Option Nat}{a:Nat},Ext h k->aq n' (.ptr b a) (λz=>k[z]?)=dJ n' a (.b [.map c]):=λe=>aB (e.some hb)
 have lk:∀{C w},gZ .s (.bool false) false (.map c) (.str w) (λz=>(h++[C])[z]?)=some (.bool (gF M w),.ay):=λ{C _}=>pI ((Ext.app [C] (Ext.refl h)).some hc)
 unfold bV at t0;exact Rs (A5 t0 t1 @lb @bC @lk) Tv
def r122{V}(o:aD h V)(l:eO V)(hin:∀x∈V.ar,x.1.aI.length<2^30)(m:By):aA P 122 [.agg V.row,.str m] h (λv h'=>aH h' v 3 ((dV V.an m).map bV)):=by
 refine .of T.mix T.c122 ?_;obtain⟨ts,Sv⟩:∃ts,ts=aT 19 [.agg V.row,.str m]:=⟨_,rfl⟩;have hlen:ts.length=19:=by rw[Sv];rfl
 have t0:slot ts 0=.agg V.row:=by rw[Sv];rfl
 have t1:slot ts 1=.str m:=by rw[Sv];rfl
 show WC P bN (fn122).body [] (aT 19 [.agg V.row,.str m]) h _;rw[<-Sv,Lq];clear Sv;obtain⟨RR,Tx⟩:∃RR,RR=Oz:=⟨_,rfl⟩;obtain⟨RA,Ys⟩:∃RA,RA=Lt.EK:=⟨_,rfl⟩;obtain⟨RB,Yr⟩:∃RB,RB=Lt.D9:=⟨_,rfl⟩;rw[<-Tx,<-Ys,<-Yr];unfold Em fn122 gA;simp only[ai.tl,ai.hd];have Su:=@aD.box _ _ o;refine Rs (A6 t0 t1 @Su @Dz @H4 @aF) ?_;obtain⟨H0,WU⟩:∃H0,H0=h++[ak.b V.row]:=⟨_,rfl⟩;have e0:Ext h H0:=by rw[WU];exact Xx
 rw[<-WU];refine WF.res T.c119 (r119 T (o.ext (e0.trans Xx)) m) ?_;rintro _ g1 ⟨rfl,hp⟩;refine Rs (A2 t0 t1) ?_;obtain⟨cm,Xo⟩:∃cm,cm=(H0++[ak.aR []]++[ak.b [AV.map H0.length]]).length:=⟨_,rfl⟩;rw[<-Xo]at hp ⊢;have pmap:∀(M:List (By×Bool)) (Z:ah),qw V m (cm+1) cm (H0++[ak.aR (M.map dz)]++[ak.b [AV.map H0.length]]++g1++Z):=by
  intro M Z;have hne:∀b,b≠H0.length->(H0++[ak.aR (M.map dz)]++[ak.b [AV.map H0.length]]++g1)[b]? =(H0++[ak.aR []]++[ak.b [AV.map H0.length]]++g1)[b]? :=λb hb=>by
   have:=qQ (A:=H0) (B:=[ak.b [AV.map H0.length]]++g1) (K:=ak.aR (M.map dz)) (K':=ak.aR []) (b:=b) hb
   simpa only[ZE]using this
  have hcl:cm=H0.length+2:=by rw[Xo];simp
  refine qw.ext ⟨(hne _ Om).trans hp.m,(hne _ Om).trans hp.r,(o.ext e0).ext Xx⟩ (Ext.app Z (Ext.refl _))
 refine WC.iterM T.mix T.c214 (a:=[]) (c:=[.ptr (cm+1) 0,.ptr cm 0]) (Sq t0) (rO T l hin m (cm+1) cm) (λy hy=>by obtain⟨z,_,rfl⟩:=Z3.1 hy;rfl)
  (λmm i h' g=>∃M:List (By×Bool),h' =H0++[ak.aR (M.map dz)]++[ak.b [AV.map H0.length]]++g1/\mm<=h'.length+1+g.length/\∀w,gF M w=decide (w∈((iS V m).take i).map λx=>x.1.line)) (λ_ _ _=>False)
  (λg=>⟨[],rfl,ZO _,λw=>rfl⟩) (λmm i h' g g' hI=>by obtain⟨M,a1,a2,a3⟩:=hI;exact⟨M,a1,by rw[ZB];omega,a3⟩) (λX=>pmap [] [X]) (λmm i h' g X hl hI=>?_) (λmm i hi h' g R B SI hI=>?_) (λe h' g hl hI=>?_)
 ·obtain⟨M,rfl,_⟩:=hI;rw[ZE (H0++[ak.aR (M.map dz)]++[ak.b [AV.map H0.length]]++g1)];exact pmap M _
 ·obtain⟨M,rfl,XG,hM⟩:=hI;have hi':i<(iS V m).length:=by simpa using hi
  rw[aaN,Ys,Yr];have Tm:(iS V m)[i]∈V.ar:=(aaq.1 (ZR hi')).1;have SU:((iS V m).take (i+1)).map (λx=>x.1.line)=((iS V m).take i).map (λx=>x.1.line)++[(iS V m)[i].1.line]:=by
   rw[aao,ZH hi',ZM];rfl
  generalize (iS V m)[i]=x at *;have ox:=o.js.2.1 x Tm;have eL:∀K:List (By×Bool),(H0++[ak.aR (K.map dz)]).length=(H0++[ak.aR []]).length:=λK=>by simp
  have u0:∀{Z Y:ah},oh .s (.map H0.length) (.str x.1.line) (.bool true) (λz=>(H0++[ak.aR (M.map dz)]++[ak.b [AV.map H0.length]]++g1++[B]++Z++Y)[z]?)=some (az,.set H0.length (.aR ((r9 M x.1.line true).map dz))):=λ{Z Y}=>rG DK
  have lb:∀{Z Y:ah}{n a},aq n (.ptr (H0++[ak.aR []]).length a) (λz=>(H0++[ak.aR (M.map dz)]++[ak.b [AV.map H0.length]]++g1++[B]++Z++Y)[z]?)=dJ n a (.b [.map H0.length]):=λ{Z Y _ _}=>by
   rw[<-eL M];exact aB uA
  have lx:∀{n a},aq n (.ptr (H0++[ak.aR (M.map dz)]++[ak.b [AV.map H0.length]]++g1++[R]++g).length a) (λz=>(H0++[ak.aR (M.map dz)]++[ak.b [AV.map H0.length]]++g1++[B]++g++[ak.b [AV.str x.1.name,.str x.1.gives,.str x.1.line,x.2]])[z]?)=dJ n a (.b [AV.str x.1.name,.str x.1.gives,.str x.1.line,x.2]):=λ{_ _}=>by
   have:(H0++[ak.aR (M.map dz)]++[ak.b [AV.map H0.length]]++g1++[R]++g).length=(H0++[ak.aR (M.map dz)]++[ak.b [AV.map H0.length]]++g1++[B]++g).length:=Si
   rw[this];exact aB aV
  unfold Lt Em fn122 gA;simp only[ai.tl,ai.hd,ai.jE,ai.EK,ai.D9,setArgs,aP];refine Rs (A3 t0 t1 @ox) ?_;refine⟨_,g++[ak.b [AV.str x.1.name,.str x.1.gives,.str x.1.line,x.2]],by rw[<-ZE],SI,?_⟩;rw[<-ZE];refine Rs (A7 t0 t1 @ox @lb @lx @eA @u0) ?_;refine⟨_,g++[ak.b [AV.str x.1.name,.str x.1.gives,.str x.1.line,x.2]],by rw[<-ZE],Si,λy hy=>ZF ?_,_,rfl,?_,λw=>?_⟩
  ·simp only[ZB,ZG,ZJ]at hy XG;omega
  ·simp only[ZB,ZG,ZJ]at XG ⊢;omega
  ·rw[sf,SU];by_cases hw:w=x.1.line
   ·rw[ZS hw];simp[hw]
   ·rw[ZN hw,hM];simp[hw]
 ·by_cases Th:e=.normal
  case neg=>rw[ZN Th]at hI;exact hI.elim
  subst Th;rw[ZS rfl]at hI;obtain⟨mm,M,rfl,_,hM⟩:=hI;rw[ZL,aam]at hM;rw[Tx];have eL:(H0++[ak.aR (M.map dz)]).length=(H0++[ak.aR []]).length:=Si
  obtain⟨K0,Xr⟩:∃K0,K0=H0++[ak.aR (M.map dz)]++[ak.b [AV.map H0.length]]++g1++[ak.dead]++g:=⟨_,rfl⟩;have eK:Ext H0 K0:=by rw[Xr];exact Xx
  have k1:K0[H0.length]? =some (.aR (M.map dz)):=by rw[Xr];exact uA
  have k2:K0[(H0++[ak.aR []]).length]? =some (.b [AV.map H0.length]):=by
   rw[Xr,<-eL];exact sR
  rw[<-Xr];have lr:∀{k n a},Ext K0 k->aq n (.ptr h.length a) (λz=>k[z]?)=dJ n a (.b V.row):=λ{_ _ _} e=>aB ((eK.trans e).some (by rw[WU];exact aV))
  unfold Oz fn122 gA;simp only[ai.tl];refine Rs (A4 t0 t1 @lr @fR) ?_;refine WF.res T.c216 (r216 T (o.i0.ext (e0.trans (eK.trans Xx))) (by have:=l.l0;omega) (λx=>gF M x.name) (λx hx k e=>bE.of (a:=[]) (c:=[.ptr (H0++[ak.aR []]).length 0]) T.c217 (r217 T (e.some k2) (e.some k1)))) ?_;rintro s1 g2 hf;have eh:=e0.trans eK;have es:V.lines.filter (λx=>gF M x.name)=dV V.an m:=by
   refine abH λx _=>?_
   rw[hM,<-pH,abj];rfl
  rw[es]at hf;have:=hf.aX;refine Rs (A2 t0 t1) ?_;exact⟨Ext.app _ eh,this⟩
end
def gf(x:Nat×Bool):List AV:=[.i (x.1:Int),.bool x.2]
def kh:Kd->AV
 |.eV=>.nilFunc
 |.line=>.func (.func 148) [] []
 |.tape=>.func (.func 151) [] []
 |.gp=>.func (.func 155) [] []
 |.copy=>.func (.func 157) [] []
 |.accept=>.func (.func 159) [] []
 |.source=>.func (.func 161) [] []
 |.gg=>.func (.func 163) [] []
 |.merge=>.func (.func 165) [] []
 |.run=>.func (.func 167) [] []
 |.fT=>.func (.func 169) [] []
 |.fail=>.func (.func 171) [] []
 |.gE=>.func (.func 173) [] []
 |.rel=>.func (.func 175) [] []
def pK:Kd->AV
 |.eV=>.nilFunc
 |.line=>.func (.func 149) [] []
 |.tape=>.func (.func 152) [] []
 |.gp=>.func (.func 156) [] []
 |.copy=>.func (.func 158) [] []
 |.accept=>.func (.func 160) [] []
 |.source=>.func (.func 162) [] []
 |.gg=>.func (.func 164) [] []
 |.merge=>.func (.func 166) [] []
 |.run=>.func (.func 168) [] []
 |.fT=>.func (.func 170) [] []
 |.fail=>.func (.func 172) [] []
 |.gE=>.func (.func 174) [] []
 |.rel=>.func (.func 176) [] []
def Fl:Kd->Option Nat
 |.eV=>none
 |.line=>some 0
 |.tape=>some 3
 |.gp=>some 1
 |.copy=>some 3
 |.accept=>some 0
 |.source=>some 1
 |.gg=>none
 |.merge=>none
 |.run=>none
 |.fT=>none
 |.fail=>none
 |.gE=>none
 |.rel=>none
def yM(h:ah)(d:Kd)(v:AV):Prop:=
 match Fl d with
 |none=>v=.nilFunc
 |some 3=>v=.func (.func 153) [] []
 |some i=>∃b,v=.func (.func 240) [] [.ptr b 0]/\h[b]? =some (.b [.i (i:Int)])
structure Bt(h:ah)(d:Kd)(v:AV):Prop where
 ex:∃rs a,v=.agg [rs,.i (cD d:Int),kh d,pK d,a]/\aH h rs 2 ((bJ d).map gf)/\a.one=true/\yM h d a
def PM(vf:Kd->AV):List (AV×AV):=Ha.map λd=>(.str (bz d),vf d)
structure uQ(h:ah)(r:Nat)(vf:Kd->AV):Prop where
 m:h[r]? =some (.aR (PM vf))
 k:∀d,Bt h d (vf d)
theorem zD{vf:Kd->AV}{k:By}:∀{L:List Kd},hO .s (.str k) (L.map λd=>(AV.str (bz d),vf d))=some ((L.find? λd=>bz d==k).map vf)
 |[]=>rfl
 |d::L=>by
  rw[aar,List.find?_cons];by_cases hk:k=bz d
  ·subst hk;simp only[hO,cY,BEq.rfl,abv]
  ·have h1:(k==bz d)=false:=by simp[hk]
   have h2:(bz d==k)=false:=by simp[aa3 hk]
   simp only[hO,cY,h1,h2];exact zD
def uQ.look{h:ah}{r:Nat}{vf:Kd->AV}(o:uQ h r vf){z:AV}{ok:Bool}{k:By}:gZ .s z ok (.map r) (.str k) (λb=>h[b]?)=lQ z ok ((gU k).map vf):=oA o.m zD
def HG(h g:ah)(s:AV)(rs:List (Nat×Bool)):Prop:=∀X,aH (h++[X]++g) s 2 (rs.map gf)
theorem HG.app{h g s rs}(o:HG h g s rs)(g':ah):HG h (g++g') s rs:=λX=>by rw[<-ZE];exact(o X).app g'
def Ss(h g:ah)(b:Nat)(i:Int):Prop:=∀X,(h++[X]++g)[b]? =some (ak.b [.i i])
theorem yM.app{h d v}(o:yM h d v)(g:ah):yM (h++g) d v:=by
 unfold yM at *;split at o
 ·exact o
 ·exact o
 ·obtain⟨b,h1,h2⟩:=o;exact⟨b,h1,(Ext.app g (Ext.refl _)).some h2⟩
theorem Bt.app{h d v}(o:Bt h d v)(g:ah):Bt (h++g) d v:=by
 obtain⟨rs,a,e,hs,ha,hb⟩:=o.ex;exact⟨rs,a,e,hs.app g,ha,hb.app g⟩
def lR(ds:List Kd)(vf:Kd->AV):List (AV×AV):=ds.map λd=>(.str (bz d),vf d)
def Fk(vf:Kd->AV)(d:Kd)(v:AV):Kd->AV:=λx=>if x=d then v else vf x
def Bz(a:Nat)(F:List (Nat×AV)):Bool:=decide (a<56)&&decide (a≠1)&&F.all λp=>decide (p.1≠a)
structure sG(h:ah)(ts:TS)(g:ah)(ds:List Kd)(vf:Kd->AV)(F:List (Nat×AV)):Prop where
 l:ts.length=56
 m:slot ts 1=.map h.length
 f:∀p∈F,slot ts p.1=p.2
 e:∀d∈ds,∀X,Bt (h++[X]++g) d (vf d)
def sG.put{h ts g ds vf F}(s:sG h ts g ds vf F){a v}(g':ah)(hc:Bz a F=true):sG h (ts.set a v) (g++g') ds vf ((a,v)::F):=by
 simp only[Bz,aad,aah,aae]at hc;have hl:a+1<=ts.length:=by rw[s.l];omega
 refine⟨by simp only[bw,s.l],by simp only[bw,aa9 hc.1.2,s.m],λp hp=>?_,λd hd X=>?_⟩
 ·rcases aag.1 hp with rfl|hp
  ·simp only[bw,hl]
  ·simp only[bw,aa9 (λe=>hc.2 p hp (Eq.symm e)),s.f p hp]
 ·rw[<-ZE];exact(s.e d hd X).app g'
theorem BI{vf k v}:∀{ds},ds.all (λx=>!(bz x==k))=true->mL .s (.str k) v (lR ds vf)=some (lR ds vf++[(.str k,v)])
 |[],_=>rfl
 |d::ds,hd=>by
  rw[abc,aad]at hd;have h2:(bz d==k)=false:=by simpa using hd.1
  have h3:¬bz d=k:=by simpa using hd.1
  have h1:(k==bz d)=false:=by simp[aa3 h3]
  have:=BI (vf:=vf) (v:=v) hd.2;unfold lR at *;simp only[aar,mL,cY,h1,h2,this,abv,aaS]
def iP:AV.one .nilFunc=true:=rfl
section
variable {P:Program}(T:fy P) {h:ah}
include T
def r147(t:Int):aA P 147 [.i t] h (λv _=>v=.agg [.i t,.bool false]):=by
 refine .of T.mix T.c147 ?_;unfold fn147 gA;exact Wn Tv
def r154(t:Int):aA P 154 [.i t] h (λv _=>v=.agg [.i t,.bool true]):=by
 refine .of T.mix T.c154 ?_;unfold fn154 gA;exact Wn Tv
def r150(i:Int):aA P 150 [.i i] h (λv h'=>v=.func (.func 240) [] [.ptr h.length 0]/\h' =h++[.b [.i i]]):=by
 refine .of T.mix T.c150 ?_;unfold fn150 gA;exact Wn Tv
section
variable {ks:List Kt}{ts:TS}{Q:Ex->TS->ah->Prop}{g:ah}{ds:List Kd}{vf:Kd->AV}{F:List (Nat×AV)}{a:Nat}{l:List bL}
def jN{t}(s:sG h ts g ds vf F)(hc:Bz a F=true)(K:∀ts' g',sG h ts' (g++g') ds vf ((a,.agg [.i t,.bool false])::F)->WP P bN l ks ts' (h++[.aR (lR ds vf)]++(g++g')) Q):
  WP P bN (.c a 147 [.c (.i t)]::l) ks ts (h++[.aR (lR ds vf)]++g) Q:=by
 refine Wn ?_;refine WF.ce T.c147 (r147 T t) λg1=>?_
 exact z159
def jM{t}(s:sG h ts g ds vf F)(hc:Bz a F=true)(K:∀ts' g',sG h ts' (g++g') ds vf ((a,.agg [.i t,.bool true])::F)->WP P bN l ks ts' (h++[.aR (lR ds vf)]++(g++g')) Q):
  WP P bN (.c a 154 [.c (.i t)]::l) ks ts (h++[.aR (lR ds vf)]++g) Q:=by
 refine Wn ?_;refine WF.ce T.c154 (r154 T t) λg1=>?_
 exact z159
def Fm{t}(s:sG h ts g ds vf F)(hc:Bz a F=true)(K:∀ts' g' b,sG h ts' (g++g') ds vf ((a,.func (.func 240) [] [.ptr b 0])::F)->Ss h (g++g') b t->WP P bN l ks ts' (h++[.aR (lR ds vf)]++(g++g')) Q):
  WP P bN (.c a 150 [.c (.i t)]::l) ks ts (h++[.aR (lR ds vf)]++g) Q:=by
 refine Wn ?_;refine WF.res T.c150 (r150 T t) ?_;rintro _ g1 ⟨rfl,hg⟩;have hg:=abq hg;subst hg;rw[ZE (h++[ak.aR (lR ds vf)]) g];refine K _ _ _ (s.put _ hc) λX=>?_
 have e:(h++[ak.aR (lR ds vf)]++g).length=(h++[X]++g).length:=Si
 rw[e,<-ZE];exact aV
theorem C6{N}(s:sG h ts g ds vf F)(hc:Bz a []=true){n xs}(hN:N=(h++[ak.aR (lR ds vf)]++g).length)(hn:xs.length=n)(K:∀ts' g' s,sG h ts' (g++g') ds vf [(a,s)]->HG h (g++g') s xs->WP P bN l ks ts' (h++[.aR (lR ds vf)]++(g++g')) Q):
  WP P bN l ks (ts.set a (.slice N 0 n 2)) (h++[.aR (lR ds vf)]++g++[.cells (xs.map gf).flatten true true]) Q:=by
 subst hN;subst hn;rw[ZE (h++[ak.aR (lR ds vf)]) g];have s0:sG h ts g ds vf []:=⟨s.l,s.m,λ_ hp=>(by cases hp),s.e⟩;refine K _ _ _ (s0.put _ hc) λX=>?_
 have e:(h++[ak.aR (lR ds vf)]++g).length=(h++[X]++g).length:=Si
 rw[e,<-ZE];have:=(Fr.push (N:=0) (h:=h++[X]++g) (aac _) (xs.map gf) (es:=2) (by intro c hc;obtain⟨x,_,rfl⟩:=Z3.1 hc;rfl)).aX
 rwa [ZL]at this
def tF{a0 x0}(s:sG h ts g ds vf [(a0,.agg (gf x0))])(hc:Bz a []=true)(K:∀ts' g' s,sG h ts' (g++g') ds vf [(a,s)]->HG h (g++g') s [x0]->WP P bN l ks ts' (h++[.aR (lR ds vf)]++(g++g')) Q):
  WP P bN (.o a (.ba 2 1 [.i 0,.bool false] [(0,.t a0)])::l) ks ts (h++[.aR (lR ds vf)]++g) Q:=by
 have s0:slot ts a0=.agg [.i (x0.1:Int),.bool x0.2]:=s.f (a0,.agg (gf x0)) Si;refine Ws @s0 ?_;exact C6 T s hc rfl rfl K
def wm{a0 a1 x0 x1}(s:sG h ts g ds vf [(a1,.agg (gf x1)),(a0,.agg (gf x0))])(hc:Bz a []=true)(K:∀ts' g' s,sG h ts' (g++g') ds vf [(a,s)]->HG h (g++g') s [x0,x1]->WP P bN l ks ts' (h++[.aR (lR ds vf)]++(g++g')) Q):
  WP P bN (.o a (.ba 2 2 [.i 0,.bool false] [(0,.t a0),(2,.t a1)])::l) ks ts (h++[.aR (lR ds vf)]++g) Q:=by
 have s0:slot ts a0=.agg [.i (x0.1:Int),.bool x0.2]:=s.f (a0,.agg (gf x0)) Si;have s1:slot ts a1=.agg [.i (x1.1:Int),.bool x1.2]:=s.f (a1,.agg (gf x1)) Si;refine Ws (A2 @s0 @s1) ?_;exact C6 T s hc rfl rfl K
def Hd{a0 a1 a2 x0 x1 x2}(s:sG h ts g ds vf [(a2,.agg (gf x2)),(a1,.agg (gf x1)),(a0,.agg (gf x0))])(hc:Bz a []=true)(K:∀ts' g' s,sG h ts' (g++g') ds vf [(a,s)]->HG h (g++g') s [x0,x1,x2]->WP P bN l ks ts' (h++[.aR (lR ds vf)]++(g++g')) Q):
  WP P bN (.o a (.ba 2 3 [.i 0,.bool false] [(0,.t a0),(2,.t a1),(4,.t a2)])::l) ks ts (h++[.aR (lR ds vf)]++g) Q:=by
 have s0:slot ts a0=.agg [.i (x0.1:Int),.bool x0.2]:=s.f (a0,.agg (gf x0)) Si;have s1:slot ts a1=.agg [.i (x1.1:Int),.bool x1.2]:=s.f (a1,.agg (gf x1)) Si;have s2:slot ts a2=.agg [.i (x2.1:Int),.bool x2.2]:=s.f (a2,.agg (gf x2)) Si;refine Ws (A3 @s0 @s1 @s2) ?_;exact C6 T s hc rfl rfl K
theorem MC{v}:WP P bN [.o a (.cg (.c v))] ks ts h Q=WE P bN .normal ks (ts.set a v) h Q:=by
 unfold bL.o;rw[DZ,DX,yS,p9]
theorem MD:WP P bN (.o a .lu::l) ks ts h Q=WP P bN l ks (ts.set a (.map h.length)) (h++[.aR []]) Q:=xB
theorem Hc{z ps v}(d:Kd)(s:sG h ts g ds vf F)(hc:Bz a []=true)(hd:ds.all (λx=>!(bz x==bz d))=true)
  (hv:rZ (eT z (ps.map λp=>(p.1,p.2.1,val ts p.2.2)))=some v) (ok:∀X,Bt (h++[X]++g) d v)
  (K:∀ts',sG h ts' g (ds++[d]) (Fk vf d v) []->WP P bN l ks ts' (h++[.aR (lR (ds++[d]) (Fk vf d v))]++g) Q):
  WP P bN (.o a (.build z ps):: .x (.fj .s (.t 1) (.c (.str (bz d))) (.t a))::l) ks ts (h++[.aR (lR ds vf)]++g) Q:=by
 have e1:oh .s (.map h.length) (.str (bz d)) v (λb=>(h++[ak.aR (lR ds vf)]++g)[b]?)=some (az,.set h.length (.aR (lR ds vf++[(.str (bz d),v)]))):=qL uB (BI hd);have hn:∀x∈ds,x≠d:=λx hx e=>by
  have:=aae.1 hd x hx;rw[e]at this;simp at this
 have eL:lR ds vf++[(.str (bz d),v)]=lR (ds++[d]) (Fk vf d v):=by
  unfold lR;rw[ZM,List.map_singleton,Fk,ZS rfl];exact aai (· ++_) (List.map_congr_left λx hx=>by rw[Fk,ZN (hn x hx)])
 unfold bL.o bL.x;rw[sC,hv,uG,uL];simp only[Bz,aad,aah]at hc;have hl:a+1<=ts.length:=by rw[s.l];omega
 have e2:val (put ts (some a) v) (.t 1)=.map h.length:=by
  simp only[p9,uZ,bw,aa9 hc.1.2,s.m]
 have e3:val (put ts (some a) v) (.t a)=v:=by simp only[p9,uZ,bw,hl]
 rw[eA,e2,e3,yS,e1,sj,Cz,p9];have e4:(h++[ak.aR (lR ds vf)]++g).set h.length (.aR (lR ds vf++[(.str (bz d),v)]))=h++[.aR (lR ds vf++[(.str (bz d),v)])]++g:=y6;rw[e4,eL];refine K _ ⟨by simp only[bw,s.l],by simp only[bw,aa9 hc.1.2,s.m],λ_ hp=>(by cases hp),λx hx X=>?_⟩;rcases ZK.1 hx with hx|hx
 ·rw[Fk,ZN (hn x hx)];exact s.e x hx X
 ·rw[ZW.1 hx,Fk,ZS rfl];exact ok X
def pL{i f2 f3 n x4 r a4}(d:Kd)(s:sG h ts g ds vf F)(hc:Bz a []=true)(hd:ds.all (λx=>!(bz x==bz d))=true)(hi:(i,r)∈F)(hb:HG h g r (bJ d))(h4:val ts x4=a4)(o4:a4.one=true)(b4:∀X,yM (h++[X]++g) d a4)
  (hn:(cD d:Int)=n) (h2:kh d=.func (.func f2) [] []) (h3:pK d=.func (.func f3) [] [])
  (K:∀ts',sG h ts' g (ds++[d]) (Fk vf d (.agg [r,.i n,kh d,pK d,a4])) []->WP P bN l ks ts' (h++[.aR (lR (ds++[d]) (Fk vf d (.agg [r,.i n,kh d,pK d,a4])))]++g) Q):
  WP P bN (.o a (.build [.af,.i 0,.nilFunc,.nilFunc,.nilFunc] [(0,1,.t i),(1,1,.c (.i n)),(2,1,.f f2),(3,1,.f f3),(4,1,x4)]):: .x (.fj .s (.t 1) (.c (.str (bz d))) (.t a))::l) ks ts (h++[.aR (lR ds vf)]++g) Q:=by
 have s0:slot ts i=r:=s.f (i,r) hi;have o0:r.one=true:=(hb (.aR [])).one;refine Hc T d s hc hd ?_ (λX=>⟨r,a4,by rw[hn],hb X,o4,b4 X⟩) K;exact Ws (A6 @s0 @h4 @o0 @o4 @h2 @h3) Tv
end
def r90:aA P 90 [] h (λv h'=>∃vf,v=.map h.length/\uQ h' h.length vf):=by
 refine .R4 56 T.mix T.c90 ?_;intro ts hlen;unfold fn90;have m0:slot ((ts.set 0 AV.dh).set 1 (.map h.length)) 1=.map h.length:=by simp only[bw,hlen,reduceAdd,reduceLeDiff]
 have l0:((ts.set 0 AV.dh).set 1 (.map h.length)).length=56:=by simp only[bw,hlen]
 dsimp only[ai.j,ai.s,ai.r];rw[sD,sE,MC T,uN,sD,sE,MD T];rw[<-Z6 (h++[ak.aR []])];generalize (ts.set 0 AV.dh).set 1 (.map h.length)=ts at *;clear hlen;have s:sG h ts [] [] (λ_=>az) []:=⟨l0,m0,λ_ hp=>(by cases hp),λ_ hd=>(by cases hd)⟩;clear l0 m0;refine Hc T .eV s rfl rfl (v:=.agg [.af,.i 0,.nilFunc,.nilFunc,.nilFunc]) rfl (λX=>⟨_,_,rfl,.nil,rfl,rfl⟩) ?_;intro ts s;refine jN T (t:=0) s rfl ?_;intro ts g s;refine tF T (x0:=(0,false)) s rfl ?_;intro ts g r s b;refine Fm T (t:=0) s rfl ?_;intro ts g p s c;refine pL T .line s rfl rfl (by simp only[aag,true_or,or_true]) (b.app g) (s.f (_,_) (aan ..)) rfl (λX=>⟨p,rfl,c X⟩) rfl rfl rfl ?_
 intro ts s;refine jN T (t:=1) s rfl ?_;intro ts g s;refine tF T (x0:=(1,false)) s rfl ?_;intro ts g r s b;refine pL T .tape s rfl rfl (aan ..) b rfl rfl (λ_=>rfl) rfl rfl rfl ?_;intro ts s;refine jN T (t:=2) s rfl ?_;intro ts g s;refine jM T (t:=0) s rfl ?_;intro ts g s;refine jM T (t:=1) s rfl ?_;intro ts g s;refine Hd T (x0:=(2,false)) (x1:=(0,true)) (x2:=(1,true)) s rfl ?_;intro ts g r s b;refine Fm T (t:=1) s rfl ?_;intro ts g p s c;refine pL T .gp s rfl rfl (by simp only[aag,true_or,or_true]) (b.app g) (s.f (_,_) (aan ..)) rfl (λX=>⟨p,rfl,c X⟩) rfl rfl rfl ?_;intro ts s;refine jM T (t:=1) s rfl ?_
 intro ts g s;refine jM T (t:=1) s rfl ?_;intro ts g s;refine wm T (x0:=(1,true)) (x1:=(1,true)) s rfl ?_;intro ts g r s b;refine pL T .copy s rfl rfl (aan ..) b rfl rfl (λ_=>rfl) rfl rfl rfl ?_;intro ts s;refine jM T (t:=0) s rfl ?_;intro ts g s;refine tF T (x0:=(0,true)) s rfl ?_;intro ts g r s b;refine Fm T (t:=0) s rfl ?_;intro ts g p s c;refine pL T .accept s rfl rfl (by simp only[aag,true_or,or_true]) (b.app g) (s.f (_,_) (aan ..)) rfl (λX=>⟨p,rfl,c X⟩) rfl rfl rfl ?_;intro ts s;refine jN T (t:=3) s rfl ?_;intro ts g s;refine jM T (t:=0) s rfl ?_;intro ts g s;refine wm T (x0:=(3,false)) (x1:=(0,true)) s rfl ?_
 intro ts g r s b;refine Fm T (t:=1) s rfl ?_;intro ts g p s c;refine pL T .source s rfl rfl (by simp only[aag,true_or,or_true]) (b.app g) (s.f (_,_) (aan ..)) rfl (λX=>⟨p,rfl,c X⟩) rfl rfl rfl ?_;intro ts s;refine jN T (t:=3) s rfl ?_;intro ts g s;refine jM T (t:=3) s rfl ?_;intro ts g s;refine wm T (x0:=(3,false)) (x1:=(3,true)) s rfl ?_;intro ts g r s b;refine pL T .gg s rfl rfl (aan ..) b rfl rfl (λ_=>rfl) rfl rfl rfl ?_;intro ts s;refine jN T (t:=3) s rfl ?_;intro ts g s;refine jM T (t:=3) s rfl ?_;intro ts g s;refine jM T (t:=3) s rfl ?_;intro ts g s;refine Hd T (x0:=(3,false)) (x1:=(3,true)) (x2:=(3,true)) s rfl ?_
 intro ts g r s b;refine pL T .merge s rfl rfl (aan ..) b rfl rfl (λ_=>rfl) rfl rfl rfl ?_;intro ts s;refine jN T (t:=4) s rfl ?_;intro ts g s;refine jM T (t:=3) s rfl ?_;intro ts g s;refine wm T (x0:=(4,false)) (x1:=(3,true)) s rfl ?_;intro ts g r s b;refine pL T .run s rfl rfl (aan ..) b rfl rfl (λ_=>rfl) rfl rfl rfl ?_;intro ts s;refine jM T (t:=4) s rfl ?_;intro ts g s;refine tF T (x0:=(4,true)) s rfl ?_;intro ts g r s b;refine pL T .fT s rfl rfl (aan ..) b rfl rfl (λ_=>rfl) rfl rfl rfl ?_;intro ts s;refine jM T (t:=4) s rfl ?_;intro ts g s;refine tF T (x0:=(4,true)) s rfl ?_;intro ts g r s b
 refine pL T .fail s rfl rfl (aan ..) b rfl rfl (λ_=>rfl) rfl rfl rfl ?_;intro ts s;refine jN T (t:=5) s rfl ?_;intro ts g s;refine jM T (t:=4) s rfl ?_;intro ts g s;refine wm T (x0:=(5,false)) (x1:=(4,true)) s rfl ?_;intro ts g r s b;refine pL T .gE s rfl rfl (aan ..) b rfl rfl (λ_=>rfl) rfl rfl rfl ?_;intro ts s;refine jM T (t:=5) s rfl ?_;intro ts g s;refine tF T (x0:=(5,true)) s rfl ?_;intro ts g r s b;refine pL T .rel s rfl rfl (aan ..) b rfl rfl (λ_=>rfl) rfl rfl rfl ?_;intro ts s;have hlen:=s.l;have t1:=s.m;refine Rs t1 ?_;exact⟨_,uB,λd=>s.e d (by cases d<;>decide) _⟩
end
end Go.Abs
