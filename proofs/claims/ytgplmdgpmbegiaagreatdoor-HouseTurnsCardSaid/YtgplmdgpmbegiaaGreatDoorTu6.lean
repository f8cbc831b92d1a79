/- A part of the proof that HouseTurns holds. No condition. -/
import Derived.Test.YtgplmdgpmbegiaaGreatDoorTu4
import Derived.Test.YtgplmdgpmbegiaaGreatDoorTu0
set_option maxHeartbeats 4000000
set_option linter.all false
open Nat (reduceAdd reduceMul reduceLeDiff reduceEqDiff)
namespace Go.Abs
def dX:
  (∀{b o:Nat}{n:Option Nat}{X:ah}{K:ak}(_:b=X.length),ao n (.ptr b o) (λz=>(X++[K])[z]?)=dG n o K)/\
  (∀{b o:Nat}{n:Option Nat}{X a:ah}(_:b<X.length),ao n (.ptr b o) (λz=>(X++a)[z]?)=ao n (.ptr b o) (λz=>X[z]?))/\
  (∀{b o y:Nat}{v:AV}{X:ah}{K:ak}(_:b=X.length),aX y (.ptr b o) v (λz=>(X++[K])[z]?)=kN y o v b K)/\
  (∀{b o y:Nat}{v:AV}{X a:ah}(_:b<X.length),aX y (.ptr b o) v (λz=>(X++a)[z]?)=aX y (.ptr b o) v (λz=>X[z]?))/\
  (∀{b:Nat}{X:ah}{K K':ak}(_:b=X.length),(X++[K]).set b K' =X++[K'])/\
  (∀{b:Nat}{X a:ah}{K':ak}(_:b<X.length),(X++a).set b K' =X.set b K'++a)/\
  (∀{b pos:Nat}{s:By}{X:ah}(_:b=X.length),fS (.ptr b 0) (λz=>(X++[.iter s pos])[z]?)=eM b s pos)/\
  (∀{b:Nat}{X a:ah}(_:b<X.length),fS (.ptr b 0) (λz=>(X++a)[z]?)=fS (.ptr b 0) (λz=>X[z]?)):=by
 refine⟨λh=>?_,λh=>?_,λh=>?_,λh=>?_,λh=>?_,λh=>?_,λh=>?_,λh=>?_⟩
 ·subst h;exact aA ba
 ·simp only[ao,dq _ h]
 ·subst h;exact aK ba
 ·simp only[aX,dq _ h]
 ·subst h;exact zd
 ·exact fk _ _ h
 ·subst h;exact dU ba
 ·simp only[fS,dq _ h]
end Go.Abs
namespace Go.Abs
def nJ{h':ah}{X:ak}{g:ah}{n:Nat}(hn:h'.length=n):(h'++[X]++g)[n]? =some X:=by
 subst hn;exact KI
def rY{h':ah}{X Y:ak}{g:ah}{n:Nat}(hn:h'.length=n):(h'++[X]++g).set n Y=h'++[Y]++g:=by
 subst hn;rw[Z4,aa1 _ _ (aah _),abb,Z4];rfl
structure Iter(P:Program)(f:FuncId)(a c:List AV)(L:List (List AV))(pre:ah->Prop):Prop where
 run:∀(l:Nat) (h:ah) (J:Nat->ah->Prop) (D:ah->Prop),(∀i k,J i k->pre k)->(∀i k g,J i k->J i (k++g))->
  (∀i (hi:i<L.length) k,J i k->∃b k',fI P (.func (.yield l) [] []) L[i] k (.bool b) k'/\(if b=true then J (i+1) k' else D k'))->
  (∀k,J L.length k->D k)->J 0 h->dA P f (a++[.func (.yield l) [] []]++c) h (λ_ k=>D k)
section
variable {P:Program}{ks:List Kt}{ts:TS}{h:ah}{Q:Ex->TS->ah->Prop}
def WC.iter(hmix:P.follows .mixedOrders=true){f A a c L pre g ps asg body}(hA:bT P f=some A)
  (hg:val ts g=.func (.func f) a c) (hi:Iter P f a c L pre) (hps:∀x∈L,x.length=ps.length) (I:Nat->ah->ah->Prop) (Fin:Ex->ah->ah->Prop)
  (h0:I 0 h []) (hcl:∀i h' g g2,I i h' g->I i h' (g++g2)) (hpre:∀i h' g X,h'.length=h.length->I i h' g->pre (h'++[X]++g))
  (step:∀i (hi:i<L.length) h' g (R B:ak),h'.length=h.length->I i h' g->
   WC P C6 asg [] (setArgs ts ps L[i]) (h'++[R]++g) λe1 Wb h2=>e1=.normal/\∃h1 g1,h2=h1++[R]++g1/\h1.length=h.length/\
    WC P C6 body [] Wb (h1++[B]++g1) λe2 _ h4=>∃h3 g3,h4=h3++[B]++g3/\h3.length=h.length/\(if e2=.normal then I (i+1) h3 g3 else Fin e2 h3 g3))
  (done:∀e h' g,h'.length=h.length->(if e=.normal then I L.length h' g else Fin e h' g)->WE P bJ e ks ts (h'++[ak.dead]++g) Q):WC P bJ (.gg g ps asg body) ks ts h Q:=by
 let J:Nat->ah->Prop:=λi k=>∃h' g,k=h'++[.loop .ready .normal ts ps asg body]++g/\h'.length=h.length/\I i h' g
 let D:ah->Prop:=λk=>∃e h' g st,k=h'++[.loop st e ts ps asg body]++g/\h'.length=h.length/\st≠.busy/\(if e=.normal then I L.length h' g else Fin e h' g)
 obtain⟨v,h2,hs,e,h',g',st,rfl,hl,bY,Ut⟩:=hi.run h.length (h++[.loop .ready .normal ts ps asg body]) J D
  (λi k hJ=>by obtain⟨h',g,rfl,h1,h2⟩:=hJ;exact hpre i h' g _ h1 h2)
  (λi k g2 hJ=>by obtain⟨h',g,rfl,h1,h2⟩:=hJ;exact⟨h',g++g2,by rw[Z4],h1,hcl _ _ _ _ h2⟩)
  (λi hi k hJ=>by
   obtain⟨h',g,rfl,h1,h2⟩:=hJ;obtain⟨e1,Wb,k2,q1,rfl,h3,g3,rfl,h4,q2⟩:=W.sound hmix (step i hi h' g (.loop .ready .normal ts ps asg body) (.loop .busy .normal ts ps asg body) h1 h2);obtain⟨e2,ts3,k3,q3,h5,g5,rfl,h6,q4⟩:=W.sound hmix q2;have hy:fI P (.func (.yield h.length) [] []) L[i] (h'++[.loop .ready .normal ts ps asg body]++g) (.bool (decide (e2=.normal))) (List.set (h5++[ak.loop .busy .normal ts ps asg body]++g5) h.length (ak.loop (if e2=.normal then .ready else .done) e2 ts ps asg body)):=
    fI.yield (nJ h1) (hps _ (aad hi)) (λr=>q1 (some r) ⟨r,rfl⟩) (nJ h4) (λr=>by rw[rY h4];exact q3 (some r) ⟨r,rfl⟩) (nJ h6)
   rw[rY h6]at hy;refine⟨decide (e2=.normal),_,hy,?_⟩;by_cases he:e2=.normal
   ·exact z143
   ·rw[aab he]at q4;simp only[he,aaz,aaU,aal];exact⟨e2,h5,g5,.done,rfl,h6,Si,by rw[aab he];exact q4⟩)
  (λk hJ=>by obtain⟨h',g,rfl,h1,h2⟩:=hJ;exact⟨.normal,h',g,.ready,rfl,h1,Si,by rw[aai rfl];exact h2⟩)
  ⟨h,[],by rw[aaw],rfl,h0⟩
 exact Rn
end
end Go.Abs
namespace Go.Abs
theorem vK:∀(l c pre:List AV),c.length=l.length->gf (pre++c) pre.length l=pre++l
 |[],c,pre,h=>by
  exact Kb
 |x::l,[],pre,h=>by simp at h
 |x::l,y::c,pre,h=>by
  have e1:(pre++y::c).set pre.length x=(pre++[x])++c:=by
   exact z157
  have e2:pre.length+1=(pre++[x]).length:=Si
  rw[pR,e1,e2,vK l c (pre++[x]) (by simpa using h),Z4];rfl
theorem qD{es:Nat}{v:AV}:∀{cs:List (List AV)},(∀x∈cs,x.length=es)->∀{i off:Nat}(hi:i<cs.length),off<es->cs.flatten.set (i*es+off) v=(cs.set i (cs[i].set off v)).flatten
 |[],_,i,off,hi,_=>absurd hi (Nat.not_lt_zero _)
 |c::cs,h,0,off,hi,ho=>by
  have hc:c.length=es:=h c (aaS ..);rw[aa5,ab7,aaP,List.set_append_left _ _ Om];rfl
 |c::cs,h,i+1,off,hi,ho=>by
  have hc:c.length=es:=h c (aaS ..);have h1:=qD (v:=v) (cs:=cs) (λx hx=>h x (aaH _ hx)) (i:=i) (off:=off) (by simpa using hi) ho;rw[aa5,aa1 _ _ (by rw[abp];omega),show(i+1)*es+off-c.length=i*es+off by rw[abp];omega,h1];rfl
def oM{es w N0 n:Nat}{z:List AV}{k k':IntKind}(h1:w*n<=2^48)(h2:n<2^63):tN es w z (.int k n) (.int k' n) N0=some (.slice N0 0 n es,.push (.cells (dY n z) true true)):=by
 simp only[tN];rw[aai ⟨Om,Om,by exact_mod_cast h1,by exact_mod_cast h2⟩];rfl
def Fr.Bz{N n es h z}(hN:N<=h.length)(hz:z.length=es):Fr N (h++[.cells (dY n z) true true]) (.slice h.length 0 n es) es (List.replicate n z):=by
 have:=Fr.push (h:=h) (es:=es) hN (List.replicate n z) (λx hx=>by rw[(List.mem_replicate.1 hx).2];exact hz);rw[abd]at this;exact this
section
variable {P:Program}{ro:Option Nat->Prop}{ks:List Kt}{ts:TS}{Q:Ex->TS->ah->Prop}{d:Option Nat}{l:List bL}
def WR.pk{q N b es w h y ys}(hb:h[b]? =some (.cells [] true false))(hN:N<=b)(hy:aI h y es ys)(eQ:ys.length*w<=2^46)
  (K:∀s' g,Fr N (h++g) s' es ys->WP P ro l ks (put ts d s') (h++g) Q):WR P ro (qb es w (.slice b 0 0 es) y (λb=>h[b]?) h.length) q d l ks ts h Q:=by
 have hbl:b<h.length:=(Z2.1 hb).1;simp only[qb,hy.fG,aan];by_cases hk:ys.length=0
 ·have hys:ys=[]:=aa9.1 hk;subst hys;simp only[Z9,aan,abW,List.isEmpty_nil];rw[jy];have:=K (.slice b 0 0 es) [] (by rw[aaw];exact Fr.mk (cs:=[]) hN hb Si)
  rwa [aaw]at this
 ·simp only[aab hk,aaP,aai eQ,hb];rw[aai Si,mN];exact K _ _ (Fr.push Om ys hy.rows)
def WR.vX{α:Type}{row:α->List AV}{L:List α}{h0 g:ah}{s v:AV}{es i off:Nat}{x':α}(hs:Fr h0.length (h0++g) s es (L.map row))(hi:i<L.length)(ho:off<es)(hv:v.one=true)(hx:row x' =(row L[i]).set off v)
  (K:∀g',g'.length=g.length->Fr h0.length (h0++g') s es ((L.set i x').map row)->(∀b,(∀b0 o n e,s=.slice b0 o n e->b≠b0)->(h0++g')[b]? =(h0++g)[b]?)->WP P ro l ks (put ts d az) (h0++g') Q):
  WR P ro (aX 1 (jF s es i off) v (λb=>(h0++g)[b]?)) false d l ks ts (h0++g) Q:=by
 have Un:=hs.aY.rows;generalize Uw:L.map row=cs at hs;have hcl:cs.length=L.length:=by rw[<-Uw,aaa]
 cases hs with
 |nil=>simp at hcl;omega
 | @mk b _ _ tl hN hb he=>
  have Tg:=fh he;have hie:i*es+off<cs.flatten.length:=by
   rw[Tg,hcl];have:(i+1)*es<=L.length*es:=abc _ hi;rw[abp]at this;omega
  have aT:cs.flatten.set (i*es+off) v=((L.set i x').map row).flatten:=by
   have:=qD (v:=v) he (i:=i) (off:=off) Om ho;rw[this,ab9,hx,Uw];congr 2;simp[<-Uw]
  have hbl:b<(h0++g).length:=(Z2.1 hb).1;show WR P ro (aX 1 (.ptr b (0+i*es+off)) v (λb=>(h0++g)[b]?)) false d l ks ts (h0++g) Q;rw[aaP,aK hb,bP hv Om,sO,aT,aa1 _ _ hN];refine K _ Si ?_ λb' hb'=>?_
  ·have hl2:((L.set i x').map row).length=cs.length:=by simp[hcl]
   rw[<-hl2];refine Fr.mk hN (tl:=tl) ?_ λy hy=>?_
   ·exact KF
   ·rw[ab9]at hy;rcases abO hy with hy|hy
    ·exact he y (by rw[<-Uw];exact hy)
    ·rw[hy,hx,aaL];exact he _ (by rw[<-Uw];exact aao (aad hi))
  ·exact KQ
def WR.M5{h0 g s sy es cs ys x y}(hx:val ts x=s)(hy:val ts y=sy)(hs:Fr h0.length (h0++g) s es cs)(hsy:aI (h0++g) sy es ys)(hl:cs.length=ys.length)
  (K:∀g' v,g'.length=g.length->Fr h0.length (h0++g') s es ys->(∀b,(∀b0 o n e,s=.slice b0 o n e->b≠b0)->(h0++g')[b]? =(h0++g)[b]?)->WP P ro l ks (put ts d v) (h0++g') Q):
  WR P ro (stepT (.zK es x y) (val ts) (λb=>(h0++g)[b]?) (h0++g).length) false d l ks ts (h0++g) Q:=by
 simp only[stepT,nM,hx,hy,hsy.fG];have Uk:=fh hsy.rows;cases hs with
 |nil=>
  have:ys=[]:=aa9.1 hl.symm;subst this;simp only;rw[jy];exact K g _ rfl .nil λ_ _=>rfl
 | @mk b _ _ tl hN hb he=>
  have hcl:=fh he;have VX:min ys.length cs.length=ys.length:=Om
  simp only[aan,VX];by_cases hk:ys.length=0
  ·have hys:ys=[]:=aa9.1 hk;have Uw:cs=[]:=aa9.1 Om;subst hys;subst Uw;simp only[Z9,aan];rw[jy];exact K g _ rfl (Fr.mk (cs:=[]) hN hb Si) λ_ _=>rfl
  ·have hbl:b<(h0++g).length:=(Z2.1 hb).1;simp only[aab hk,hb,aaP];rw[aai (by rw[hcl,hl];omega),sO];have aT:gf cs.flatten 0 (ys.flatten.take (ys.length*es))=ys.flatten:=by
    rw[<-Uk,aaI];have:=vK ys.flatten cs.flatten [] (by rw[hcl,Uk,hl])
    simpa using this
   rw[aT,aa1 _ _ hN];refine K _ _ Si ?_ λb' hb'=>?_
   ·rw[hl];refine Fr.mk hN (tl:=tl) ?_ hsy.rows;exact KF
   ·exact KQ
end
end Go.Abs
namespace Go.Abs
section
variable (P:Program) (ro:Option Nat->Prop)
def WQ(l:List bL)(cs:List Acc)(ks:List Kt)(ts:TS)(h:ah)(Q:Ex->TS->ah->Prop):Prop:=Bu h l ts cs λts' cs=>fy cs/\kq P ro ks Q .normal ts' (ee h cs)
def Ht(r:Option AV)(d:Option Nat)(l:List bL)(cs:List Acc)(ks:List Kt)(ts:TS)(h:ah)(Q:Ex->TS->ah->Prop):Prop:=
 match r with
 |some v=>WQ P ro l cs ks (put ts d v) h Q
 |none=>False
def QW(a:AV)(r:Option (AV×jd))(d:Option Nat)(l:List bL)(cs:List Acc)(ks:List Kt)(ts:TS)(h:ah)(Q:Ex->TS->ah->Prop):Prop:=
 match a,r with
 |.ptr b _,some (v,.ar)=>WQ P ro l (cs++[.rd b]) ks (put ts d v) h Q
 |_,_=>False
def QV(a:AV)(r:Option (AV×jd))(d:Option Nat)(l:List bL)(cs:List Acc)(ks:List Kt)(ts:TS)(h:ah)(Q:Ex->TS->ah->Prop):Prop:=
 match a,r with
 |.ptr _ _,some (v,.set b k)=>WQ P ro l (cs++[.wr b k]) ks (put ts d v) h Q
 |_,_=>False
def NP(a:AV)(b q:Bool)(k:pI)(d:Option Nat)(l:List bL)(cs:List Acc)(ks:List Kt)(ts:TS)(h:ah)(Q:Ex->TS->ah->Prop):Prop:=
 match a with
 |.bool t=>if t=b then WQ P ro ({dst:=d,k:=k,gd:=none,q:=q} ::l) cs ks ts h Q else WQ P ro l cs ks (put ts d az) h Q
 |_=>WQ P ro l cs ks (put ts d az) h Q
end
section
variable {P:Program}{ro:Option Nat->Prop}{ks:List Kt}{ts:TS}{h:ah}{Q:Ex->TS->ah->Prop}{d:Option Nat}{q:Bool}{l:List bL}{cs:List Acc}
def rl:WC P ro (.s9 l) ks ts h Q=WQ P ro l [] ks ts h Q:=rfl
def DP:WQ P ro [] cs ks ts h Q=(fy cs/\WE P ro .normal ks ts (ee h cs) Q):=rfl
def pC{v}:Ht P ro (some v) d l cs ks ts h Q=WQ P ro l cs ks (put ts d v) h Q:=rfl
def pE{v b o}:QW P ro (.ptr b o) (some (v,.ar)) d l cs ks ts h Q=WQ P ro l (cs++[.rd b]) ks (put ts d v) h Q:=rfl
def pD{v b b' o k}:QV P ro (.ptr b o) (some (v,.set b' k)) d l cs ks ts h Q=WQ P ro l (cs++[.wr b' k]) ks (put ts d v) h Q:=rfl
def lz{k}(hp:fO k=true){r}(hr:stepT k (val ts) (λz=>h[z]?) h.length=r.map λv=>(v,.ar)):
  WQ P ro ({dst:=d,k:=k,gd:=none,q:=q} ::l) cs ks ts h Q=Ht P ro r d l cs ks ts h Q:=by
 apply propext
 constructor
 ·rintro⟨v,c,⟨hn,_⟩|⟨_,hs⟩,H⟩
  ·exact absurd trivial hn
  rcases hs with⟨_,rfl,hs⟩|⟨n,a,b,off,hk,_⟩|⟨n,a,x,b,off,k',hk,_⟩
  ·have hs:stepT k (val ts) (λz=>h[z]?) h.length=some (v,.ar):=hs;rw[hr]at hs;cases r with
   |none=>cases hs
   |some v'=>cases hs;exact H
  ·have hk:k=.load n a:=hk;rw[hk]at hp;cases hp
  ·have hk:k=.store n a x:=hk;rw[hk]at hp;cases hp
 ·intro H;cases r with
  |none=>exact H.elim
  |some v=>exact⟨v,.no,.inr ⟨trivial,.inl ⟨hp,rfl,hr⟩⟩,H⟩
def ri{n a}:WQ P ro ({dst:=d,k:=.load n a,gd:=none,q:=q} ::l) cs ks ts h Q=QW P ro (val ts a) (ao n (val ts a) (λz=>h[z]?)) d l cs ks ts h Q:=by
 apply propext
 constructor
 ·rintro⟨v,c,⟨hn,_⟩|⟨_,hs⟩,H⟩
  ·exact absurd trivial hn
  rcases hs with⟨hp,_⟩|⟨n',a',b,off,hk,ha,rfl,hs⟩|⟨n',a',x,b,off,k',hk,_⟩
  ·cases hp
  ·cases hk;have hs:ao n (val ts a) (λz=>h[z]?)=some (v,.ar):=hs;rw[hs,ha];exact H
  ·cases hk
 ·intro H;unfold QW at H;split at H
  ·rename_i b o v ha hr;exact⟨v,.rd b,.inr ⟨trivial,.inr (.inl ⟨n,a,b,o,rfl,ha,rfl,hr⟩)⟩,H⟩
  ·exact H.elim
def pA{n a x}:WQ P ro ({dst:=d,k:=.store n a x,gd:=none,q:=q} ::l) cs ks ts h Q=QV P ro (val ts a) (aX n (val ts a) (val ts x) (λz=>h[z]?)) d l cs ks ts h Q:=by
 apply propext
 constructor
 ·rintro⟨v,c,⟨hn,_⟩|⟨_,hs⟩,H⟩
  ·exact absurd trivial hn
  rcases hs with⟨hp,_⟩|⟨n',a',b,off,hk,_⟩|⟨n',a',x',b,off,k',hk,ha,rfl,hs⟩
  ·cases hp
  ·cases hk
  ·cases hk;have hs:aX n (val ts a) (val ts x) (λz=>h[z]?)=some (v,.set b k'):=hs;rw[hs,ha];exact H
 ·intro H;unfold QV at H;split at H
  ·rename_i b o v b' k ha hr;have hb:b' =b:=by
    rw[ha]at hr;simp only[aX]at hr;split at hr
    ·split at hr
     ·cases hr;rfl
     ·cases hr
    ·cases hr
   subst hb;exact⟨v,.wr b' k,(.inr ⟨trivial,.inr (.inr ⟨n,a,x,b',o,k,rfl,ha,rfl,hr⟩)⟩),H⟩
  ·exact H.elim
def zU{k g b}:WQ P ro ({dst:=d,k:=k,gd:=some (g,b),q:=q} ::l) cs ks ts h Q=NP P ro (val ts (.t g)) b q k d l cs ks ts h Q:=by
 have key:∀t:Bool,val ts (.t g)=.bool t->(wanted (some (g,b)) ts↔t=b):=λt hg=>by
  show ts[g]? =some (.bool b)↔_;have hg:ts.getD g az=.bool t:=hg;have e:ts[g]? =some (.bool t):=by
   rw[aaN]at hg;cases hx:ts[g]? with
   |none=>rw[hx]at hg;cases hg
   |some y=>rw[hx]at hg;exact aax some hg
  rw[e];simp
 have neg:(∀t,val ts (.t g)≠.bool t)->¬wanted (some (g,b)) ts:=λhn hw=>by
  have hw:ts[g]? =some (.bool b):=hw;exact hn b (by show ts.getD g az=_;rw[aaN,hw];rfl)
 have no:¬wanted (some (g,b)) ts->WQ P ro ({dst:=d,k:=k,gd:=some (g,b),q:=q} ::l) cs ks ts h Q=WQ P ro l cs ks (put ts d az) h Q:=λhy=>by
  apply propext
  constructor
  ·rintro⟨v,c,⟨_,rfl,rfl⟩|⟨hn,hs⟩,H⟩
   ·exact H
   ·exact absurd hn hy
  ·intro H;exact⟨az,.no,.inl ⟨hy,rfl,rfl⟩,H⟩
 unfold NP;split
 ·rename_i t ht;have hw:=key t ht;by_cases e:t=b
  ·rw[aai e];have hy:=hw.2 e
   apply propext
   constructor
   ·rintro⟨v,c,⟨hn,_⟩|⟨_,hs⟩,H⟩
    ·exact absurd hy hn
    ·exact⟨v,c,.inr ⟨trivial,hs⟩,H⟩
   ·rintro⟨v,c,⟨hn,_⟩|⟨_,hs⟩,H⟩
    ·exact absurd trivial hn
    ·exact⟨v,c,.inr ⟨hy,hs⟩,H⟩
  ·rw[aab e];exact no λz=>e (hw.1 z)
 ·rename_i hn;exact no (neg hn)
def uZ{k}:NP P ro (.bool true) true q k d l cs ks ts h Q=WQ P ro ({dst:=d,k:=k,gd:=none,q:=q} ::l) cs ks ts h Q:=rfl
def vc{k}:NP P ro (.bool false) true q k d l cs ks ts h Q=WQ P ro l cs ks (put ts d az) h Q:=rfl
def rh{c a b}:WQ P ro ({dst:=d,k:=.pick c a b,gd:=none,q:=q} ::l) cs ks ts h Q=Ht P ro (tH (val ts c) (val ts a) (val ts b)) d l cs ks ts h Q:=by
 refine lz rfl ?_;simp only[stepT,nM,tH];cases val ts c<;>rfl
def pB{x}:WQ P ro ({dst:=d,k:=.len .sl x,gd:=none,q:=q} ::l) cs ks ts h Q=Ht P ro (uI (ja .sl (λb=>h[b]?) (val ts x))) d l cs ks ts h Q:=by
 refine lz rfl ?_;simp only[stepT,nM,uI];cases ja .sl (λb=>h[b]?) (val ts x)<;>rfl
def uX{x}:WQ P ro ({dst:=d,k:=.bV x,gd:=none,q:=q} ::l) cs ks ts h Q=WQ P ro l cs ks (put ts d (val ts x)) h Q:=lz (r:=some (val ts x)) rfl rfl
def uY{op x y}:WQ P ro ({dst:=d,k:=.bin op x y,gd:=none,q:=q} ::l) cs ks ts h Q=Ht P ro (eV op (val ts x) (val ts y)) d l cs ks ts h Q:=by
 refine lz rfl ?_;exact z196
def zT{op x}:WQ P ro ({dst:=d,k:=.un op x,gd:=none,q:=q} ::l) cs ks ts h Q=Ht P ro (xW op (val ts x)) d l cs ks ts h Q:=by
 refine lz rfl ?_;simp only[stepT,nM];cases xW op (val ts x)<;>rfl
def rj{off x}:WQ P ro ({dst:=d,k:=.aP off x,gd:=none,q:=q} ::l) cs ks ts h Q=Ht P ro (ua off (val ts x)) d l cs ks ts h Q:=by
 refine lz rfl ?_;simp only[stepT,nM,ua];cases val ts x<;>rfl
def mO{x}:WQ P ro ({dst:=d,k:=.bS x,gd:=none,q:=q} ::l) cs ks ts h Q=Ht P ro (qO (val ts x)) d l cs ks ts h Q:=by
 refine lz rfl ?_;exact KM
end
def uV{a:List Acc}:[]++a=a:=rfl
def uU{c:Acc}{a b:List Acc}:(c::a)++b=c:: (a++b):=rfl
def pz{h}:ee h []=h:=rfl
def pv{h b cs}:ee h (.rd b::cs)=ee h cs:=rfl
def pt{h b k cs}:ee h (.wr b k::cs)=ee (h.set b k) cs:=rfl
def Bd(b:Nat)(cs:List Acc):Prop:=∀x∈cs,x.ep≠some b
def pr(b:Nat)(cs:List Acc):Prop:=∀x∈cs,∀k,x≠Acc.wr b k
def Jz{b}:Bd b []=True:=acF λx hx=>by cases hx
def JA{b c cs}:Bd b (c::cs)=(c.ep≠some b/\Bd b cs):=by
 simp[Bd]
def Gc{b}:pr b []=True:=acF λx hx=>by cases hx
def Gb{b b' cs}:pr b (.rd b'::cs)=pr b cs:=by
 simp[pr]
def Ga{b b' k cs}:pr b (.wr b' k::cs)=(b'≠b/\pr b cs):=by
 unfold pr;simp only[aaJ,forall_eq_or_imp];refine propext ⟨λh=>⟨λe=>h.1 k (by rw[e]),h.2⟩,λh=>⟨λk' e=>h.1 (by cases e;rfl),h.2⟩⟩
def F9:fy []=True:=rfl
def F8{b cs}:fy (.rd b::cs)=(pr b cs/\fy cs):=by
 unfold pr;simp only[fy,Acc.ep,aaB];refine propext ⟨λh=>⟨λx hx k hk=>h.1 b rfl x hx (by rw[hk]) k k (.inr hk),h.2⟩,λh=>⟨λb' e x hx _ k k' hk=>?_,h.2⟩⟩;subst e;rcases hk with hk|hk
 ·cases hk
 ·exact h.1 x hx k' hk
def F7{b k cs}:fy (.wr b k::cs)=(Bd b cs/\fy cs):=by
 unfold Bd;simp only[fy,Acc.ep,aaB];refine propext ⟨λh=>⟨λx hx hk=>h.1 b rfl x hx hk k k (.inl rfl),h.2⟩,λh=>⟨λb' e x hx hk _ _ _=>?_,h.2⟩⟩;subst e;exact h.1 x hx hk
def M9{b}:(Acc.rd b).ep=some b:=rfl
def M8{b k}:(Acc.wr b k).ep=some b:=rfl
def bd:
  (∀{ts:TS}{i j:Nat}{v:AV}(_:(i=j)=False),slot (ts.set i v) j=slot ts j)/\
  (∀{ts:TS}{i:Nat}{v:AV}(_:i+1<=ts.length),slot (ts.set i v) i=v)/\
  (∀{ts:TS}{i:Nat}{X:Prop}(_:i+1<=ts.length),MD ts[i]? X=X)/\
  (∀{ts:TS}{i:Nat}{v:AV},(ts.set i v).length=ts.length)/\
  (∀{u:TypeId}{x:AV}{G:Nat->Option ak}{N:Nat},ni (.vk u) x G N=some (.vk u x,.ar)):=by
 refine⟨λ{ts i j v} h=>?_,λ{ts i v} h=>?_,λ{ts i X} h=>by rw[Z6 h];rfl,λ{ts i v}=>aaL,rfl⟩
 ·have hne:i≠j:=λe=>by rw[<-h];exact e
  unfold slot;rw[List.getD,List.getD,aaj hne]
 ·unfold slot;rw[List.getD,aak h];rfl
end Go.Abs
namespace Go.Abs
abbrev ak.b(l:List AV):ak:=.cells l true false
abbrev AV.i(n:Int):AV:=.int .i64 n
def Rs{A B F:Prop}(f:F)(b:B)(e:F->(B->A)/\(∃x:Prop,x=B):=by(intro f;refine⟨λb=>?_,?_⟩;(focus (repeat (first|simp (config:={maxSteps:=1000000}) only[aO,aT,aZ,a8,reduceAdd,reduceMul,reduceLeDiff,reduceEqDiff,bd,hlen,aal,aan,f]|simp (config:={maxSteps:=1000000}) (disch:=first|(simp only[Z1,Z5,Z9]<;>omega)|rfl|omega|fail) only[dX,aO,aT,aZ,a8,reduceAdd,reduceMul,reduceLeDiff,reduceEqDiff,bd,hlen,aal,aan,f]));all_goals exact b);first|exact⟨True,rfl⟩|exact⟨_,rfl⟩)):A:=(e f).1 b
def pL{A B F:Prop}(f:F)(b:B)(e:F->(B->A)/\(∃x:Prop,x=B):=by(intro f;refine⟨λb=>?_,?_⟩;(focus (repeat (first|simp (config:={maxSteps:=1000000}) only[aO,aT,aZ,a8,reduceAdd,reduceMul,reduceLeDiff,reduceEqDiff,bd,hlen,aal,aan,reduceCtorEq,f]|simp (config:={maxSteps:=1000000}) (disch:=first|(simp only[Z1,Z5,Z9]<;>omega)|rfl|omega|fail) only[dX,aO,aT,aZ,a8,reduceAdd,reduceMul,reduceLeDiff,reduceEqDiff,bd,hlen,aal,aan,reduceCtorEq,f]));all_goals exact b);first|exact⟨True,rfl⟩|exact⟨_,rfl⟩)):A:=(e f).1 b
def Zs{A B F:Prop}(f:F)(b:B)(e:F->(B->A)/\(∃x:Prop,x=B):=by(intro f;refine⟨λb=>?_,?_⟩;(focus (simp only[aO,aT,aZ,a8,reduceAdd,reduceMul,reduceLeDiff,reduceEqDiff,bd,hlen,aal,aan,f]);all_goals exact b);first|exact⟨True,rfl⟩|exact⟨_,rfl⟩)):A:=(e f).1 b
def Zn{A B:Prop}(b:B)(e:(B->A)/\(∃x:Prop,x=B):=by(refine⟨λb=>?_,?_⟩;(focus (simp only[aO,aT,aZ,a8,reduceAdd,reduceMul,reduceLeDiff,reduceEqDiff,bd,hlen,aal,aan]);all_goals exact b);first|exact⟨True,rfl⟩|exact⟨_,rfl⟩)):A:=e.1 b
def Ws{A B F:Prop}(f:F)(b:B)(e:F->(B->A)/\(∃x:Prop,x=B):=by(intro f;refine⟨λb=>?_,?_⟩;(focus (simp only[aO,aT,aZ,a8,reduceAdd,reduceMul,reduceLeDiff,reduceEqDiff,aan,aal,f]);all_goals exact b);first|exact⟨True,rfl⟩|exact⟨_,rfl⟩)):A:=(e f).1 b
def Wn{A B:Prop}(b:B)(e:(B->A)/\(∃x:Prop,x=B):=by(refine⟨λb=>?_,?_⟩;(focus (simp only[aO,aT,aZ,a8,reduceAdd,reduceMul,reduceLeDiff,reduceEqDiff,aan,aal]);all_goals exact b);first|exact⟨True,rfl⟩|exact⟨_,rfl⟩)):A:=e.1 b
def Sq{A F:Prop}(f:F)(e:F->A:=by(intro f;simp only[aO,aT,aZ,a8,reduceAdd,reduceMul,reduceLeDiff,reduceEqDiff,bd,hlen,aal,aan,f])):A:=e f
def Sw{A:Prop}(e:A:=by simp only[aO,aT,aZ,a8,reduceAdd,reduceMul,reduceLeDiff,reduceEqDiff,bd,hlen,aal,aan]):A:=e
def SA{A F:Prop}(f:F)(e:F->A:=by(intro f;(simp only[aO,aT,aZ,a8,reduceAdd,reduceMul,reduceLeDiff,reduceEqDiff,bd,hlen,aal,aan,f];rfl))):A:=e f
def ga{A:Prop}(e:A:=by(simp only[aO,aT,aZ,a8,reduceAdd,reduceMul,reduceLeDiff,reduceEqDiff,bd,hlen,aal,aan];rfl)):A:=e
def Sn{A:Prop}(e:A:=by simp only[bd,hlen]):A:=e
def Xx{A:Prop}(e:A:=by repeat first|with_reducible exact Ext.refl _|refine Ext.app _ ?_):A:=e
def ay.R4{P:Program}{h:ah}(nt:Nat)(hmix:P.follows .mixedOrders=true){f:FuncId}{A:au}(hA:bT P f=some A){R:AV->ah->Prop}(H:∀ts:TS,ts.length=nt->WC P bJ A.body [] ts h (FQ A.rs (λv h'=>Ext h h'/\R v h')))(hn:A.nt=nt:=by rfl)(hl:(aW nt []).length=nt:=by rfl):ay P f [] h R:=by
 subst hn;exact .of hmix hA (H (aW A.nt []) hl)
def ay.kM{P:Program}{h:ah}(nt:Nat)(hmix:P.follows .mixedOrders=true){f:FuncId}{A:au}(hA:bT P f=some A){a0:AV}{R:AV->ah->Prop}(H:∀ts:TS,ts.length=nt->slot ts 0=a0->WC P bJ A.body [] ts h (FQ A.rs (λv h'=>Ext h h'/\R v h')))(hn:A.nt=nt:=by rfl)(hl:(aW nt [a0]).length=nt:=by rfl):ay P f [a0] h R:=by
 subst hn;exact .of hmix hA (H (aW A.nt [a0]) hl rfl)
def ay.eX{P:Program}{h:ah}(nt:Nat)(hmix:P.follows .mixedOrders=true){f:FuncId}{A:au}(hA:bT P f=some A){a0 a1:AV}{R:AV->ah->Prop}(H:∀ts:TS,ts.length=nt->slot ts 0=a0->slot ts 1=a1->WC P bJ A.body [] ts h (FQ A.rs (λv h'=>Ext h h'/\R v h')))(hn:A.nt=nt:=by rfl)(hl:(aW nt [a0,a1]).length=nt:=by rfl):ay P f [a0,a1] h R:=by
 exact z198
def dA.eX{P:Program}{h:ah}(nt:Nat)(hmix:P.follows .mixedOrders=true){f:FuncId}{A:au}(hA:bT P f=some A){a0 a1:AV}{R:AV->ah->Prop}(H:∀ts:TS,ts.length=nt->slot ts 0=a0->slot ts 1=a1->WC P bJ A.body [] ts h (FQ A.rs (R)))(hn:A.nt=nt:=by rfl)(hl:(aW nt [a0,a1]).length=nt:=by rfl):dA P f [a0,a1] h R:=by
 exact z198
def ay.nC{P:Program}{h:ah}(nt:Nat)(hmix:P.follows .mixedOrders=true){f:FuncId}{A:au}(hA:bT P f=some A){a0 a1 a2:AV}{R:AV->ah->Prop}(H:∀ts:TS,ts.length=nt->slot ts 0=a0->slot ts 1=a1->slot ts 2=a2->WC P bJ A.body [] ts h (FQ A.rs (λv h'=>Ext h h'/\R v h')))(hn:A.nt=nt:=by rfl)(hl:(aW nt [a0,a1,a2]).length=nt:=by rfl):ay P f [a0,a1,a2] h R:=by
 exact Ky
def dA.nC{P:Program}{h:ah}(nt:Nat)(hmix:P.follows .mixedOrders=true){f:FuncId}{A:au}(hA:bT P f=some A){a0 a1 a2:AV}{R:AV->ah->Prop}(H:∀ts:TS,ts.length=nt->slot ts 0=a0->slot ts 1=a1->slot ts 2=a2->WC P bJ A.body [] ts h (FQ A.rs (R)))(hn:A.nt=nt:=by rfl)(hl:(aW nt [a0,a1,a2]).length=nt:=by rfl):dA P f [a0,a1,a2] h R:=by
 exact Ky
def WF.ce{P:Program}{ro:Option Nat->Prop}{ks:List Kt}{ts:TS}{h:ah}{Q:Ex->TS->ah->Prop}{q:Bool}{f:FuncId}{A:au}(hA:bT P f=some A){a c args:List AV}{d:Option Nat}{l:List bL}{V:AV}(H:ay P f (a++args++c) h (λv _=>v=V))(K:∀g,WP P ro l ks (put ts d V) (h++g) Q):WF P ro q (.func (.func f) a c) args d l ks ts h Q:=
 WF.res hA H λ_ g e=>e▸K g
def dB{W:ah}{b:Nat}{B:ak}(h:W[b]? =some B){k:ah}{n:Option Nat}{a:Nat}(e:Ext W k):ao n (.ptr b a) (λz=>k[z]?)=dG n a B:=aA (e.some h)
def dN{k n:Nat}(h:k<n):decide ((k:Int)<(n:Int))=true:=Z8 Om
def eF{k n:Nat}(h:¬k<n):decide ((k:Int)<(n:Int))=false:=Z3 Om
def bW(c:Bool)(e:Int):Int:=if c then e else 0
def bj(n lo hi:Int):Int:=if n<lo\/hi<n then 3 else 0
def aQ:List Int->Int
 |[]=>0
 |x::xs=>if x=0 then aQ xs else x
def gC(c:UInt8):Bool:=(65<=c.toNat&&c.toNat<=90)||(97<=c.toNat&&c.toNat<=122)
def fE(c:UInt8):Bool:=48<=c.toNat&&c.toNat<=57
def ku(c:UInt8):Bool:=gC c||fE c||c.toNat==95
def eE:By->Bool
 |[]=>false
 |c::r=>decide (r.length<24)&&gC c&&r.all ku
inductive Kd where
 |dR
 |line
 |tape
 |gK
 |copy
 |accept
 |source
 |gu
 |merge
 |run
 |gp
 |fail
 |gL
 |rel
 deriving DecidableEq
def bu:Kd->By
 |.dR=>[117,110,100,111]
 |.line=>[108,105,110,101]
 |.tape=>[116,97,112,101]
 |.gK=>[115,104,111,116]
 |.copy=>[99,111,112,121]
 |.accept=>[97,99,99,101,112,116]
 |.source=>[115,111,117,114,99,101]
 |.gu=>[109,111,100,117,108,101]
 |.merge=>[109,101,114,103,101]
 |.run=>[114,117,110]
 |.gp=>[116,105,108,101]
 |.fail=>[102,97,105,108]
 |.gL=>[112,105,99,116,117,114,101]
 |.rel=>[114,101,108,101,97,115,101]
def G1:List Kd:=[.dR,.line,.tape,.gK,.copy,.accept,.source,.gu,.merge,.run,.gp,.fail,.gL,.rel]
def bN:Kd->List (Nat×Bool)
 |.dR=>[]
 |.line=>[(0,false)]
 |.tape=>[(1,false)]
 |.gK=>[(2,false),(0,true),(1,true)]
 |.copy=>[(1,true),(1,true)]
 |.accept=>[(0,true)]
 |.source=>[(3,false),(0,true)]
 |.gu=>[(3,false),(3,true)]
 |.merge=>[(3,false),(3,true),(3,true)]
 |.run=>[(4,false),(3,true)]
 |.gp=>[(4,true)]
 |.fail=>[(4,true)]
 |.gL=>[(5,false),(4,true)]
 |.rel=>[(5,true)]
def cF:Kd->Nat
 |.dR=>0
 |.line=>2
 |.tape=>2
 |.gK=>1
 |.copy=>1
 |.accept=>1
 |.source=>1
 |.gu=>2
 |.merge=>1
 |.run=>2
 |.gp=>3
 |.fail=>2
 |.gL=>1
 |.rel=>1
def iH(k:By):Option Kd:=G1.find? λd=>bu d==k
def jD(d:Kd):iH (bu d)=some d:=by cases d<;>rfl
def cA{k d}(h:iH k=some d):k=bu d:=by
 have:=acA h;exact(eq_of_beq this).symm
def dP{k}(h:iH k=none)(d:Kd):k≠bu d:=by
 rintro rfl;rw[jD]at h;cases h
structure cY where
 num:Int
 kind:By
 names:List (By)
 cw:List Int
 text:By
structure gN where
 name:By
 want:Int
 acc:Bool
structure sR where
 name:By
 last:Int
structure jc where
 name:By
 line:By
 aE:List (By)
structure iP where
 name:By
 gives:By
 line:By
 bC:List (By)
structure lH where
 name:By
 mod:By
 bE:List Int
structure qM where
 name:By
 Bt:By
 mi:Int
 rel:Bool
structure dM where
 tick:Int
 lines:List gN
 aE:List sR
 aj:List jc
 aC:List iP
 aF:List lH
 aJ:List qM
def dM.zero:dM:=⟨0,[],[],[],[],[],[]⟩
def Az:gN:=⟨[],0,false⟩
def Pz:sR:=⟨[],0⟩
def CP:jc:=⟨[],[],[]⟩
def CQ:iP:=⟨[],[],[],[]⟩
def AA:lH:=⟨[],[],[]⟩
def Ir:qM:=⟨[],[],0,false⟩
def bn(l:List (By))(n:By):Nat:=l.findIdx λx=>decide (x=n)
def sD{α:Type}(f:α->By)(l:List α)(n:By)(d:α):α:=l.getD (bn (l.map f) n) d
def eP(R:dM):List (By):=R.lines.map gN.name
def iQ(R:dM):List (By):=R.aE.map sR.name
def kj(R:dM):List (By):=R.aj.map jc.name
def iC(R:dM):List (By):=R.aC.map iP.name
def jg(R:dM):List (By):=R.aF.map lH.name
def lK(R:dM):List (By):=R.aJ.map qM.name
def GH(R:dM):Nat->List (By)
 | 0=>eP R
 | 1=>iQ R
 | 2=>kj R
 | 3=>iC R
 | 4=>jg R
 |_=>lK R
def cC(R:dM)(n:By):gN:=sD gN.name R.lines n Az
def jI(R:dM)(n:By):sR:=sD sR.name R.aE n Pz
def lQ(R:dM)(n:By):jc:=sD jc.name R.aj n CP
def iG(R:dM)(n:By):iP:=sD iP.name R.aC n CQ
def gX(R:dM)(n:By):lH:=sD lH.name R.aF n AA
def kC(R:dM)(n:By):qM:=sD qM.name R.aJ n Ir
def dD(R:dM)(t:Nat)(n:By):Bool:=decide (n∈GH R t)
def gT(R:dM)(t:Int)(n:By):Bool:=decide (t<=(jI R n).last)
def eD(R:dM)(x:jc)(t:Int):Bool:=x.aE.any (gT R t)
def fK(R:dM)(t:Int):List (By):=(R.aj.filter λx=>!eD R x t).map jc.name
def tJ(R:dM)(n:By):List jc:=R.aj.filter λx=>decide (x.line=n)
def cZ:List Int->Nat->List Int
 |[],_=>[]
 |x::r,i=>if x<0 then(i:Int)::cZ r (i+1)else cZ r (i+1)
def qH(R:dM)(j:By):Bool:=R.aJ.any λp=>decide (p.Bt=j)
def cS(m:By)(l:List iP):List (By):=l.foldl (λn x=>if x.name∈n then n++x.bC else n) [m]
def na(R:dM)(m:By):List iP:=R.aC.filter λx=>decide (x.name∈cS m R.aC.reverse)
def jl(R:dM)(m:By):List gN:=R.lines.filter λl=>decide (l.name∈(na R m).map iP.line)
def tG(R:dM)(p:By):List (By):=
 (R.aj.filter λx=>decide (x.line∈(jl R (gX R (kC R p).Bt).mod).map gN.name)).map jc.name
def gE(l:List Int):Int:=l.foldl (λx s=>(257*x+s).tmod 16777213) 1
def aL(e:cY)(i:Nat):By:=e.names.getD i []
def bI(e:cY)(i:Nat):Int:=e.cw.getD i 0
def eo:By:=[115,104,111,116,115]
def mH:By:=[115,101,99,116,105,111,110]
def o6:By:=[105,109,97,103,101]
def nA(n:Int):By:=if n=1 then eo else if n=2 then eo else if n=3 then mH else o6
def kg(n:Int):By:=if n=1 then eo else if n=2 then mH else o6
def eA(e:cY):Int:=
 if bj e.num 1 1000≠0 then 3 else
 match iH e.kind with
 |none=>13
 |some d=>if e.names.length≠(bN d).length\/e.cw.length≠cF d then 2
  else if e.names.any (λs=>!eE s)then 8
  else if e.cw.any (λn=>decide (bj n 0 999999999≠0))then 3
  else if e.text≠[]then 1 else 0
def lO(R:dM)(e:cY):List (Nat×Bool)->Nat->Bool
 |[],_=>false
 |r::l,i=>(r.2 && !dD R r.1 (aL e i))||lO R e l (i+1)
def pN(R:dM)(e:cY):List (Nat×Bool)->Nat->Bool
 |[],_=>false
 |r::l,i=>(!r.2&&dD R r.1 (aL e i))||pN R e l (i+1)
def ka(d:Kd)(R:dM)(e:cY):Int:=if lO R e (bN d) 0 then 10 else if pN R e (bN d) 0 then 9 else 0
def fY(R:dM)(e:cY):Int:=(gX R (aL e 0)).bE.getD (bI e 1).toNat 0
def kh(R:dM)(e:cY):Int:=if qH R (aL e 0)then 23 else if((gX R (aL e 0)).bE.length:Int)<=bI e 1 then 3 else 0
def bz(R:dM)(e:cY):Kd->Int
 |.dR=>0
 |.line=>if bj (bI e 1) 1 64≠0 then 3 else if 16<=R.lines.length then 5 else 0
 |.tape=>if 999999999<bI e 0+bI e 1 then 4 else if 16<=R.aE.length then 5 else 0
 |.gK=>if(cC R (aL e 1)).acc then 23 else if !gT R (bI e 0) (aL e 2)then 30 else if 64<=R.aj.length then 5 else 0
 |.copy=>if aL e 0=aL e 1 then 24 else if !gT R (bI e 0) (aL e 0)then 30 else if !gT R (bI e 0) (aL e 1)then 30 else 0
 |.accept=>if(cC R (aL e 0)).acc then 23 else if((tJ R (aL e 0)).length:Int)<(cC R (aL e 0)).want then 16 else if(tJ R (aL e 0)).any (λx=>!eD R x (bI e 0))then 30 else 0
 |.source=>if 32<=R.aC.length then 5 else 0
 |.gu=>if bj (bI e 1) 1 4≠0 then 13 else if(iG R (aL e 1)).gives≠nA (bI e 1)then 2 else if 32<=R.aC.length then 5 else 0
 |.merge=>if aL e 1=aL e 2 then 24 else if(iG R (aL e 1)).gives≠(iG R (aL e 2)).gives then 2 else if 32<=R.aC.length then 5 else 0
 |.run=>if(jl R (aL e 1)).any (λx=>!x.acc)then 32 else if bj (bI e 1) 1 32≠0 then 3 else if 16<=R.aF.length then 5 else 0
 |.gp=>if kh R e≠0 then kh R e else if 0<=fY R e then 9 else 0
 |.fail=>if kh R e≠0 then kh R e else if fY R e<0 then 7 else 0
 |.gL=>if qH R (aL e 1)then 23 else if cZ (gX R (aL e 1)).bE 0≠[]then 32 else if 16<=R.aJ.length then 5 else 0
 |.rel=>if(kC R (aL e 0)).rel then 23 else 0
def jS(a b:By)(x:jc):jc:=if a∈x.aE/\b∉x.aE then {x with aE:=x.aE++[b] } else x
def nD(R:dM)(e:cY)(s:Int):List lH:=R.aF.set (bn (jg R) (aL e 0)) {gX R (aL e 0)with bE:=(gX R (aL e 0)).bE.set (bI e 1).toNat s}
def dF(R:dM)(e:cY):Kd->dM
 |.dR=>R
 |.line=>{R with lines:=R.lines++[⟨aL e 0,bI e 1,false⟩] }
 |.tape=>{R with aE:=R.aE++[⟨aL e 0,bI e 0+bI e 1⟩] }
 |.gK=>{R with aj:=R.aj++[⟨aL e 0,aL e 1,[aL e 2]⟩] }
 |.copy=>{R with aj:=R.aj.map (jS (aL e 0) (aL e 1)) }
 |.accept=>{R with lines:=R.lines.set (bn (eP R) (aL e 0)) {cC R (aL e 0)with acc:=true} }
 |.source=>{R with aC:=R.aC++[⟨aL e 0,eo,aL e 1,[]⟩] }
 |.gu=>{R with aC:=R.aC++[⟨aL e 0,kg (bI e 1),[],e.names.drop 1⟩] }
 |.merge=>{R with aC:=R.aC++[⟨aL e 0,(iG R (aL e 1)).gives,[],e.names.drop 1⟩] }
 |.run=>{R with aF:=R.aF++[⟨aL e 0,aL e 1,List.replicate (bI e 1).toNat (-1)⟩] }
 |.gp=>{R with aF:=nD R e (bI e 2) }
 |.fail=>{R with aF:=nD R e (-1) }
 |.gL=>{R with aJ:=R.aJ++[⟨aL e 0,aL e 1,gE (gX R (aL e 1)).bE,false⟩] }
 |.rel=>{R with aJ:=R.aJ.set (bn (lK R) (aL e 0)) {kC R (aL e 0)with rel:=true} }
def fD(R:dM)(e:cY)(d:Kd):Int:=if bI e 0<R.tick then 22 else if ka d R e≠0 then ka d R e else bz R e d
def fQ(R:dM)(e:cY)(d:Kd):dM:={dF R e d with tick:=bI e 0}
structure gO where
 c9:List cY
 eT:List cY
 cM:List dM
def gO.zero:gO:=⟨[],[],[]⟩
def gO.now(H:gO):dM:=H.cM.getLastD dM.zero
def gx(e:cY):Kd:=(iH e.kind).getD .dR
def jw(H:gO)(e:cY):Int:=
 if e.num≠(H.c9.length:Int)+1 then 11 else
 if gx e=.dR then
  (match H.eT.getLast? with
  |none=>12
  |some c=>if gx c=.rel then 21 else 0)
 else fD H.now e (gx e)
def gy(H:gO)(e:cY):gO:=
 if gx e=.dR then⟨H.c9++[e],H.eT.dropLast,H.cM.dropLast⟩
 else⟨H.c9++[e],H.eT++[e],H.cM++[fQ H.now e (gx e)]⟩
def dV(H:gO)(e:cY):Int:=if eA e≠0 then eA e else jw H e
def fC(H:gO):List cY->Nat->gO×Int×Int
 |[],_=>(H,0,0)
 |e::l,i=>if dV H e≠0 then(gO.zero,(i:Int)+1,dV H e)else fC (gy H e) l (i+1)
def aN(l:List cY):gO×Int×Int:=if 1000<l.length then(gO.zero,0,5)else fC gO.zero l 0
def cN{l n}(h:n∈l):bn l n<l.length:=
 List.findIdx_lt_length_of_exists ⟨n,h,Si⟩
def oG{l n}(h:n∈l):l[bn l n]'(cN h)=n:=by
 have:=List.findIdx_getElem (p:=λx=>decide (x=n)) (xs:=l) (w:=cN h);exact abk this
def de{α:Type}{f:α->By}{l:List α}{n:By}{d:α}(h:n∈l.map f):sD f l n d=l[bn (l.map f) n]'(by simpa using cN h):=by
 have:bn (l.map f) n<l.length:=by simpa using cN h
 rw[sD,aaN,Z6 this];rfl
def hP{α:Type}{f:α->By}{l:List α}{n:By}{d:α}(h:n∈l.map f):sD f l n d∈l:=by
 rw[de h];exact aad _
def fB{α:Type}{f:α->By}{l:List α}{n:By}{d:α}(h:n∈l.map f):f (sD f l n d)=n:=by
 rw[de h];have:=oG h;rw[abf]at this;exact this
def qX{α:Type}{f:α->By}{l:List α}{x d:α}(hn:(l.map f).Nodup)(h:x∈l):sD f l (f x) d=x:=by
 have hm:f x∈l.map f:=aao h;obtain⟨i,hi,rfl⟩:=aca h;rw[de hm];have h1:=oG hm;have h2:(l.map f)[i]'(by simpa using hi)=f l[i]:=abf ..;have:=(List.getElem_inj hn).1 (h1.trans h2.symm);congr 1
structure qm(l:List (By)):Prop where
 nd:l.Nodup
 nm:∀n∈l,eE n=true
def qm.nil:qm []:=⟨List.nodup_nil,λ_ h=>by cases h⟩
def qm.add{l n}(h:qm l)(hn:eE n=true)(hl:n∉l):qm (l++[n]):=by
 refine⟨List.nodup_append.2 ⟨h.nd,Si,?_⟩,λx hx=>?_⟩
 ·intro a ha b hb e;rw[aam]at hb;exact hl (hb▸e▸ha)
 ·rcases aac.1 hx with hx|hx
  ·exact h.nm x hx
  ·rw[aam]at hx;rw[hx];exact hn
structure eS(R:dM):Prop where
 n0:qm (eP R)
 n1:qm (iQ R)
 n2:qm (kj R)
 n3:qm (iC R)
 n4:qm (jg R)
 n5:qm (lK R)
 tk:0<=R.tick/\R.tick<=999999999
 l0:R.lines.length<=16
 l1:R.aE.length<=16
 l2:R.aj.length<=64
 l3:R.aC.length<=32
 l4:R.aF.length<=16
 l5:R.aJ.length<=16
 ln:∀x∈R.lines,1<=x.want/\x.want<=64
 tp:∀x∈R.aE,0<=x.last/\x.last<=999999999
 sh:∀x∈R.aj,x.line∈eP R/\x.aE≠[]/\x.aE.Nodup/\∀t∈x.aE,t∈iQ R
 md:∀x∈R.aC,((x.bC=[]/\x.line∈eP R)\/(x.bC≠[]/\x.line=[]))/\x.bC.length<=2/\∀t∈x.bC,t∈iC R
 jb:∀x∈R.aF,x.mod∈iC R/\1<=x.bE.length/\x.bE.length<=32/\∀s∈x.bE,-1<=s/\s<=999999999
 pc:∀x∈R.aJ,x.Bt∈jg R/\0<=x.mi/\x.mi<16777213
theorem eS.zero:eS dM.zero:=by
 refine⟨.nil,.nil,.nil,.nil,.nil,.nil,De,De,De,De,De,De,De,?_,?_,?_,?_,?_,?_⟩
 all_goals intro x hx;cases hx
structure j8(e:cY)(d:Kd):Prop where
 kd:iH e.kind=some d
 nu:1<=e.num/\e.num<=1000
 nl:e.names.length=(bN d).length
 vl:e.cw.length=cF d
 nm:∀n∈e.names,eE n=true
 vr:∀v∈e.cw,0<=v/\v<=999999999
 tx:e.text=[]
def iR{n lo hi}(h:¬bj n lo hi≠0):lo<=n/\n<=hi:=by
 unfold bj at h;split at h
 ·exact absurd De h
 ·omega
def p6{e}(h:eA e=0):∃d,j8 e d:=by
 unfold eA at h;split at h
 ·cases h
 case isFalse h0=>
 cases hk:iH e.kind with
 |none=>rw[hk]at h;cases h
 |some d=>
  rw[hk]at h;simp only at h;split at h
  ·cases h
  case isFalse h1=>
  split at h
  ·cases h
  case isFalse h2=>
  split at h
  ·cases h
  case isFalse h3=>
  split at h
  ·cases h
  case isFalse h4=>
  refine⟨d,hk,iR h0,Om,Om,?_,?_,by simpa using h4⟩
  ·intro n hn;cases hc:eE n with
   |true=>rfl
   |false=>exact absurd (abx.2 ⟨n,hn,by simp[hc]⟩) h2
  ·intro v hv;refine iR λhc=>h3 (abx.2 ⟨v,hv,by simpa using hc⟩)
def ER{e i}(h:i<e.names.length):aL e i∈e.names:=by
 rw[aL,aaN,Z6 h];exact aad h
def qR{e i}(h:i<e.cw.length):bI e i∈e.cw:=by
 rw[bI,aaN,Z6 h];exact aad h
def gW{α:Type}{l m:List α}{x:α}(h:x∈l):x∈l++m:=aac.2 (.inl h)
def jv{α:Type}{p:α->Prop}{l:List α}{y:α}(h:∀x∈l,p x)(hy:p y):∀x∈l++[y],p x:=by
 intro x hx;rcases aac.1 hx with hx|hx
 ·exact h x hx
 ·rw[aam]at hx;rw[hx];exact hy
def ra{α:Type}{p:α->Prop}{l:List α}{y:α}{i:Nat}(h:∀x∈l,p x)(hy:p y):∀x∈l.set i y,p x:=by
 intro x hx;rcases abO hx with hx|hx
 ·exact h x hx
 ·rw[hx];exact hy
def map_set{α:Type}{f:α->By}{l:List α}{n:By}{d y:α}(hn:n∈l.map f)(hy:f y=n):(l.set (bn (l.map f) n) y).map f=l.map f:=by
 rw[ab9];have:=oG hn;rw[hy]
 conv=>lhs;arg 3;rw[<-this]
 exact List.set_getElem_self _
structure sU(R:dM)(e:cY)(d:Kd):Prop where
 kn:∀i t,(bN d)[i]? =some (t,true)->aL e i∈GH R t
 fr:∀i t,(bN d)[i]? =some (t,false)->aL e i∉GH R t
theorem BF{R e}:∀{l}{i},lO R e l i=false->∀j t,l[j]? =some (t,true)->aL e (i+j)∈GH R t
 |[],i,_,j,t,h=>by simp at h
 |r::l,i,h,j,t,hj=>by
  rw[lO,Bool.or_eq_false_iff]at h;cases j with
  |zero=>
   simp only[abg,aaB]at hj;subst hj;have:=h.1;simp only[abu,Bool.not_eq_false',dD,aaK]at this;exact this
  |succ j=>
   simp only[abq]at hj;have:=BF h.2 j t hj
   rwa [Nat.add_assoc,acn 1 j]at this
theorem BM{R e}:∀{l}{i},pN R e l i=false->∀j t,l[j]? =some (t,false)->aL e (i+j)∉GH R t
 |[],i,_,j,t,h=>by simp at h
 |r::l,i,h,j,t,hj=>by
  rw[pN,Bool.or_eq_false_iff]at h;cases j with
  |zero=>
   simp only[abg,aaB]at hj;subst hj;have:=h.1;simp only[aay,abu,dD,abl]at this;exact this
  |succ j=>
   simp only[abq]at hj;have:=BM h.2 j t hj
   rwa [Nat.add_assoc,acn 1 j]at this
def wg{R e d}(h:ka d R e=0):sU R e d:=by
 unfold ka at h;split at h
 ·cases h
 case isFalse h1=>
 split at h
 ·cases h
 case isFalse h2=>
 refine⟨λi t hi=>?_,λi t hi=>?_⟩
 ·have:=BF (by simpa using h1) i t hi;rwa [aaP]at this
 ·have:=BM (by simpa using h2) i t hi;rwa [aaP]at this
def AN(x s:Int)(hx:0<=x)(hs:0<=s):0<=(257*x+s).tmod 16777213/\(257*x+s).tmod 16777213<16777213:=by
 rw[Int.tmod_eq_emod_of_nonneg Om];omega
theorem xC:∀(l:List Int) (x:Int),(∀s∈l,0<=s)->0<=x->x<16777213->0<=l.foldl (λx s=>(257*x+s).tmod 16777213) x/\l.foldl (λx s=>(257*x+s).tmod 16777213) x<16777213
 |[],x,_,h1,h2=>⟨h1,h2⟩
 |s::l,x,hs,h1,h2=>by
  have:=AN x s h1 (hs s Si);exact xC l _ (λt ht=>hs t (aaH _ ht)) this.1 this.2
def Fp{l}(hs:∀s∈l,0<=s):0<=gE l/\gE l<16777213:=xC l 1 hs De De
theorem tO:∀{l}{i},cZ l i=[]->∀s∈l,0<=s
 |[],_,_,s,hs=>by cases hs
 |x::r,i,h,s,hs=>by
  rw[cZ]at h;split at h
  ·cases h
  ·rcases aaJ.1 hs with rfl|hs
   ·omega
   ·exact tO h s hs
theorem eS.tick{R}(w:eS R){t}(h:0<=t/\t<=999999999):eS {R with tick:=t}:={w with tk:=h}
section
variable {R:dM}{e:cY}(w:eS R)
include w
theorem eS.MA{n}(hn:n∈jg R):gX R n∈R.aF/\(gX R n).name=n:=⟨hP hn,fB hn⟩
def eS.GR(s:Int)(hn:aL e 0∈jg R)(hs:-1<=s/\s<=999999999):eS {R with aF:=nD R e s}:=by
 have hj:=w.MA hn;have hm:List.map lH.name (nD R e s)=jg R:=map_set (d:=AA) hn hj.2;refine {w with n4:=?_,l4:=?_,jb:=?_,pc:=?_}
 ·show qm (List.map lH.name (nD R e s));rw[hm];exact w.n4
 ·show(nD R e s).length<=16;rw[nD,aaL];exact w.l4
 ·refine ra (λx hx=>w.jb x hx) ?_;have:=w.jb _ hj.1;refine⟨this.1,?_,?_,ra this.2.2.2 hs⟩
  ·show 1<=(List.set _ _ _).length;rw[aaL];exact this.2.1
  ·show(List.set _ _ _).length<=32;rw[aaL];exact this.2.2.1
 ·intro x hx;have:=w.pc x hx;exact⟨by show x.Bt∈List.map lH.name (nD R e s);rw[hm];exact this.1,this.2⟩
def eS.act{d:Kd}(he:j8 e d)(hk:sU R e d)(hc:bz R e d=0):eS (dF R e d):=by
 have gn:∀i,i<(bN d).length->eE (aL e i)=true:=λi hi=>he.nm _ (ER (by rw[he.nl];exact hi))
 have gv:∀i,i<cF d->0<=bI e i/\bI e i<=999999999:=λi hi=>he.vr _ (qR (by rw[he.vl];exact hi))
 cases d with
 |dR=>exact w
 |line=>
  have f0:aL e 0∉eP R:=hk.fr 0 0 rfl;rw[bz]at hc;split at hc
  ·cases hc
  case isFalse h1=>
  split at hc
  ·cases hc
  case isFalse h2=>
  have h1:=iR h1;have em:eP (dF R e .line)=eP R++[aL e 0]:=aae;refine {w with n0:=?_,l0:=?_,ln:=?_,sh:=?_,md:=?_}
  ·rw[em];exact w.n0.add (gn 0 De) f0
  ·show(R.lines++[_]).length<=16;rw[Z1,aau];omega
  ·exact jv w.ln h1
  ·intro x hx;have:=w.sh x hx;exact⟨by rw[em];exact gW this.1,this.2⟩
  ·intro x hx;obtain⟨h3,h4⟩:=w.md x hx;refine⟨?_,h4⟩;rcases h3 with h3|h3
   ·exact .inl ⟨h3.1,by rw[em];exact gW h3.2⟩
   ·exact .inr h3
 |tape=>
  have f0:aL e 0∉iQ R:=hk.fr 0 1 rfl;have v0:=gv 0 De;have v1:=gv 1 De;rw[bz]at hc;split at hc
  ·cases hc
  case isFalse h1=>
  split at hc
  ·cases hc
  case isFalse h2=>
  have em:iQ (dF R e .tape)=iQ R++[aL e 0]:=aae;refine {w with n1:=?_,l1:=?_,tp:=?_,sh:=?_}
  ·rw[em];exact w.n1.add (gn 0 De) f0
  ·show(R.aE++[_]).length<=16;rw[Z1,aau];omega
  ·exact jv w.tp (by show 0<=bI e 0+bI e 1/\bI e 0+bI e 1<=999999999;omega)
  ·intro x hx;obtain⟨h3,h4,h5,h6⟩:=w.sh x hx;exact⟨h3,h4,h5,λt ht=>by rw[em];exact gW (h6 t ht)⟩
 |gK=>
  have f0:aL e 0∉kj R:=hk.fr 0 2 rfl;have k1:aL e 1∈eP R:=hk.kn 1 0 rfl;have k2:aL e 2∈iQ R:=hk.kn 2 1 rfl;rw[bz]at hc;split at hc
  ·cases hc
  split at hc
  ·cases hc
  split at hc
  ·cases hc
  case isFalse h2=>
  have em:kj (dF R e .gK)=kj R++[aL e 0]:=aae;refine {w with n2:=?_,l2:=?_,sh:=?_}
  ·rw[em];exact w.n2.add (gn 0 De) f0
  ·show(R.aj++[_]).length<=64;rw[Z1,aau];omega
  ·refine jv w.sh ⟨k1,Si,Si,λt ht=>?_⟩;rw[aam]at ht;rw[ht];exact k2
 |copy=>
  have k1:aL e 1∈iQ R:=hk.kn 1 1 rfl;have en:∀x,(jS (aL e 0) (aL e 1) x).name=x.name:=λx=>by unfold jS;split<;>rfl
  have el:∀x,(jS (aL e 0) (aL e 1) x).line=x.line:=λx=>by unfold jS;split<;>rfl
  have em:kj (dF R e .copy)=kj R:=by
   show List.map _ (List.map _ _)=_;rw[abJ];exact List.map_congr_left λx _=>en x
  refine {w with n2:=?_,l2:=?_,sh:=?_}
  ·rw[em];exact w.n2
  ·show(List.map _ _).length<=64;rw[aaa];exact w.l2
  ·intro y hy;obtain⟨x,hx,rfl⟩:=aaA.1 (show y∈List.map _ R.aj from hy);obtain⟨h1,h2,h3,h4⟩:=w.sh x hx;rw[el];refine⟨h1,?_⟩;unfold jS;split
   case isFalse=>exact⟨h2,h3,h4⟩
   case isTrue h5=>
    refine⟨Si,?_,jv h4 k1⟩;refine List.nodup_append.2 ⟨h3,Si,λa ha b hb eq=>?_⟩;rw[aam]at hb;exact h5.2 (hb▸eq▸ha)
 |accept=>
  have k0:aL e 0∈eP R:=hk.kn 0 0 rfl;have em:eP (dF R e .accept)=eP R:=map_set (d:=Az) k0 (fB k0);refine {w with n0:=?_,l0:=?_,ln:=?_,sh:=?_,md:=?_}
  ·rw[em];exact w.n0
  ·show(List.set _ _ _).length<=16;rw[aaL];exact w.l0
  ·exact ra w.ln (w.ln (cC R (aL e 0)) (hP k0))
  ·intro x hx;have:=w.sh x hx;exact⟨by rw[em];exact this.1,this.2⟩
  ·intro x hx;obtain⟨h3,h4⟩:=w.md x hx;refine⟨?_,h4⟩;rcases h3 with h3|h3
   ·exact .inl ⟨h3.1,by rw[em];exact h3.2⟩
   ·exact .inr h3
 |source=>
  have f0:aL e 0∉iC R:=hk.fr 0 3 rfl;have k1:aL e 1∈eP R:=hk.kn 1 0 rfl;rw[bz]at hc;split at hc
  ·cases hc
  case isFalse h2=>
  have em:iC (dF R e .source)=iC R++[aL e 0]:=aae;refine {w with n3:=?_,l3:=?_,md:=?_,jb:=?_}
  ·exact HF
  ·exact NU
  ·refine jv (λx hx=>?_) ⟨.inl ⟨rfl,k1⟩,aaC _,λt ht=>by cases ht⟩;exact NW
  ·intro x hx;have:=w.jb x hx;exact⟨by rw[em];exact gW this.1,this.2⟩
 |gu=>
  have f0:aL e 0∉iC R:=hk.fr 0 3 rfl;have k1:aL e 1∈iC R:=hk.kn 1 3 rfl;have hl:e.names.length=2:=he.nl;have hdr:e.names.drop 1=[aL e 1]:=by
   match hn:e.names,hl with
   |[a,b],_=>simp[aL,hn]
  rw[bz]at hc;split at hc
  ·cases hc
  split at hc
  ·cases hc
  split at hc
  ·cases hc
  case isFalse h2=>
  have em:iC (dF R e .gu)=iC R++[aL e 0]:=aae;refine {w with n3:=?_,l3:=?_,md:=?_,jb:=?_}
  ·exact HF
  ·exact NU
  ·refine jv (λx hx=>?_) ?_
   ·exact NW
   ·simp only[hdr];exact⟨.inr Si,Si,λt ht=>by rw[aam]at ht;rw[ht,em];exact gW k1⟩
  ·intro x hx;have:=w.jb x hx;exact⟨by rw[em];exact gW this.1,this.2⟩
 |merge=>
  have f0:aL e 0∉iC R:=hk.fr 0 3 rfl;have k1:aL e 1∈iC R:=hk.kn 1 3 rfl;have k2:aL e 2∈iC R:=hk.kn 2 3 rfl;have hl:e.names.length=3:=he.nl;have hdr:e.names.drop 1=[aL e 1,aL e 2]:=by
   match hn:e.names,hl with
   |[a,b,c],_=>simp[aL,hn]
  rw[bz]at hc;split at hc
  ·cases hc
  split at hc
  ·cases hc
  split at hc
  ·cases hc
  case isFalse h2=>
  have em:iC (dF R e .merge)=iC R++[aL e 0]:=aae;refine {w with n3:=?_,l3:=?_,md:=?_,jb:=?_}
  ·exact HF
  ·exact NU
  ·refine jv (λx hx=>?_) ?_
   ·exact NW
   ·simp only[hdr];refine⟨.inr Si,Si,λt ht=>?_⟩;rw[em];rcases aaJ.1 ht with ht|ht
    ·rw[ht];exact gW k1
    ·rw[aam]at ht;rw[ht];exact gW k2
  ·intro x hx;have:=w.jb x hx;exact⟨by rw[em];exact gW this.1,this.2⟩
 |run=>
  have f0:aL e 0∉jg R:=hk.fr 0 4 rfl;have k1:aL e 1∈iC R:=hk.kn 1 3 rfl;rw[bz]at hc;split at hc
  ·cases hc
  split at hc
  ·cases hc
  case isFalse h1=>
  split at hc
  ·cases hc
  case isFalse h2=>
  have h1:=iR h1;have em:jg (dF R e .run)=jg R++[aL e 0]:=aae;refine {w with n4:=?_,l4:=?_,jb:=?_,pc:=?_}
  ·rw[em];exact w.n4.add (gn 0 De) f0
  ·show(R.aF++[_]).length<=16;rw[Z1,aau];omega
  ·refine jv w.jb ⟨k1,?_,?_,λs hs=>?_⟩
   ·show 1<=(List.replicate _ _).length;rw[abd];omega
   ·show(List.replicate _ _).length<=32;rw[abd];omega
   ·rw[(List.mem_replicate.1 hs).2];decide
  ·intro x hx;have:=w.pc x hx;exact⟨by rw[em];exact gW this.1,this.2⟩
 |gp=>exact w.GR _ (hk.kn 0 4 rfl) (by have:=gv 2 De;omega)
 |fail=>exact w.GR _ (hk.kn 0 4 rfl) De
 |gL=>
  have f0:aL e 0∉lK R:=hk.fr 0 5 rfl;have k1:aL e 1∈jg R:=hk.kn 1 4 rfl;rw[bz]at hc;split at hc
  ·cases hc
  split at hc
  ·cases hc
  case isFalse h1=>
  split at hc
  ·cases hc
  case isFalse h2=>
  have em:lK (dF R e .gL)=lK R++[aL e 0]:=aae;refine {w with n5:=?_,l5:=?_,pc:=?_}
  ·rw[em];exact w.n5.add (gn 0 De) f0
  ·show(R.aJ++[_]).length<=16;rw[Z1,aau];omega
  ·exact jv w.pc ⟨k1,Fp (tO (Classical.not_not.1 h1))⟩
 |rel=>
  have k0:aL e 0∈lK R:=hk.kn 0 5 rfl;have em:lK (dF R e .rel)=lK R:=map_set (d:=Ir) k0 (fB k0);refine {w with n5:=?_,l5:=?_,pc:=?_}
  ·rw[em];exact w.n5
  ·show(List.set _ _ _).length<=16;rw[aaL];exact w.l5
  ·exact ra w.pc (w.pc (kC R (aL e 0)) (hP k0))
def eS.step{d}(he:j8 e d)(hd:d≠.dR)(h:fD R e d=0):eS (fQ R e d):=by
 unfold fD at h;split at h
 ·cases h
 split at h
 case isTrue h1=>exact absurd h h1
 case isFalse h1=>
 have h1:=Classical.not_not.1 h1;refine(w.act he (wg h1) h).tick (he.vr _ (qR ?_));rw[he.vl];cases d<;>first|exact absurd rfl hd|decide
end
def cV{α:Type}(p:α->Bool)(L:List α):Int:=
 match L.findIdx? p with
 |some i=>(i:Int)
 |none=>-1
def oX{α:Type}(p:α->Bool)(L:List α):decide (0<=cV p L)=L.any p:=by
 unfold cV;cases hx:L.findIdx? p with
 |none=>
  simp only[List.findIdx?_eq_none_iff]at hx;have:L.any p=false:=by rw[List.any_eq_false];intro x SO;simp[hx x SO]
  rw[this];rfl
 |some i=>
  have h1:=List.findIdx?_isSome (xs:=L) (p:=p);rw[hx]at h1;rw[<-h1];simp
def aq(x:By):List AV:=[.str x]
def bw(x:gN):List AV:=[.str x.name,.i x.want,.bool x.acc]
def cB(x:sR):List AV:=[.str x.name,.i x.last]
def aU(x:jc×AV):List AV:=[.str x.1.name,.str x.1.line,x.2]
def aR(x:iP×AV):List AV:=[.str x.1.name,.str x.1.gives,.str x.1.line,x.2]
def bF(x:lH×AV):List AV:=[.str x.1.name,.str x.1.mod,x.2]
def cD(x:qM):List AV:=[.str x.name,.str x.Bt,.i x.mi,.bool x.rel]
structure RV where
 tick:Int
 lines:List gN
 aE:List sR
 aj:List (jc×AV)
 aC:List (iP×AV)
 aF:List (lH×AV)
 aJ:List qM
 s0:AV
 s1:AV
 s2:AV
 s3:AV
 s4:AV
 s5:AV
def RV.an(V:RV):dM:=⟨V.tick,V.lines,V.aE,V.aj.map Prod.fst,V.aC.map Prod.fst,V.aF.map Prod.fst,V.aJ⟩
def RV.row(V:RV):List AV:=[.i V.tick,V.s0,V.s1,V.s2,V.s3,V.s4,V.s5]
def RV.zero:RV:=⟨0,[],[],[],[],[],[],.af,.af,.af,.af,.af,.af⟩
structure aB(h:ah)(V:RV):Prop where
 i0:aI h V.s0 3 (V.lines.map bw)
 i1:aI h V.s1 2 (V.aE.map cB)
 i2:aI h V.s2 3 (V.aj.map aU)
 i3:aI h V.s3 4 (V.aC.map aR)
 i4:aI h V.s4 3 (V.aF.map bF)
 i5:aI h V.s5 4 (V.aJ.map cD)
 e2:∀x∈V.aj,aI h x.2 1 (x.1.aE.map aq)
 e3:∀x∈V.aC,aI h x.2 1 (x.1.bC.map aq)
 e4:∀x∈V.aF,aI h x.2 1 (x.1.bE.map aM)
theorem aB.ext{h k V}(o:aB h V)(e:Ext h k):aB k V:=
 ⟨o.i0.ext e,o.i1.ext e,o.i2.ext e,o.i3.ext e,o.i4.ext e,o.i5.ext e,λx hx=>(o.e2 x hx).ext e,λx hx=>(o.e3 x hx).ext e,λx hx=>(o.e4 x hx).ext e⟩
theorem aB.zero{h}:aB h RV.zero:=by
 refine⟨.nil,.nil,.nil,.nil,.nil,.nil,?_,?_,?_⟩
 all_goals intro x hx;cases hx
def sB:AV->Option Nat
 |.slice b _ _ _=>some b
 |_=>none
def OL{v b}(h:sB v=some b):∃o n e,v=.slice b o n e:=by
 cases v with
 |slice b' o n e=>cases h;exact⟨o,n,e,rfl⟩
 |_=>cases h
def Fr.bQ{N h s es cs}(hs:Fr N h s es cs){b}(hb:sB s=some b):N<=b/\b<h.length:=by
 obtain⟨o,n,e,rfl⟩:=OL hb;exact hs.lt rfl
def Fr.aD{N h k s es cs}(hs:Fr N h s es cs)(hk:∀b,sB s=some b->k[b]? =h[b]?):Fr N k s es cs:=by
 exact KJ
def RV.bl(V:RV):List (Option Nat):=[sB V.s0,sB V.s1,sB V.s2,sB V.s3,sB V.s4,sB V.s5]++(V.aj.map λx=>sB x.2)++(V.aC.map λx=>sB x.2)++(V.aF.map λx=>sB x.2)
def lL(l:List (Option Nat)):Prop:=l.Pairwise λx y=>∀b,x=some b->y≠some b
structure cK(N:Nat)(h:ah)(V:RV):Prop where
 i0:Fr N h V.s0 3 (V.lines.map bw)
 i1:Fr N h V.s1 2 (V.aE.map cB)
 i2:Fr N h V.s2 3 (V.aj.map aU)
 i3:Fr N h V.s3 4 (V.aC.map aR)
 i4:Fr N h V.s4 3 (V.aF.map bF)
 i5:Fr N h V.s5 4 (V.aJ.map cD)
 e2:∀x∈V.aj,Fr N h x.2 1 (x.1.aE.map aq)
 e3:∀x∈V.aC,Fr N h x.2 1 (x.1.bC.map aq)
 e4:∀x∈V.aF,Fr N h x.2 1 (x.1.bE.map aM)
 di:lL V.bl
def cK.ok{N h V}(o:cK N h V):aB h V:=
 ⟨o.i0.aY,o.i1.aY,o.i2.aY,o.i3.aY,o.i4.aY,o.i5.aY,λx hx=>(o.e2 x hx).aY,λx hx=>(o.e3 x hx).aY,λx hx=>(o.e4 x hx).aY⟩
theorem cK.app{N h V}(o:cK N h V)(g:ah):cK N (h++g) V:=
 ⟨o.i0.app g,o.i1.app g,o.i2.app g,o.i3.app g,o.i4.app g,o.i5.app g,λx hx=>(o.e2 x hx).app g,λx hx=>(o.e3 x hx).app g,λx hx=>(o.e4 x hx).app g,o.di⟩
def cK.ar{N h k V}(o:cK N h V)(hk:∀b,some b∈V.bl->k[b]? =h[b]?):cK N k V:=by
 have m6:∀x∈[sB V.s0,sB V.s1,sB V.s2,sB V.s3,sB V.s4,sB V.s5],x∈V.bl:=λx hx=>by simp only[RV.bl,aac];exact .inl (.inl (.inl hx))
 refine⟨o.i0.aD λb hb=>hk b (hb▸m6 _ Si),o.i1.aD λb hb=>hk b (hb▸m6 _ Si),o.i2.aD λb hb=>hk b (hb▸m6 _ Si),o.i3.aD λb hb=>hk b (hb▸m6 _ Si),o.i4.aD λb hb=>hk b (hb▸m6 _ Si),o.i5.aD λb hb=>hk b (hb▸m6 _ Si),
  λx hx=>(o.e2 x hx).aD λb hb=>hk b ?_,λx hx=>(o.e3 x hx).aD λb hb=>hk b ?_,λx hx=>(o.e4 x hx).aD λb hb=>hk b ?_,o.di⟩
 ·exact KL
 ·exact KH
 ·exact KA
structure EV where
 ev:cY
 sn:AV
 sv:AV
def EV.row(x:EV):List AV:=[.i x.ev.num,.str x.ev.kind,x.sn,x.sv,.str x.ev.text]
structure bh(h:ah)(x:EV):Prop where
 n:aI h x.sn 1 (x.ev.names.map aq)
 v:aI h x.sv 1 (x.ev.cw.map aM)
theorem bh.ext{h k x}(o:bh h x)(e:Ext h k):bh k x:=⟨o.n.ext e,o.v.ext e⟩
structure du(h:ah)(L:List EV)(s:AV):Prop where
 sl:aI h s 5 (L.map EV.row)
 all:∀x∈L,bh h x
theorem du.ext{h k L s}(o:du h L s)(e:Ext h k):du k L s:=⟨o.sl.ext e,λx hx=>(o.all x hx).ext e⟩
end Go.Abs
namespace Go.Abs
inductive Ow (N:Nat) (h:ah):AV->Nat->List (List AV)->Prop
 |nil {es:Nat}:Ow N h .af es []
 |mk {b es:Nat}{cs:List (List AV)}{junk:List AV}(hN:N<=b) (hb:h[b]? =some (.cells (cs.flatten++junk) true true)) (he:∀x∈cs,x.length=es):Ow N h (.slice b 0 cs.length es) es cs
def Ow.aY{N h s es cs}(hs:Ow N h s es cs):aI h s es cs:=by
 cases hs with
 |nil=>exact .nil
 |mk hN hb he=>
  have hl:=fh he;exact .mk hb (by rw[abt,<-hl,List.take_left]) (by rw[Z1];omega) he
def Ow.bQ{N h s es cs}(hs:Ow N h s es cs){b}(hb:sB s=some b):N<=b/\b<h.length:=by
 cases hs with
 |nil=>cases hb
 |mk hN hb' he=>cases hb;exact⟨hN,(Z2.1 hb').1⟩
def Ow.aD{N h k s es cs}(hs:Ow N h s es cs)(hk:∀b,sB s=some b->k[b]? =h[b]?):Ow N k s es cs:=by
 exact KJ
def Ow.cut{N h s es cs}(hs:Ow N h s es cs){n:Nat}(hn:n<=cs.length){k}:
  ∃s',Al es s none (some (.int k (n:Int)))=some (s',.ar)/\sB s' =sB s/\Ow N h s' es (cs.take n):=by
 cases hs with
 |nil=>
  have:n=0:=by simpa using hn
  subst this;exact⟨.af,by simp only[Al,jt (aah 0)],rfl,by rw[List.take_nil];exact .nil⟩
 | @mk b _ _ junk hN hb he=>
  refine⟨.slice b 0 n es,?_,rfl,?_⟩
  ·simp only[Al,aan,jt hn,ab7,ab8,Nat.sub_zero]
  ·have hl:(cs.take n).length=n:=by rw[aaQ];omega
   have hf:cs.flatten++junk=(cs.take n).flatten++((cs.drop n).flatten++junk):=by
    rw[<-Z4,<-abM,abn]
   rw[hf]at hb;have:=Ow.mk (cs:=cs.take n) hN hb (λx hx=>he x (aa4 hx))
   rwa [hl]at this
section
variable {P:Program}{ro:Option Nat->Prop}{ks:List Kt}{ts:TS}{Q:Ex->TS->ah->Prop}
def WR.Ju{h s y es cs ys N w d l}(hs:Ow N h s es cs)(hy:aI h y es ys)(hN:N<=h.length)(hes:0<es)(hne:0<ys.length)(eQ:(cs.length+ys.length)*w<=2^46)
  (K:∀h',h'.length=h.length+1->Ow N h' (.slice h.length 0 (cs++ys).length es) es (cs++ys)->(∀b,b<h.length->sB s≠some b->h'[b]? =h[b]?)->WP P ro l ks (put ts d (.slice h.length 0 (cs++ys).length es)) h' Q):
  WR P ro (qb es w s y (λb=>h[b]?) h.length) false d l ks ts h Q:=by
 have UJ:∀x∈cs++ys,x.length=es:=λx hx=>by
  exact KK
 have hk:¬ys.length=0:=Om
 simp only[qb,hy.fG];have mk:∀h1:ah,h1.length=h.length->Ow N (h1++[.cells (cs++ys).flatten true true]) (.slice h.length 0 (cs++ys).length es) es (cs++ys):=by
  intro h1 h1l;refine Ow.mk (junk:=[]) hN ?_ UJ;rw[aaw,<-h1l];exact ba
 cases hs with
 |nil=>
  simp only[Z9,aaP]at eQ;simp only[aab hk,aai eQ];rw[mN];have hK:=K (h++[.cells ys.flatten true true]) Si (mk h rfl) (λb hb _=>Z7 hb);exact hK
 | @mk b _ _ junk hbN hb hre=>
  have hcl:=fh hre;simp only[aan,aab hk,aai eQ,hb,aaP];rw[aai (by rw[Z1];omega),nS];have hbl:b<h.length:=(Z2.1 hb).1;have hc:List.take (cs.length*es) (List.drop 0 (cs.flatten++junk))=cs.flatten:=by rw[abt,<-hcl,List.take_left]
  rw[hc];have hK:=K (h.set b .dead++[.cells (cs++ys).flatten true true]) Si (mk _ Si) (λi hi hne=>by
   have:b≠i:=λe=>hne (by rw[<-e];rfl)
   rw[Z7 (by simpa using hi),aaj this])
  simp only[abM,Z1]at hK ⊢;exact hK
end
def fZ(ex:List (Option Nat))(h:ah):ah:=h.mapIdx λb k=>if some b∈ex then .dead else k
def uG{ex h b}(hb:some b∉ex):(fZ ex h)[b]? =h[b]? :=by
 rw[fZ,List.getElem?_mapIdx];cases h[b]? with
 |none=>rfl
 |some k=>simp[hb]
def rT{ex h b c mu tl}(hb:(fZ ex h)[b]? =some (.cells c mu tl)):some b∉ex/\h[b]? =some (.cells c mu tl):=by
 rw[fZ,List.getElem?_mapIdx]at hb;cases hk:h[b]? with
 |none=>rw[hk]at hb;cases hb
 |some k=>
  rw[hk]at hb;simp only[abT,aaB]at hb;split at hb
  ·cases hb
  case isFalse h1=>exact⟨h1,by rw[hb]⟩
def jQ(k h:ah):Prop:=∀(b:Nat) (c:List AV) (mu tl:Bool),k[b]? =some (ak.cells c mu tl)->h[b]? =some (ak.cells c mu tl)
def aI.sub{k h s es cs}(o:aI k s es cs)(e:jQ k h):aI h s es cs:=by
 cases o with
 |nil=>exact .nil
 |mk hb hf ho he=>exact .mk (e _ _ _ _ hb) hf ho he
theorem aB.sub{k h V}(o:aB k V)(e:jQ k h):aB h V:=
 ⟨o.i0.sub e,o.i1.sub e,o.i2.sub e,o.i3.sub e,o.i4.sub e,o.i5.sub e,λx hx=>(o.e2 x hx).sub e,λx hx=>(o.e3 x hx).sub e,λx hx=>(o.e4 x hx).sub e⟩
theorem bh.sub{k h x}(o:bh k x)(e:jQ k h):bh h x:=⟨o.n.sub e,o.v.sub e⟩
theorem jQ.fZ(ex:List (Option Nat))(h:ah):jQ (fZ ex h) h:=λ_ _ _ _ hb=>(rT hb).2
theorem aI.fZ{h s es cs}(o:aI h s es cs){ex}(hx:∀b,sB s=some b->some b∉ex):aI (Go.Abs.fZ ex h) s es cs:=by
 cases o with
 |nil=>exact .nil
 |mk hb hf ho he=>exact .mk ((uG (hx _ rfl)).trans hb) hf ho he
def aB.ar{h k V}(o:aB h V)(hk:∀b,some b∈V.bl->k[b]? =h[b]?):aB k V:=by
 have m6:∀x∈[sB V.s0,sB V.s1,sB V.s2,sB V.s3,sB V.s4,sB V.s5],x∈V.bl:=λx hx=>by simp only[RV.bl,aac];exact .inl (.inl (.inl hx))
 have kp:∀{s:AV}{es:Nat}{cs:List (List AV)},aI h s es cs->(∀b,sB s=some b->k[b]? =h[b]?)->aI k s es cs:=λ{s es cs} hs hb=>by
  cases hs with
  |nil=>exact .nil
  |mk h1 h2 h3 h4=>exact .mk ((hb _ rfl).trans h1) h2 h3 h4
 refine⟨kp o.i0 λb hb=>hk b (hb▸m6 _ Si),kp o.i1 λb hb=>hk b (hb▸m6 _ Si),kp o.i2 λb hb=>hk b (hb▸m6 _ Si),kp o.i3 λb hb=>hk b (hb▸m6 _ Si),kp o.i4 λb hb=>hk b (hb▸m6 _ Si),kp o.i5 λb hb=>hk b (hb▸m6 _ Si),
  λx hx=>kp (o.e2 x hx) λb hb=>hk b ?_,λx hx=>kp (o.e3 x hx) λb hb=>hk b ?_,λx hx=>kp (o.e4 x hx) λb hb=>hk b ?_⟩
 ·exact KL
 ·exact KH
 ·exact KA
structure HV where
 c9:List EV
 eT:List EV
 cM:List RV
 se:AV
 sc:AV
 sr:AV
def HV.bY(V:HV):gO:=⟨V.c9.map EV.ev,V.eT.map EV.ev,V.cM.map RV.an⟩
def HV.ex(b:Nat)(V:HV):List (Option Nat):=[some b,sB V.se,sB V.sc,sB V.sr]
structure cJ(N:Nat)(h:ah)(b:Nat)(V:HV):Prop where
 hN:N<=b
 hb:h[b]? =some (.b [V.se,V.sc,V.sr])
 oe:Ow N h V.se 5 (V.c9.map EV.row)
 oc:Ow N h V.sc 5 (V.eT.map EV.row)
 og:Ow N h V.sr 7 (V.cM.map RV.row)
 di:lL (V.ex b)
 ae:∀x∈V.c9,bh (fZ (V.ex b) h) x
 ac:∀x∈V.eT,bh (fZ (V.ex b) h) x
 ag:∀x∈V.cM,aB (fZ (V.ex b) h) x
 lo:∀x∈V.cM,∀j,some j∈x.bl->N<=j
def nX{ex ex' h h'}(hk:∀b,b<h.length->some b∉ex->h'[b]? =h[b]?)(he:∀b,b<h.length->some b∈ex'->some b∈ex):jQ (fZ ex h) (fZ ex' h'):=by
 intro b c mu tl hb;obtain⟨h1,h2⟩:=rT hb;have hlt:b<h.length:=(Z2.1 h2).1;rw[uG λh3=>h1 (he b hlt h3),hk b hlt h1,h2]
def cJ.app{N h b V}(o:cJ N h b V)(g:ah):cJ N (h++g) b V:=by
 have hs:jQ (fZ (V.ex b) h) (fZ (V.ex b) (h++g)):=nX (λb hb _=>Z7 hb) (λb _ hb=>hb);have hbl:=(Z2.1 o.hb).1;exact⟨o.hN,(Z7 hbl).trans o.hb,o.oe.aD λb hb=>Z7 (o.oe.bQ hb).2,o.oc.aD λb hb=>Z7 (o.oc.bQ hb).2,o.og.aD λb hb=>Z7 (o.og.bQ hb).2,o.di,
  λx hx=>(o.ae x hx).sub hs,λx hx=>(o.ac x hx).sub hs,λx hx=>(o.ag x hx).sub hs,o.lo⟩
end Go.Abs
namespace Go.Abs
def kG:By->Bool
 |[]=>true
 |c::r=>gC c&&r.all ku
def tM(s:By):eE s=(decide (s≠[])&&decide (s.length<=24)&&kG s):=by
 cases s with
 |nil=>rfl
 |cons c r=>
  have:(r.length<24)=((c::r).length<=24):=by simp;omega
  simp only[eE,kG,this];simp[Bool.and_assoc]
def AK{s:By}{k:Nat}(hk:k<s.length):kG (s.take (k+1))=(kG (s.take k)&&(if k=0 then gC s[k]else ku s[k])):=by
 cases s with
 |nil=>simp at hk
 |cons c r=>
  cases k with
  |zero=>simp[kG]
  |succ k=>
   have hk':k<r.length:=by simpa using hk
   simp only[abS,kG,List.getElem_cons_succ];rw[aaO,Z6 hk',Option.toList_some];rw[List.all_append,abD,List.all_nil,Bool.and_true,Bool.and_assoc,aab Om]
def AJ{s k}(h:kG (s.take k)=false):kG s=false:=by
 cases s with
 |nil=>simp[kG]at h
 |cons c r=>
  cases k with
  |zero=>simp[kG]at h
  |succ k=>
   simp only[abS,kG,Bool.and_eq_false_iff]at h ⊢;rcases h with h|h
   ·exact .inl h
   ·right
    rw[List.all_eq_false]at h ⊢;obtain⟨x,hx,hr⟩:=h;exact⟨x,aa4 hx,hr⟩
def dec_lt{s i}(hi:i<s.length)(h:s[i].toNat<128):Utf8.decode ⟨⟨s⟩⟩ i=(s[i].toNat,1):=by
 have hg:(ByteArray.get! ⟨⟨s⟩⟩ i).toNat=s[i].toNat:=by
  simp[ByteArray.get!,hi]
 simp only[Utf8.decode,ab8,hg,aai h]
def Jh{s i}(hi:i<s.length)(h:128<=s[i].toNat):128<=(Utf8.decode ⟨⟨s⟩⟩ i).1:=by
 have hg:(ByteArray.get! ⟨⟨s⟩⟩ i).toNat=s[i].toNat:=by
  simp[ByteArray.get!,hi]
 simp only[Utf8.decode,ab8,hg];rw[aab Om];simp only[Utf8.runeError]
 repeat' split
 all_goals first
  |(simp only;omega)
  |(simp only[aaD,aaK]at *;omega)
section
variable {P:Program}(T:fq P) {h:ah}
include T
def r85(c:Bool)(e:Int):ay P 85 [.bool c,.i e] h (λv _=>v=.i (bW c e)):=by
 refine .of T.mix T.c85 ?_;unfold fn85 gA;simp only[uset];cases c<;>simp only[aO]<;>rfl
def r82(c:Bool)(e:Int):ay P 82 [.bool c,.i e] h (λv _=>v=.i (bW c e)):=by
 refine .of T.mix T.c82 ?_;unfold fn82 gA;simp only[uset];cases c<;>simp only[aO]<;>rfl
def r94(n lo hi:Int):ay P 94 [.i n,.i lo,.i hi] h (λv _=>v=.i (bj n lo hi)):=by
 refine .of T.mix T.c94 ?_;unfold fn94 gA;simp only[uset];simp+contextual only[aO,nw,aaq,aaz];refine⟨λh1=>?_,λh1=>?_⟩<;>
 ·refine WF.res T.c85 (r85 T _ _) ?_;rintro _ g rfl;simp only[aO];simp[bW,bj,h1]
def r74{s l}(hs:aI h s 1 (l.map aM))(hl:l.length<2^63):ay P 74 [s] h (λv _=>v=.i (aQ l)):=by
 refine .of T.mix T.c74 ?_;unfold fn74 gA;simp only[uset];have e1:(l.map aM).length=l.length:=Si
 simp only[aO,hs.ja,e1];refine WL.inv T.mix (λn ts h'=>∃k:Nat,k<=l.length/\n=l.length-k/\h' =h/\aQ l=aQ (l.drop k)/\ts.length=15/\slot ts 5=s/\slot ts 6=.i l.length/\slot ts 7=.i k) l.length
  ⟨0,Om,rfl,rfl,rfl,rfl,rfl,rfl,rfl⟩ ?_
 rintro _ ts _ ⟨k,hk,rfl,rfl,hf,hlen,h5,h6,h7⟩;rw[lG ts 15 hlen];by_cases hlt:k<l.length
 ·have hd:l.drop k=l[k]::l.drop (k+1):=Si
  have e2:(l.map aM)[k]'Om=[AV.i l[k]]:=Si
  have e3:(k:Int)<l.length:=Om
  simp+contextual (disch:=omega) only[aO,nw,h5,h6,h7,e3,aaq,hs.bp,Int.toNat_natCast,hs.G0 _ e2,bD];exact Rf
 ·have e3:¬(k:Int)<l.length:=Om
  have e4:k=l.length:=Om
  simp+contextual (disch:=omega) only[aO,h5,h6,h7,e3,aaz,aan];rw[hf,e4,aa2];rfl
def r83{s l}(hs:aI h s 1 (l.map aM))(hl:l.length<2^63):ay P 83 [s] h (λv _=>v=.i (aQ l)):=by
 refine .of T.mix T.c83 ?_;unfold fn83 gA;simp only[uset];have e1:(l.map aM).length=l.length:=Si
 simp only[aO,hs.ja,e1];refine WL.inv T.mix (λn ts h'=>∃k:Nat,k<=l.length/\n=l.length-k/\h' =h/\aQ l=aQ (l.drop k)/\ts.length=19/\slot ts 0=s/\slot ts 3=.i k) l.length
  ⟨0,Om,rfl,rfl,rfl,rfl,rfl,rfl⟩ ?_
 rintro _ ts _ ⟨k,hk,rfl,rfl,hf,hlen,h0,h3⟩;rw[lG ts 19 hlen];by_cases hlt:k<l.length
 ·have hd:l.drop k=l[k]::l.drop (k+1):=Si
  have e2:(l.map aM)[k]'Om=[AV.i l[k]]:=Si
  have e3:(k:Int)<l.length:=Om
  simp+contextual (disch:=omega) only[aO,nw,h0,h3,e3,e1,aaq,hs.ja,hs.bp,Int.toNat_natCast,hs.G0 _ e2,bD];exact Rf
 ·have e3:¬(k:Int)<l.length:=Om
  have e4:k=l.length:=Om
  simp+contextual (disch:=omega) only[aO,h0,h3,e1,e3,aaz,hs.ja,aan];rw[hf,e4,aa2];rfl
def r193(c:UInt8):ay P 193 [.int .u8 c.toNat] h (λv _=>v=.bool (gC c)):=by
 refine .of T.mix T.c193 ?_;unfold fn193 gA;simp only[uset];simp+contextual only[aO,nw,aaq,aaz]
 grind [gC]
def r194(c:UInt8):ay P 194 [.int .u8 c.toNat] h (λv _=>v=.bool (fE c)):=by
 refine .of T.mix T.c194 ?_;unfold fn194 gA;simp only[uset];simp+contextual only[aO,nw,aaq,aaz]
 grind [fE]
def r102(s:By)(hl:s.length<2^63):ay P 102 [.str s] h (λv _=>v=.bool (eE s)):=by
 refine .of T.mix T.c102 ?_;unfold fn102 gA;simp only[uset];cases s with
 |nil=>
  simp only[aO,Z9];simp only[show((0:Nat):Int)=0 from rfl,aaq,aO];rfl
 |cons c r=>
  have e1:¬(((c::r).length:Nat):Int)=0:=by simp;omega
  simp+contextual only[aO,nw,e1,aaq,aaz];refine⟨λh1=>?_,λh1=>?_⟩
  ·have:¬r.length<24:=by simp at h1;omega
   simp[eE,this]
  ·rw[wG];simp only[aO];refine WF.ce T.c193 (r193 T _) λg=>?_
   have hlt:r.length<24:=by simp at h1;omega
   cases hc:gC c with
   |false=>
    simp only[aO,aay];simp[eE,hc]
   |true=>
    simp only[aO,aar];have key:eE (c::r)=r.all ku:=by simp[eE,hc,hlt]
    refine WL.inv T.mix (λn ts h'=>∃k:Nat,k<=r.length/\n=r.length-k/\Ext h h'/\r.all ku=(r.drop k).all ku/\ts.length=42/\slot ts 0=.str (c::r)/\slot ts 3=.i (k+1)) r.length
     ⟨0,Om,rfl,⟨_,rfl⟩,rfl,rfl,rfl,rfl⟩ ?_
    rintro _ ts _ ⟨k,hk,rfl,⟨g',rfl⟩,hf,hlen,h0,h3⟩;rw[lG ts 42 hlen];have hlc:(c::r).length=r.length+1:=rfl;by_cases hlt:k<r.length
    ·have hd:r.drop k=r[k]::r.drop (k+1):=Si
     have e3:(k:Int)+1<((c::r).length:Nat):=Om
     have e4:wI (.str (c::r)) (.i (k+1))=some (.int .u8 r[k].toNat):=ke (s:=c::r) (i:=k+1) Om;simp only[aO,h0,h3,e3,aaq,e4];refine WF.ce T.c193 (r193 T _) λg1=>?_
     cases hx:gC r[k]with
     |true=>
      simp (disch:=omega) only[aO,aar,bD];exact⟨_,Om,k+1,Om,rfl,by rw[hf,hd,abD,ku,hx,Bool.true_or,Bool.true_or,abu],rfl⟩
     |false=>
      simp only[aO,aay,h0,h3,e4];refine WF.ce T.c194 (r194 T _) λg2=>?_
      cases hy:fE r[k]with
      |true=>
       simp (disch:=omega) only[aO,aar,bD];exact⟨_,Om,k+1,Om,rfl,by rw[hf,hd,abD,ku,hx,hy,Bool.or_true,Bool.true_or,abu],rfl⟩
      |false=>
       simp+contextual (disch:=omega) only[aO,nw,aay,h0,h3,e4,bD];refine⟨λh9=>?_,λh9=>⟨_,Om,k+1,Om,rfl,?_,rfl⟩⟩
       ·rw[key,hf,hd,abD,ku,hx,hy];simp;omega
       ·rw[hf,hd,abD,ku,hx,hy];simp;omega
    ·have e3:¬(k:Int)+1<((c::r).length:Nat):=Om
     have e4:k=r.length:=Om
     simp only[aO,h0,h3,e3,aaz,aan];rw[key,hf,e4,aa2];rfl
def r132(s:By):ay P 132 [.str s] h (λv _=>v=.bool (eE s)):=by
 refine .of T.mix T.c132 ?_;unfold fn132 gA;simp only[uset];simp only[aO,aT];refine WL.inv T.mix (λn ts h'=>∃k:Nat,k<=s.length/\n=s.length-k/\h' =h++[.iter s k]/\kG (s.take k)=true/\ts.length=54/\slot ts 0=.str s/\slot ts 8=.ptr h.length 0) s.length
  ⟨0,Om,rfl,rfl,rfl,rfl,rfl,rfl⟩ ?_
 rintro _ ts _ ⟨k,hk,rfl,rfl,hf,hlen,h0,h8⟩;rw[lG ts 54 hlen];by_cases hlt:k<s.length
 ·have Tw:=AK hlt;rw[hf,abu]at Tw;obtain⟨c,w,Vd,hcw⟩:∃c w,Utf8.decode ⟨⟨s⟩⟩ k=(c,w)/\(c=s[k].toNat/\w=1\/128<=c/\128<=s[k].toNat):=by
   by_cases hc:s[k].toNat<128
   ·exact⟨_,_,dec_lt hlt hc,.inl ⟨rfl,rfl⟩⟩
   ·exact z201
  have UX:(if k=0 then gC s[k]else ku s[k])=false->AV.bool false=AV.bool (eE s):=λhb=>by
   rw[hb]at Tw;rw[tM,AJ Tw,Bool.and_false]
  have YN:∀w',c=s[k].toNat/\w' =1->(if k=0 then gC s[k]else ku s[k])=true->∃m,m<s.length-k/\∃k_1,k_1<=s.length/\m=s.length-k_1/\h++[ak.iter s (k+w')]=h++[ak.iter s k_1]/\kG (List.take k_1 s)=true/\True:=λw' hw hb=>by
   rw[hb]at Tw;exact⟨_,Om,k+1,Om,rfl,by rw[hw.2],Tw,trivial⟩
  have hl:gC s[k]=(decide (65<=s[k].toNat)&&decide (s[k].toNat<=90)||decide (97<=s[k].toNat)&&decide (s[k].toNat<=122)):=rfl;have hr:ku s[k]=(gC s[k]||(decide (48<=s[k].toNat)&&decide (s[k].toNat<=57))||s[k].toNat==95):=rfl;have h0':((k:Int)=0)=(k=0):=Si
  by_cases a1:(65:Int)<=c<;>by_cases a2:(c:Int)<=90<;>by_cases a3:(97:Int)<=c<;>by_cases a4:(c:Int)<=122<;>first|(exfalso;omega)|skip
  all_goals by_cases a5:(48:Int)<=c<;>by_cases a6:(c:Int)<=57<;>by_cases a7:(c:Int)=95<;>first|(exfalso;omega)|skip
  all_goals first|have b7:=aby a7|have b7:=acF a7
  all_goals simp only[aO,aT,h0,h8,eM,hlt,aan,Vd,a1,a2,a3,a4,a5,a6,b7,aaq,aaz,aar,aay]
  all_goals first
   |exact YN _ Om (by grind)
   |(by_cases hk0:(k:Int)=0<;>simp only[aO,aT,hk0,aaq,aaz,aar,aay]<;>first
     |exact UX (by grind)
     |exact YN _ Om (by grind))
   |exact UX (by grind)
 ·simp only[aO,aT,h0,h8,eM,hlt,aal,aan];have e4:k=s.length:=Om
  rw[e4,aaI]at hf;by_cases he:s=[]<;>simp only[aO,he,aaq,aaz,ne_eq,not_true_eq_false,not_false_eq_true]
  ·rfl
  ·rw[tM,hf];simp[he];omega
end
end Go.Abs
namespace Go.Abs
def fp{α:Type}{f:α->By}{L:List α}{n:By}(h:n∈L.map f):cV (λx=>decide (f x=n)) L=(bn (L.map f) n:Int):=by
 have e:bn (L.map f) n=L.findIdx λx=>decide (f x=n):=by
  rw[bn,List.findIdx_map];rfl
 have hlt:=cN h;rw[e,aaa]at hlt;rw[e,cV,List.findIdx?_eq_guard_findIdx_lt];simp[Option.guard,hlt]
def fM{α:Type}{f:α->By}{L:List α}{n:By}:decide (0<=cV (λx=>decide (f x=n)) L)=decide (n∈L.map f):=by
 rw[oX];rw[Bool.eq_iff_iff];simp[abx]
section
variable {P:Program}(T:fq P) {h:ah}
include T
def r230{α:Type}{row L s f}(hs:aI h s 3 (L.map row))(hl:L.length<2^63)(p:α->Bool)
  (hf:∀x,x∈L->∀k,Ext h k->bH P f [.agg (row x)] k (λv _=>v=.bool (p x))):ay P 230 [s,f] h (λv _=>v=.i (cV p L)):=by
 refine .of T.mix T.c230 ?_;unfold fn230 gA;exact z1
def r232{α:Type}{row L s f}(hs:aI h s 2 (L.map row))(hl:L.length<2^63)(p:α->Bool)
  (hf:∀x,x∈L->∀k,Ext h k->bH P f [.agg (row x)] k (λv _=>v=.bool (p x))):ay P 232 [s,f] h (λv _=>v=.i (cV p L)):=by
 refine .of T.mix T.c232 ?_;unfold fn232 gA;exact z1
def r228{α:Type}{row L s f}(hs:aI h s 3 (L.map row))(hl:L.length<2^63)(p:α->Bool)
  (hf:∀x,x∈L->∀k,Ext h k->bH P f [.agg (row x)] k (λv _=>v=.bool (p x))):ay P 228 [s,f] h (λv _=>v=.i (cV p L)):=by
 refine .of T.mix T.c228 ?_;unfold fn228 gA;exact z1
def r234{α:Type}{row L s f}(hs:aI h s 4 (L.map row))(hl:L.length<2^63)(p:α->Bool)
  (hf:∀x,x∈L->∀k,Ext h k->bH P f [.agg (row x)] k (λv _=>v=.bool (p x))):ay P 234 [s,f] h (λv _=>v=.i (cV p L)):=by
 refine .of T.mix T.c234 ?_;unfold fn234 gA;exact z1
def r236{α:Type}{row L s f}(hs:aI h s 3 (L.map row))(hl:L.length<2^63)(p:α->Bool)
  (hf:∀x,x∈L->∀k,Ext h k->bH P f [.agg (row x)] k (λv _=>v=.bool (p x))):ay P 236 [s,f] h (λv _=>v=.i (cV p L)):=by
 refine .of T.mix T.c236 ?_;unfold fn236 gA;exact z1
def r238{α:Type}{row L s f}(hs:aI h s 4 (L.map row))(hl:L.length<2^63)(p:α->Bool)
  (hf:∀x,x∈L->∀k,Ext h k->bH P f [.agg (row x)] k (λv _=>v=.bool (p x))):ay P 238 [s,f] h (λv _=>v=.i (cV p L)):=by
 refine .of T.mix T.c238 ?_;unfold fn238 gA;exact z1
def r246{α:Type}{row:α->List AV}{L:List α}{s f:AV}(hs:aI h s 3 (L.map row))(hl:L.length<2^63)(p:α->Bool)
  (hf:∀x,x∈L->∀k,Ext h k->bH P f [.agg (row x)] k (λv _=>v=.bool (p x))):ay P 246 [s,f] h (λv _=>v=.bool (L.any p)):=by
 refine .of T.mix T.c246 ?_;unfold fn246 gA;refine Wn ?_;refine WF.ce T.c230 (r230 T hs hl p hf) λg=>?_
 exact Ws @oX Tv
def r243{α:Type}{row:α->List AV}{L:List α}{s f:AV}(hs:aI h s 3 (L.map row))(hl:L.length<2^63)(p:α->Bool)
  (hf:∀x,x∈L->∀k,Ext h k->bH P f [.agg (row x)] k (λv _=>v=.bool (p x))):ay P 243 [s,f] h (λv _=>v=.bool (L.any p)):=by
 refine .of T.mix T.c243 ?_;unfold fn243 gA;refine Wn ?_;refine WF.ce T.c228 (r228 T hs hl p hf) λg=>?_
 exact Ws @oX Tv
def r268{α:Type}{row:α->List AV}{L:List α}{s f:AV}(hs:aI h s 4 (L.map row))(hl:L.length<2^63)(p:α->Bool)
  (hf:∀x,x∈L->∀k,Ext h k->bH P f [.agg (row x)] k (λv _=>v=.bool (p x))):ay P 268 [s,f] h (λv _=>v=.bool (L.any p)):=by
 refine .of T.mix T.c268 ?_;unfold fn268 gA;refine Wn ?_;refine WF.ce T.c238 (r238 T hs hl p hf) λg=>?_
 exact Ws @oX Tv
def r123(x:gN):ay P 123 [.agg (bw x)] h (λv _=>v=.str x.name):=by
 refine .of T.mix T.c123 ?_;unfold fn123 gA bw;exact Wn Tv
def r231(x:gN){b n}(hb:h[b]? =some (.b [.str n])):ay P 231 [.agg (bw x),.ptr b 0] h (λv _=>v=.bool (decide (x.name=n))):=by
 refine .of T.mix T.c231 ?_;unfold fn231 gA;have hlt:=(Z2.1 hb).1;have hld:∀g:ah,ao none (.ptr b 0) (λz=>(h++g)[z]?)=dG none 0 (.b [.str n]):=λg=>aA (by rw[dq _ hlt];exact hb)
 have Uc:∀g g':ah,ao none (.ptr b 0) (λz=>(h++g++g')[z]?)=dG none 0 (.b [.str n]):=λg g'=>aA (by rw[Z4,dq _ hlt];exact hb)
 unfold bw;refine Ws (A3 @hld @Uc @kI) ?_;refine WF.val (bH.AD T.m123 T.c123 (r123 T x)) ?_;rintro _ g1 rfl;exact Ac
def r142{L s}(hs:aI h s 3 (L.map bw))(hl:L.length<2^63)(n:By):ay P 142 [s,.str n] h (λv _=>v=.i (cV (λx=>decide (x.name=n)) L)):=by
 refine .of T.mix T.c142 ?_;unfold fn142 gA;refine Wn ?_;refine WF.ce T.c230 (r230 T (hs.ext (by repeat first|exact Ext.refl _|refine Ext.app _ ?_)) hl (λx=>decide (x.name=n)) (λx hx k e=>bH.of (a:=[]) (c:=[.ptr h.length 0]) T.c231 (r231 T x (e.some ba)))) λg1=>?_
 exact Wn Tv
def r322(x:sR):ay P 322 [.agg (cB x)] h (λv _=>v=.str x.name):=by
 refine .of T.mix T.c322 ?_;unfold fn322 gA cB;exact Wn Tv
def r233(x:sR){b n}(hb:h[b]? =some (.b [.str n])):ay P 233 [.agg (cB x),.ptr b 0] h (λv _=>v=.bool (decide (x.name=n))):=by
 refine .of T.mix T.c233 ?_;unfold fn233 gA;have hlt:=(Z2.1 hb).1;have hld:∀g:ah,ao none (.ptr b 0) (λz=>(h++g)[z]?)=dG none 0 (.b [.str n]):=λg=>aA (by rw[dq _ hlt];exact hb)
 have Uc:∀g g':ah,ao none (.ptr b 0) (λz=>(h++g++g')[z]?)=dG none 0 (.b [.str n]):=λg g'=>aA (by rw[Z4,dq _ hlt];exact hb)
 unfold cB;refine Ws (A3 @hld @Uc @kI) ?_;refine WF.val (bH.AD T.m322 T.c322 (r322 T x)) ?_;rintro _ g1 rfl;exact Ac
def r143{L s}(hs:aI h s 2 (L.map cB))(hl:L.length<2^63)(n:By):ay P 143 [s,.str n] h (λv _=>v=.i (cV (λx=>decide (x.name=n)) L)):=by
 refine .of T.mix T.c143 ?_;unfold fn143 gA;refine Wn ?_;refine WF.ce T.c232 (r232 T (hs.ext (by repeat first|exact Ext.refl _|refine Ext.app _ ?_)) hl (λx=>decide (x.name=n)) (λx hx k e=>bH.of (a:=[]) (c:=[.ptr h.length 0]) T.c233 (r233 T x (e.some ba)))) λg1=>?_
 exact Wn Tv
def r140(x:jc×AV)(ho:x.2.one=true):ay P 140 [.agg (aU x)] h (λv _=>v=.str x.1.name):=by
 refine .of T.mix T.c140 ?_;unfold fn140 gA aU;exact Ws @ho Tv
def r229(x:jc×AV)(ho:x.2.one=true){b n}(hb:h[b]? =some (.b [.str n])):ay P 229 [.agg (aU x),.ptr b 0] h (λv _=>v=.bool (decide (x.1.name=n))):=by
 refine .of T.mix T.c229 ?_;unfold fn229 gA;have hlt:=(Z2.1 hb).1;have hld:∀g:ah,ao none (.ptr b 0) (λz=>(h++g)[z]?)=dG none 0 (.b [.str n]):=λg=>aA (by rw[dq _ hlt];exact hb)
 have Uc:∀g g':ah,ao none (.ptr b 0) (λz=>(h++g++g')[z]?)=dG none 0 (.b [.str n]):=λg g'=>aA (by rw[Z4,dq _ hlt];exact hb)
 unfold aU;refine Ws (A4 @hld @Uc @ho @kI) ?_;refine WF.val (bH.AD T.m140 T.c140 (r140 T x ho)) ?_;rintro _ g1 rfl;exact Ac
def r136{L s}(hs:aI h s 3 (L.map aU))(ho:∀x∈L,x.2.one=true)(hl:L.length<2^63)(n:By):ay P 136 [s,.str n] h (λv _=>v=.i (cV (λx=>decide (x.1.name=n)) L)):=by
 refine .of T.mix T.c136 ?_;unfold fn136 gA;refine Wn ?_;refine WF.ce T.c228 (r228 T (hs.ext (by repeat first|exact Ext.refl _|refine Ext.app _ ?_)) hl (λx=>decide (x.1.name=n)) (λx hx k e=>bH.of (a:=[]) (c:=[.ptr h.length 0]) T.c229 (r229 T x (ho x hx) (e.some ba)))) λg1=>?_
 exact Wn Tv
def r120(x:iP×AV)(ho:x.2.one=true):ay P 120 [.agg (aR x)] h (λv _=>v=.str x.1.name):=by
 refine .of T.mix T.c120 ?_;unfold fn120 gA aR;exact Ws @ho Tv
def r235(x:iP×AV)(ho:x.2.one=true){b n}(hb:h[b]? =some (.b [.str n])):ay P 235 [.agg (aR x),.ptr b 0] h (λv _=>v=.bool (decide (x.1.name=n))):=by
 refine .of T.mix T.c235 ?_;unfold fn235 gA;have hlt:=(Z2.1 hb).1;have hld:∀g:ah,ao none (.ptr b 0) (λz=>(h++g)[z]?)=dG none 0 (.b [.str n]):=λg=>aA (by rw[dq _ hlt];exact hb)
 have Uc:∀g g':ah,ao none (.ptr b 0) (λz=>(h++g++g')[z]?)=dG none 0 (.b [.str n]):=λg g'=>aA (by rw[Z4,dq _ hlt];exact hb)
 unfold aR;refine Ws (A4 @hld @Uc @ho @kI) ?_;refine WF.val (bH.AD T.m120 T.c120 (r120 T x ho)) ?_;rintro _ g1 rfl;exact Ac
def r144{L s}(hs:aI h s 4 (L.map aR))(ho:∀x∈L,x.2.one=true)(hl:L.length<2^63)(n:By):ay P 144 [s,.str n] h (λv _=>v=.i (cV (λx=>decide (x.1.name=n)) L)):=by
 refine .of T.mix T.c144 ?_;unfold fn144 gA;refine Wn ?_;refine WF.ce T.c234 (r234 T (hs.ext (by repeat first|exact Ext.refl _|refine Ext.app _ ?_)) hl (λx=>decide (x.1.name=n)) (λx hx k e=>bH.of (a:=[]) (c:=[.ptr h.length 0]) T.c235 (r235 T x (ho x hx) (e.some ba)))) λg1=>?_
 exact Wn Tv
def r324(x:lH×AV)(ho:x.2.one=true):ay P 324 [.agg (bF x)] h (λv _=>v=.str x.1.name):=by
 refine .of T.mix T.c324 ?_;unfold fn324 gA bF;exact Ws @ho Tv
def r237(x:lH×AV)(ho:x.2.one=true){b n}(hb:h[b]? =some (.b [.str n])):ay P 237 [.agg (bF x),.ptr b 0] h (λv _=>v=.bool (decide (x.1.name=n))):=by
 refine .of T.mix T.c237 ?_;unfold fn237 gA;have hlt:=(Z2.1 hb).1;have hld:∀g:ah,ao none (.ptr b 0) (λz=>(h++g)[z]?)=dG none 0 (.b [.str n]):=λg=>aA (by rw[dq _ hlt];exact hb)
 have Uc:∀g g':ah,ao none (.ptr b 0) (λz=>(h++g++g')[z]?)=dG none 0 (.b [.str n]):=λg g'=>aA (by rw[Z4,dq _ hlt];exact hb)
 unfold bF;refine Ws (A4 @hld @Uc @ho @kI) ?_;refine WF.val (bH.AD T.m324 T.c324 (r324 T x ho)) ?_;rintro _ g1 rfl;exact Ac
def r145{L s}(hs:aI h s 3 (L.map bF))(ho:∀x∈L,x.2.one=true)(hl:L.length<2^63)(n:By):ay P 145 [s,.str n] h (λv _=>v=.i (cV (λx=>decide (x.1.name=n)) L)):=by
 refine .of T.mix T.c145 ?_;unfold fn145 gA;refine Wn ?_;refine WF.ce T.c236 (r236 T (hs.ext (by repeat first|exact Ext.refl _|refine Ext.app _ ?_)) hl (λx=>decide (x.1.name=n)) (λx hx k e=>bH.of (a:=[]) (c:=[.ptr h.length 0]) T.c237 (r237 T x (ho x hx) (e.some ba)))) λg1=>?_
 exact Wn Tv
def r323(x:qM):ay P 323 [.agg (cD x)] h (λv _=>v=.str x.name):=by
 refine .of T.mix T.c323 ?_;unfold fn323 gA cD;exact Wn Tv
def r239(x:qM){b n}(hb:h[b]? =some (.b [.str n])):ay P 239 [.agg (cD x),.ptr b 0] h (λv _=>v=.bool (decide (x.name=n))):=by
 refine .of T.mix T.c239 ?_;unfold fn239 gA;have hlt:=(Z2.1 hb).1;have hld:∀g:ah,ao none (.ptr b 0) (λz=>(h++g)[z]?)=dG none 0 (.b [.str n]):=λg=>aA (by rw[dq _ hlt];exact hb)
 have Uc:∀g g':ah,ao none (.ptr b 0) (λz=>(h++g++g')[z]?)=dG none 0 (.b [.str n]):=λg g'=>aA (by rw[Z4,dq _ hlt];exact hb)
 unfold cD;refine Ws (A3 @hld @Uc @kI) ?_;refine WF.val (bH.AD T.m323 T.c323 (r323 T x)) ?_;rintro _ g1 rfl;exact Ac
def r146{L s}(hs:aI h s 4 (L.map cD))(hl:L.length<2^63)(n:By):ay P 146 [s,.str n] h (λv _=>v=.i (cV (λx=>decide (x.name=n)) L)):=by
 refine .of T.mix T.c146 ?_;unfold fn146 gA;refine Wn ?_;refine WF.ce T.c238 (r238 T (hs.ext (by repeat first|exact Ext.refl _|refine Ext.app _ ?_)) hl (λx=>decide (x.name=n)) (λx hx k e=>bH.of (a:=[]) (c:=[.ptr h.length 0]) T.c239 (r239 T x (e.some ba)))) λg1=>?_
 exact Wn Tv
end
def aI.PB{h s es cs}(hs:aI h s es cs):(s=.af/\cs=[])\/(∀neg:Bool,nO neg (mQ .ES s .af)=some (.bool neg)):=by
 cases hs with
 |nil=>exact .inl ⟨rfl,rfl⟩
 |mk hb hf ho he=>right;intro neg;cases neg<;>rfl
def CS:nO false (mQ .ES .af .af)=some (.bool true):=rfl
attribute [local irreducible] WP WC WE WB WR WF WL WG fX
section
variable {P:Program}(T:fq P) {h:ah}
include T
def r177{s cs}(hs:aI h s 1 cs)(hl:cs.length<=2^40):ay P 177 [s] h (λv h'=>Fr h.length h' v 1 cs):=by
 refine .of T.mix T.c177 ?_;unfold fn177 gA;exact z28
def r178{s cs}(hs:aI h s 1 cs)(hl:cs.length<=2^40):ay P 178 [s] h (λv h'=>Fr h.length h' v 1 cs):=by
 refine .of T.mix T.c178 ?_;unfold fn178 gA;exact z28
def r179{s cs}(hs:aI h s 2 cs)(hl:cs.length<=2^40):ay P 179 [s] h (λv h'=>Fr h.length h' v 2 cs):=by
 refine .of T.mix T.c179 ?_;unfold fn179 gA;exact z28
def r181(x:jc×AV)(hx:aI h x.2 1 (x.1.aE.map aq))(hl:x.1.aE.length<=2^40):ay P 181 [.agg (aU x)] h (λv h'=>∃s',v=.agg (aU (x.1,s'))/\Fr h.length h' s' 1 (x.1.aE.map aq)):=by
 refine .of T.mix T.c181 ?_;obtain⟨ts,SH⟩:∃ts,ts=aW 8 [.agg (aU x)]:=⟨_,rfl⟩;have hlen:ts.length=8:=by rw[SH];rfl
 have t0:slot ts 0=.agg (aU x):=by rw[SH];rfl
 unfold fn181 gA;show WC P bJ _ [] (aW 8 [.agg (aU x)]) h _;rw[<-SH];clear SH;have o1:=hx.one;unfold aU at t0 ⊢;exact Rk
def r183(x:iP×AV)(hx:aI h x.2 1 (x.1.bC.map aq))(hl:x.1.bC.length<=2^40):ay P 183 [.agg (aR x)] h (λv h'=>∃s',v=.agg (aR (x.1,s'))/\Fr h.length h' s' 1 (x.1.bC.map aq)):=by
 refine .of T.mix T.c183 ?_;obtain⟨ts,SH⟩:∃ts,ts=aW 8 [.agg (aR x)]:=⟨_,rfl⟩;have hlen:ts.length=8:=by rw[SH];rfl
 have t0:slot ts 0=.agg (aR x):=by rw[SH];rfl
 unfold fn183 gA;show WC P bJ _ [] (aW 8 [.agg (aR x)]) h _;rw[<-SH];clear SH;have o1:=hx.one;unfold aR at t0 ⊢;exact Rk
def r185(x:lH×AV)(hx:aI h x.2 1 (x.1.bE.map aM))(hl:x.1.bE.length<=2^40):ay P 185 [.agg (bF x)] h (λv h'=>∃s',v=.agg (bF (x.1,s'))/\Fr h.length h' s' 1 (x.1.bE.map aM)):=by
 refine .of T.mix T.c185 ?_;obtain⟨ts,SH⟩:∃ts,ts=aW 8 [.agg (bF x)]:=⟨_,rfl⟩;have hlen:ts.length=8:=by rw[SH];rfl
 have t0:slot ts 0=.agg (bF x):=by rw[SH];rfl
 unfold fn185 gA;show WC P bJ _ [] (aW 8 [.agg (bF x)]) h _;rw[<-SH];clear SH;have o1:=hx.one;unfold bF at t0 ⊢;refine Rs (A2 t0 @o1) ?_;refine WF.res T.c178 (r178 T (hx.ext Xx) (by simp;omega)) ?_;rintro s' g1 hf;have o2:=hf.aY.one;refine Rs (A3 t0 @o1 @o2) ?_;exact⟨s',rfl,(Fr.swap hf Si).low Si⟩
set_option maxRecDepth 10000 in
def r91(x:EV)(hx:bh h x)(hl:x.ev.names.length<=2^40/\x.ev.cw.length<=2^40):ay P 91 [.agg x.row] h (λv h'=>∃x':EV,x'.ev=x.ev/\v=.agg x'.row/\Fr h.length h' x'.sn 1 (x.ev.names.map aq)/\Fr h.length h' x'.sv 1 (x.ev.cw.map aM)):=by
 refine .of T.mix T.c91 ?_;obtain⟨ts,SH⟩:∃ts,ts=aW 12 [.agg x.row]:=⟨_,rfl⟩;have hlen:ts.length=12:=by rw[SH];rfl
 have t0:slot ts 0=.agg x.row:=by rw[SH];rfl
 unfold fn91;show WC P bJ _ [] (aW 12 [.agg x.row]) h _;rw[<-SH];clear SH;have o1:=hx.n.one;have o2:=hx.v.one;unfold EV.row at t0 ⊢;refine Rs (A3 t0 @o1 @o2) ?_;refine WF.res T.c177 (r177 T (hx.n.ext Xx) (by simp;omega)) ?_;rintro s1 g1 Wj;have o3:=Wj.aY.one;refine Rs (A4 t0 @o1 @o2 @o3) ?_;refine WF.res T.c178 (r178 T (hx.v.ext Xx) (by simp;omega)) ?_;rintro s2 g2 Vw;have o4:=Vw.aY.one;refine Rs (A5 t0 @o1 @o2 @o3 @o4) ?_;refine⟨⟨x.ev,s1,s2⟩,rfl,rfl,?_,?_⟩
 ·exact((Fr.swap Wj Si).app _).low Si
 ·exact(Fr.swap Vw Si).low Si
def r130{L:List (By)}{s f:AV}(hs:aI h s 1 (L.map aq))(hl:L.length<=2^40)(F:(By)->Int)(hf:∀x,x∈L->∀k,Ext h k->bH P f [.str x] k (λv _=>v=.i (F x))):
  ay P 130 [s,f] h (λv h'=>Fr h.length h' v 1 ((L.map F).map aM)):=by
 refine .of T.mix T.c130 ?_;unfold fn130 gA;refine Ws hs.aH ?_;refine WL.inv T.mix (λn ts h'=>∃(k:Nat) (out:AV),k<=L.length/\n=L.length-k/\Ext h h'/\Fr h.length h' out 1 (((L.take k).map F).map aM)/\ts.length=22/\slot ts 1=f/\slot ts 5=out/\slot ts 8=s/\slot ts 9=.i L.length/\slot ts 10=.i k) L.length
  ⟨0,.af,Om,rfl,Ext.refl h,.nil,rfl,rfl,rfl,rfl,rfl,rfl⟩ ?_
 rintro _ ts _ ⟨k,out,hk,rfl,⟨g,rfl⟩,hfr,hlen,t1,t5,t8,t9,t10⟩;rw[lG ts 22 hlen];by_cases hlt:k<L.length
 ·have e3:(k:Int)<L.length:=Om
  have hvk:=hf L[k] Si;have XU:∀{kk:ah},Ext h kk->ao none (cI s 1 k) (λb=>kk[b]?)=some (.str L[k],.ar):=λ{kk} e=>hs.lC hlt rfl e
  simp only[aO,aT,aZ,a8,reduceAdd,reduceMul,reduceLeDiff,reduceEqDiff,t1,t5,t8,t9,t10,e3,aaq,hs.c6 hlt,XU];refine WF.val (hvk _ (by repeat first|exact Ext.refl _|refine Ext.app _ ?_)) ?_;rintro _ g1 rfl;refine Wn ?_;refine WR.fg (h0:=h) (cs:=((L.take k).map F).map aM) (ys:=[aM (F L[k])]) (((hfr.app _).app _)) (Fr.push (N:=0) (aaC _) [aM (F L[k])] (by simp[aM])).aY De Si (by simp;omega) (by simp only[tf]) ?_;intro g' SP hff hkp;have hrow:((L.take k).map F).map aM++[aM (F L[k])]=((L.take (k+1)).map F).map aM:=by rw[aaO,Z6 hlt,aae,aae];rfl
  exact z6
 ·exact z5
def r92{L:List (Int)}{s f:AV}(hs:aI h s 1 (L.map aM))(hl:L.length<=2^40)(F:(Int)->Int)(hf:∀x,x∈L->∀k,Ext h k->bH P f [.i x] k (λv _=>v=.i (F x))):
  ay P 92 [s,f] h (λv h'=>Fr h.length h' v 1 ((L.map F).map aM)):=by
 refine .of T.mix T.c92 ?_;unfold fn92 Lk;refine Ws hs.aH ?_;refine WL.inv T.mix (λn ts h'=>∃(k:Nat) (out:AV),k<=L.length/\n=L.length-k/\Ext h h'/\Fr h.length h' out 1 (((L.take k).map F).map aM)/\ts.length=22/\slot ts 1=f/\slot ts 5=out/\slot ts 8=s/\slot ts 9=.i L.length/\slot ts 10=.i k) L.length
  ⟨0,.af,Om,rfl,Ext.refl h,.nil,rfl,rfl,rfl,rfl,rfl,rfl⟩ ?_
 rintro _ ts _ ⟨k,out,hk,rfl,⟨g,rfl⟩,hfr,hlen,t1,t5,t8,t9,t10⟩;rw[lG ts 22 hlen];by_cases hlt:k<L.length
 ·have e3:(k:Int)<L.length:=Om
  have hvk:=hf L[k] Si;have XU:∀{kk:ah},Ext h kk->ao none (cI s 1 k) (λb=>kk[b]?)=some (.i L[k],.ar):=λ{kk} e=>hs.lC hlt rfl e
  simp only[aO,aT,aZ,a8,reduceAdd,reduceMul,reduceLeDiff,reduceEqDiff,t1,t5,t8,t9,t10,e3,aaq,hs.c6 hlt,XU];refine WF.val (hvk _ (by repeat first|exact Ext.refl _|refine Ext.app _ ?_)) ?_;rintro _ g1 rfl;refine Wn ?_;refine WR.fg (h0:=h) (cs:=((L.take k).map F).map aM) (ys:=[aM (F L[k])]) (((hfr.app _).app _)) (Fr.push (N:=0) (aaC _) [aM (F L[k])] (by simp[aM])).aY De Si (by simp;omega) (by simp only[tf]) ?_;intro g' SP hff hkp;have hrow:((L.take k).map F).map aM++[aM (F L[k])]=((L.take (k+1)).map F).map aM:=by rw[aaO,Z6 hlt,aae,aae];rfl
  exact z6
 ·exact z5
def r199{L:List (Int)}{s f:AV}(hs:aI h s 1 (L.map aM))(hl:L.length<=2^40)(F:(Int)->By)(hf:∀x,x∈L->∀k,Ext h k->bH P f [.i x] k (λv _=>v=.str (F x))):
  ay P 199 [s,f] h (λv h'=>Fr h.length h' v 1 ((L.map F).map aq)):=by
 refine .of T.mix T.c199 ?_;unfold fn199 gA;refine Ws hs.aH ?_;refine WL.inv T.mix (λn ts h'=>∃(k:Nat) (out:AV),k<=L.length/\n=L.length-k/\Ext h h'/\Fr h.length h' out 1 (((L.take k).map F).map aq)/\ts.length=22/\slot ts 1=f/\slot ts 5=out/\slot ts 8=s/\slot ts 9=.i L.length/\slot ts 10=.i k) L.length
  ⟨0,.af,Om,rfl,Ext.refl h,.nil,rfl,rfl,rfl,rfl,rfl,rfl⟩ ?_
 rintro _ ts _ ⟨k,out,hk,rfl,⟨g,rfl⟩,hfr,hlen,t1,t5,t8,t9,t10⟩;rw[lG ts 22 hlen];by_cases hlt:k<L.length
 ·have e3:(k:Int)<L.length:=Om
  have hvk:=hf L[k] Si;have XU:∀{kk:ah},Ext h kk->ao none (cI s 1 k) (λb=>kk[b]?)=some (.i L[k],.ar):=λ{kk} e=>hs.lC hlt rfl e
  simp only[aO,aT,aZ,a8,reduceAdd,reduceMul,reduceLeDiff,reduceEqDiff,t1,t5,t8,t9,t10,e3,aaq,hs.c6 hlt,XU];refine WF.val (hvk _ (by repeat first|exact Ext.refl _|refine Ext.app _ ?_)) ?_;rintro _ g1 rfl;refine Wn ?_;refine WR.fg (h0:=h) (cs:=((L.take k).map F).map aq) (ys:=[aq (F L[k])]) (((hfr.app _).app _)) (Fr.push (N:=0) (aaC _) [aq (F L[k])] (by simp[aq])).aY De Si (by simp;omega) (by simp only[tf]) ?_;intro g' SP hff hkp;have hrow:((L.take k).map F).map aq++[aq (F L[k])]=((L.take (k+1)).map F).map aq:=by rw[aaO,Z6 hlt,aae,aae];rfl
  exact z6
 ·exact z5
def r137{L:List (jc×AV)}{s f:AV}(hs:aI h s 3 (L.map aU))(ho:∀x∈L,x.2.one=true)(hl:L.length<=2^40)(F:(jc×AV)->By)(hf:∀x,x∈L->∀k,Ext h k->bH P f [.agg (aU x)] k (λv _=>v=.str (F x))):
  ay P 137 [s,f] h (λv h'=>Fr h.length h' v 1 ((L.map F).map aq)):=by
 refine .of T.mix T.c137 ?_;unfold fn137 gA;refine Ws hs.aH ?_;refine WL.inv T.mix (λn ts h'=>∃(k:Nat) (out:AV),k<=L.length/\n=L.length-k/\Ext h h'/\Fr h.length h' out 1 (((L.take k).map F).map aq)/\ts.length=22/\slot ts 1=f/\slot ts 5=out/\slot ts 8=s/\slot ts 9=.i L.length/\slot ts 10=.i k) L.length
  ⟨0,.af,Om,rfl,Ext.refl h,.nil,rfl,rfl,rfl,rfl,rfl,rfl⟩ ?_
 rintro _ ts _ ⟨k,out,hk,rfl,⟨g,rfl⟩,hfr,hlen,t1,t5,t8,t9,t10⟩;rw[lG ts 22 hlen];by_cases hlt:k<L.length
 ·have e3:(k:Int)<L.length:=Om
  have hvk:=hf L[k] Si;simp only[aO,aT,aZ,a8,reduceAdd,reduceMul,reduceLeDiff,reduceEqDiff,t1,t5,t8,t9,t10,e3,aaq,hs.c6 hlt,hs.gP hlt,aU,ho L[k] Si];exact z4
 ·exact z5
def r121{L:List (gN)}{s f:AV}(hs:aI h s 3 (L.map bw))(hl:L.length<=2^40)(F:(gN)->By)(hf:∀x,x∈L->∀k,Ext h k->bH P f [.agg (bw x)] k (λv _=>v=.str (F x))):
  ay P 121 [s,f] h (λv h'=>Fr h.length h' v 1 ((L.map F).map aq)):=by
 refine .of T.mix T.c121 ?_;unfold fn121 gA;refine Ws hs.aH ?_;refine WL.inv T.mix (λn ts h'=>∃(k:Nat) (out:AV),k<=L.length/\n=L.length-k/\Ext h h'/\Fr h.length h' out 1 (((L.take k).map F).map aq)/\ts.length=22/\slot ts 1=f/\slot ts 5=out/\slot ts 8=s/\slot ts 9=.i L.length/\slot ts 10=.i k) L.length
  ⟨0,.af,Om,rfl,Ext.refl h,.nil,rfl,rfl,rfl,rfl,rfl,rfl⟩ ?_
 rintro _ ts _ ⟨k,out,hk,rfl,⟨g,rfl⟩,hfr,hlen,t1,t5,t8,t9,t10⟩;rw[lG ts 22 hlen];by_cases hlt:k<L.length
 ·have e3:(k:Int)<L.length:=Om
  have hvk:=hf L[k] Si;simp only[aO,aT,aZ,a8,reduceAdd,reduceMul,reduceLeDiff,reduceEqDiff,t1,t5,t8,t9,t10,e3,aaq,hs.c6 hlt,hs.gP hlt,bw];exact z4
 ·exact z5
def r117{L:List (iP×AV)}{s f:AV}(hs:aI h s 4 (L.map aR))(ho:∀x∈L,x.2.one=true)(hl:L.length<=2^40)(F:(iP×AV)->By)(hf:∀x,x∈L->∀k,Ext h k->bH P f [.agg (aR x)] k (λv _=>v=.str (F x))):
  ay P 117 [s,f] h (λv h'=>Fr h.length h' v 1 ((L.map F).map aq)):=by
 refine .of T.mix T.c117 ?_;unfold fn117 gA;refine Ws hs.aH ?_;refine WL.inv T.mix (λn ts h'=>∃(k:Nat) (out:AV),k<=L.length/\n=L.length-k/\Ext h h'/\Fr h.length h' out 1 (((L.take k).map F).map aq)/\ts.length=22/\slot ts 1=f/\slot ts 5=out/\slot ts 8=s/\slot ts 9=.i L.length/\slot ts 10=.i k) L.length
  ⟨0,.af,Om,rfl,Ext.refl h,.nil,rfl,rfl,rfl,rfl,rfl,rfl⟩ ?_
 rintro _ ts _ ⟨k,out,hk,rfl,⟨g,rfl⟩,hfr,hlen,t1,t5,t8,t9,t10⟩;rw[lG ts 22 hlen];by_cases hlt:k<L.length
 ·have e3:(k:Int)<L.length:=Om
  have hvk:=hf L[k] Si;simp only[aO,aT,aZ,a8,reduceAdd,reduceMul,reduceLeDiff,reduceEqDiff,t1,t5,t8,t9,t10,e3,aaq,hs.c6 hlt,hs.gP hlt,aR,ho L[k] Si];exact z4
 ·exact z5
def r115{L:List (EV)}{s f:AV}(hs:aI h s 5 (L.map EV.row))(ho:∀x∈L,x.sn.one=true/\x.sv.one=true)(hl:L.length<=2^40)(F:(EV)->By)(hf:∀x,x∈L->∀k,Ext h k->bH P f [.agg (EV.row x)] k (λv _=>v=.str (F x))):
  ay P 115 [s,f] h (λv h'=>Fr h.length h' v 1 ((L.map F).map aq)):=by
 refine .of T.mix T.c115 ?_;unfold fn115 gA;refine Ws hs.aH ?_;refine WL.inv T.mix (λn ts h'=>∃(k:Nat) (out:AV),k<=L.length/\n=L.length-k/\Ext h h'/\Fr h.length h' out 1 (((L.take k).map F).map aq)/\ts.length=22/\slot ts 1=f/\slot ts 5=out/\slot ts 8=s/\slot ts 9=.i L.length/\slot ts 10=.i k) L.length
  ⟨0,.af,Om,rfl,Ext.refl h,.nil,rfl,rfl,rfl,rfl,rfl,rfl⟩ ?_
 rintro _ ts _ ⟨k,out,hk,rfl,⟨g,rfl⟩,hfr,hlen,t1,t5,t8,t9,t10⟩;rw[lG ts 22 hlen];by_cases hlt:k<L.length
 ·have e3:(k:Int)<L.length:=Om
  have hvk:=hf L[k] Si;simp only[aO,aT,aZ,a8,reduceAdd,reduceMul,reduceLeDiff,reduceEqDiff,t1,t5,t8,t9,t10,e3,aaq,hs.c6 hlt,hs.gP hlt,EV.row,(ho L[k] Si).1,(ho L[k] Si).2];exact z4
 ·exact z5
set_option maxRecDepth 10000 in
def r138{L:List (jc×AV)}{s f:AV}(hs:aI h s 3 (L.map aU))(ho:∀x∈L,x.2.one=true)(hl:L.length<=2^38)(p:(jc×AV)->Bool)(hf:∀x,x∈L->∀k,Ext h k->bH P f [.agg (aU x)] k (λv _=>v=.bool (p x))):
  ay P 138 [s,f] h (λv h'=>Fr h.length h' v 3 ((L.filter p).map aU)):=by
 refine .of T.mix T.c138 ?_;unfold fn138 gA;refine Ws hs.aH ?_;refine WL.inv T.mix (λn ts h'=>∃(k:Nat) (out:AV),k<=L.length/\n=L.length-k/\Ext h h'/\Fr h.length h' out 3 (((L.take k).filter p).map aU)/\ts.length=23/\slot ts 1=f/\slot ts 5=out/\slot ts 8=s/\slot ts 9=.i L.length/\slot ts 10=.i k) L.length
  ⟨0,.af,Om,rfl,Ext.refl h,.nil,rfl,rfl,rfl,rfl,rfl,rfl⟩ ?_
 rintro _ ts _ ⟨k,out,hk,rfl,⟨g,rfl⟩,hfr,hlen,t1,t5,t8,t9,t10⟩;rw[lG ts 23 hlen];by_cases hlt:k<L.length
 ·have e3:(k:Int)<L.length:=Om
  have hvk:=hf L[k] Si;have S9:(L.take (k+1)).filter p=(L.take k).filter p++(if p L[k]=true then [L[k]]else []):=by
   exact NX
  have Tg:((L.take k).filter p).length<=L.length:=aaT (aaF _ _) (by rw[aaQ];omega);simp only[aO,aT,aZ,a8,reduceAdd,reduceMul,reduceLeDiff,reduceEqDiff,t1,t5,t8,t9,t10,e3,aaq,hs.c6 hlt,hs.gP hlt,aU,ho L[k] Si];refine WF.val (hvk _ (by repeat first|exact Ext.refl _|refine Ext.app _ ?_)) ?_;rintro _ g1 rfl;cases hp:p L[k]with
  |true=>
   rw[hp,aai rfl]at S9;simp only[aO,aT,aZ,a8,reduceAdd,reduceMul,reduceLeDiff,reduceEqDiff,ho L[k] Si];refine WR.fg (h0:=h) (cs:=((L.take k).filter p).map aU) (ys:=[aU L[k]]) (((hfr.app _).app _).app _) (Fr.push (N:=0) (aaC _) [aU L[k]] (by simp[aU])).aY De Si (by simp only[aaa,Z5,Z9];omega) (by simp only[tf]) ?_;intro g' SP hff hkp;have hrow:((L.take k).filter p).map aU++[aU L[k]]=((L.take (k+1)).filter p).map aU:=by rw[S9,aae];rfl
   exact z6
  |false=>
   exact N3
 ·exact z5
set_option maxRecDepth 10000 in
def r216{L:List (gN)}{s f:AV}(hs:aI h s 3 (L.map bw))(hl:L.length<=2^38)(p:(gN)->Bool)(hf:∀x,x∈L->∀k,Ext h k->bH P f [.agg (bw x)] k (λv _=>v=.bool (p x))):
  ay P 216 [s,f] h (λv h'=>Fr h.length h' v 3 ((L.filter p).map bw)):=by
 refine .of T.mix T.c216 ?_;unfold fn216 gA;refine Ws hs.aH ?_;refine WL.inv T.mix (λn ts h'=>∃(k:Nat) (out:AV),k<=L.length/\n=L.length-k/\Ext h h'/\Fr h.length h' out 3 (((L.take k).filter p).map bw)/\ts.length=23/\slot ts 1=f/\slot ts 5=out/\slot ts 8=s/\slot ts 9=.i L.length/\slot ts 10=.i k) L.length
  ⟨0,.af,Om,rfl,Ext.refl h,.nil,rfl,rfl,rfl,rfl,rfl,rfl⟩ ?_
 rintro _ ts _ ⟨k,out,hk,rfl,⟨g,rfl⟩,hfr,hlen,t1,t5,t8,t9,t10⟩;rw[lG ts 23 hlen];by_cases hlt:k<L.length
 ·have e3:(k:Int)<L.length:=Om
  have hvk:=hf L[k] Si;have S9:(L.take (k+1)).filter p=(L.take k).filter p++(if p L[k]=true then [L[k]]else []):=by
   exact NX
  have Tg:((L.take k).filter p).length<=L.length:=aaT (aaF _ _) (by rw[aaQ];omega);simp only[aO,aT,aZ,a8,reduceAdd,reduceMul,reduceLeDiff,reduceEqDiff,t1,t5,t8,t9,t10,e3,aaq,hs.c6 hlt,hs.gP hlt,bw];refine WF.val (hvk _ (by repeat first|exact Ext.refl _|refine Ext.app _ ?_)) ?_;rintro _ g1 rfl;cases hp:p L[k]with
  |true=>
   rw[hp,aai rfl]at S9;refine Wn ?_;refine WR.fg (h0:=h) (cs:=((L.take k).filter p).map bw) (ys:=[bw L[k]]) (((hfr.app _).app _).app _) (Fr.push (N:=0) (aaC _) [bw L[k]] (by simp[bw])).aY De Si (by simp only[aaa,Z5,Z9];omega) (by simp only[tf]) ?_;intro g' SP hff hkp;have hrow:((L.take k).filter p).map bw++[bw L[k]]=((L.take (k+1)).filter p).map bw:=by rw[S9,aae];rfl
   exact z6
  |false=>
   exact N3
 ·exact z5
set_option maxRecDepth 10000 in
def r88{L:List (EV)}{s f:AV}(hs:aI h s 5 (L.map EV.row))(ho:∀x∈L,x.sn.one=true/\x.sv.one=true)(hl:L.length<=2^38)(p:(EV)->Bool)(hf:∀x,x∈L->∀k,Ext h k->bH P f [.agg (EV.row x)] k (λv _=>v=.bool (p x))):
  ay P 88 [s,f] h (λv h'=>Fr h.length h' v 5 ((L.filter p).map EV.row)):=by
 refine .of T.mix T.c88 ?_;unfold fn88 gA;refine Ws hs.aH ?_;refine WL.inv T.mix (λn ts h'=>∃(k:Nat) (out:AV),k<=L.length/\n=L.length-k/\Ext h h'/\Fr h.length h' out 5 (((L.take k).filter p).map EV.row)/\ts.length=23/\slot ts 1=f/\slot ts 5=out/\slot ts 8=s/\slot ts 9=.i L.length/\slot ts 10=.i k) L.length
  ⟨0,.af,Om,rfl,Ext.refl h,.nil,rfl,rfl,rfl,rfl,rfl,rfl⟩ ?_
 rintro _ ts _ ⟨k,out,hk,rfl,⟨g,rfl⟩,hfr,hlen,t1,t5,t8,t9,t10⟩;rw[lG ts 23 hlen];by_cases hlt:k<L.length
 ·have e3:(k:Int)<L.length:=Om
  have hvk:=hf L[k] Si;have S9:(L.take (k+1)).filter p=(L.take k).filter p++(if p L[k]=true then [L[k]]else []):=by
   exact NX
  have Tg:((L.take k).filter p).length<=L.length:=aaT (aaF _ _) (by rw[aaQ];omega);simp only[aO,aT,aZ,a8,reduceAdd,reduceMul,reduceLeDiff,reduceEqDiff,t1,t5,t8,t9,t10,e3,aaq,hs.c6 hlt,hs.gP hlt,EV.row,(ho L[k] Si).1,(ho L[k] Si).2];refine WF.val (hvk _ (by repeat first|exact Ext.refl _|refine Ext.app _ ?_)) ?_;rintro _ g1 rfl;cases hp:p L[k]with
  |true=>
   rw[hp,aai rfl]at S9;simp only[aO,aT,aZ,a8,reduceAdd,reduceMul,reduceLeDiff,reduceEqDiff,(ho L[k] Si).1,(ho L[k] Si).2];refine WR.fg (h0:=h) (cs:=((L.take k).filter p).map EV.row) (ys:=[EV.row L[k]]) (((hfr.app _).app _).app _) (Fr.push (N:=0) (aaC _) [EV.row L[k]] (by simp[EV.row])).aY De Si (by simp only[aaa,Z5,Z9];omega) (by simp only[tf]) ?_;intro g' SP hff hkp;have hrow:((L.take k).filter p).map EV.row++[EV.row L[k]]=((L.take (k+1)).filter p).map EV.row:=by rw[S9,aae];rfl
   exact z6
  |false=>
   exact N3
 ·exact z5
end
section
variable {P:Program}(T:fq P) {h:ah}
include T
set_option maxRecDepth 10000 in
def r180{L:List (jc×AV)}{s:AV}(hs:aI h s 3 (L.map aU))(he:∀x∈L,aI h x.2 1 (x.1.aE.map aq))(hl:L.length<=2^30)(hle:∀x∈L,x.1.aE.length<=2^40):
  ay P 180 [s,.func (.func 181) [] []] h (λv h'=>∃L':List (jc×AV),L'.map Prod.fst=L.map Prod.fst/\Fr h.length h' v 3 (L'.map aU)/\(∀x∈L',Fr h.length h' x.2 1 (x.1.aE.map aq))/\lL (sB v::L'.map λx=>sB x.2)):=by
 refine .of T.mix T.c180 ?_;unfold fn180 gA;refine Ws hs.aH ?_;refine WL.inv T.mix (λn ts h'=>∃(k:Nat) (out:AV) (L':List (jc×AV)),k<=L.length/\n=L.length-k/\Ext h h'/\L'.map Prod.fst=(L.take k).map Prod.fst/\Fr h.length h' out 3 (L'.map aU)/\(∀x∈L',Fr h.length h' x.2 1 (x.1.aE.map aq))/\lL (sB out::L'.map λx=>sB x.2)/\
   ts.length=22/\slot ts 1=.func (.func 181) [] []/\slot ts 5=out/\slot ts 8=s/\slot ts 9=.i L.length/\slot ts 10=.i k) L.length
  ⟨0,.af,[],Om,rfl,Ext.refl h,rfl,.nil,(λx hx=>by cases hx),abG _ _,rfl,rfl,rfl,rfl,rfl,rfl⟩ ?_
 rintro _ ts _ ⟨k,out,L',hk,rfl,⟨g,rfl⟩,hm,hfr,hin,TD,hlen,t1,t5,t8,t9,t10⟩;rw[lG ts 22 hlen];have XO:L'.length=k:=by have:=aax List.length hm;simp at this;omega
 by_cases hlt:k<L.length
 ·have e3:(k:Int)<L.length:=Om
  have Yy:=he L[k] Si;have U8:=hle L[k] Si;have ox:=Yy.one;have dB:∀{kk:ah},Ext h kk->ao (some 3) (cI s 3 k) (λb=>kk[b]?)=some (.agg (aU L[k]),.ar):=λ{kk} e=>hs.gP hlt e
  unfold aU at dB;simp only[aO,aT,aZ,a8,reduceAdd,reduceMul,reduceLeDiff,reduceEqDiff,t1,t5,t8,t9,t10,e3,aaq,hs.c6 hlt,dB,ox];have hown:=λkk (e:Ext h kk)=>r181 T (h:=kk) L[k] (Yy.ext e) U8
  unfold aU at hown;refine WF.res T.c181 (hown _ (by repeat first|exact Ext.refl _|refine Ext.app _ ?_)) ?_;rintro _ g1 ⟨s',rfl,ZN⟩;have os:=ZN.aY.one;refine Ws @os ?_;refine WR.fg (h0:=h) (cs:=L'.map aU) (ys:=[aU (L[k].1,s')]) ((((hfr.app _).app _).app _)) (Fr.push (N:=0) (aaC _) [aU (L[k].1,s')] (by simp[aU])).aY De Si (by simp only[aaa,Z5,Z9];omega) (by simp only[tf]) ?_;intro g' SP hff hkp;have hrow:L'.map aU++[aU (L[k].1,s')]=(L'++[(L[k].1,s')]).map aU:=by rw[aae];rfl
  exact z2
 ·exact N2
set_option maxRecDepth 10000 in
def r182{L:List (iP×AV)}{s:AV}(hs:aI h s 4 (L.map aR))(he:∀x∈L,aI h x.2 1 (x.1.bC.map aq))(hl:L.length<=2^30)(hle:∀x∈L,x.1.bC.length<=2^40):
  ay P 182 [s,.func (.func 183) [] []] h (λv h'=>∃L':List (iP×AV),L'.map Prod.fst=L.map Prod.fst/\Fr h.length h' v 4 (L'.map aR)/\(∀x∈L',Fr h.length h' x.2 1 (x.1.bC.map aq))/\lL (sB v::L'.map λx=>sB x.2)):=by
 refine .of T.mix T.c182 ?_;unfold fn182 gA;refine Ws hs.aH ?_;refine WL.inv T.mix (λn ts h'=>∃(k:Nat) (out:AV) (L':List (iP×AV)),k<=L.length/\n=L.length-k/\Ext h h'/\L'.map Prod.fst=(L.take k).map Prod.fst/\Fr h.length h' out 4 (L'.map aR)/\(∀x∈L',Fr h.length h' x.2 1 (x.1.bC.map aq))/\lL (sB out::L'.map λx=>sB x.2)/\
   ts.length=22/\slot ts 1=.func (.func 183) [] []/\slot ts 5=out/\slot ts 8=s/\slot ts 9=.i L.length/\slot ts 10=.i k) L.length
  ⟨0,.af,[],Om,rfl,Ext.refl h,rfl,.nil,(λx hx=>by cases hx),abG _ _,rfl,rfl,rfl,rfl,rfl,rfl⟩ ?_
 rintro _ ts _ ⟨k,out,L',hk,rfl,⟨g,rfl⟩,hm,hfr,hin,TD,hlen,t1,t5,t8,t9,t10⟩;rw[lG ts 22 hlen];have XO:L'.length=k:=by have:=aax List.length hm;simp at this;omega
 by_cases hlt:k<L.length
 ·have e3:(k:Int)<L.length:=Om
  have Yy:=he L[k] Si;have U8:=hle L[k] Si;have ox:=Yy.one;have dB:∀{kk:ah},Ext h kk->ao (some 4) (cI s 4 k) (λb=>kk[b]?)=some (.agg (aR L[k]),.ar):=λ{kk} e=>hs.gP hlt e
  unfold aR at dB;simp only[aO,aT,aZ,a8,reduceAdd,reduceMul,reduceLeDiff,reduceEqDiff,t1,t5,t8,t9,t10,e3,aaq,hs.c6 hlt,dB,ox];have hown:=λkk (e:Ext h kk)=>r183 T (h:=kk) L[k] (Yy.ext e) U8
  unfold aR at hown;refine WF.res T.c183 (hown _ (by repeat first|exact Ext.refl _|refine Ext.app _ ?_)) ?_;rintro _ g1 ⟨s',rfl,ZN⟩;have os:=ZN.aY.one;refine Ws @os ?_;refine WR.fg (h0:=h) (cs:=L'.map aR) (ys:=[aR (L[k].1,s')]) ((((hfr.app _).app _).app _)) (Fr.push (N:=0) (aaC _) [aR (L[k].1,s')] (by simp[aR])).aY De Si (by simp only[aaa,Z5,Z9];omega) (by simp only[tf]) ?_;intro g' SP hff hkp;have hrow:L'.map aR++[aR (L[k].1,s')]=(L'++[(L[k].1,s')]).map aR:=by rw[aae];rfl
  exact z2
 ·exact N2
set_option maxRecDepth 10000 in
def r184{L:List (lH×AV)}{s:AV}(hs:aI h s 3 (L.map bF))(he:∀x∈L,aI h x.2 1 (x.1.bE.map aM))(hl:L.length<=2^30)(hle:∀x∈L,x.1.bE.length<=2^40):
  ay P 184 [s,.func (.func 185) [] []] h (λv h'=>∃L':List (lH×AV),L'.map Prod.fst=L.map Prod.fst/\Fr h.length h' v 3 (L'.map bF)/\(∀x∈L',Fr h.length h' x.2 1 (x.1.bE.map aM))/\lL (sB v::L'.map λx=>sB x.2)):=by
 refine .of T.mix T.c184 ?_;unfold fn184 gA;refine Ws hs.aH ?_;refine WL.inv T.mix (λn ts h'=>∃(k:Nat) (out:AV) (L':List (lH×AV)),k<=L.length/\n=L.length-k/\Ext h h'/\L'.map Prod.fst=(L.take k).map Prod.fst/\Fr h.length h' out 3 (L'.map bF)/\(∀x∈L',Fr h.length h' x.2 1 (x.1.bE.map aM))/\lL (sB out::L'.map λx=>sB x.2)/\
   ts.length=22/\slot ts 1=.func (.func 185) [] []/\slot ts 5=out/\slot ts 8=s/\slot ts 9=.i L.length/\slot ts 10=.i k) L.length
  ⟨0,.af,[],Om,rfl,Ext.refl h,rfl,.nil,(λx hx=>by cases hx),abG _ _,rfl,rfl,rfl,rfl,rfl,rfl⟩ ?_
 rintro _ ts _ ⟨k,out,L',hk,rfl,⟨g,rfl⟩,hm,hfr,hin,TD,hlen,t1,t5,t8,t9,t10⟩;rw[lG ts 22 hlen];have XO:L'.length=k:=by have:=aax List.length hm;simp at this;omega
 by_cases hlt:k<L.length
 ·have e3:(k:Int)<L.length:=Om
  have Yy:=he L[k] Si;have U8:=hle L[k] Si;have ox:=Yy.one;have dB:∀{kk:ah},Ext h kk->ao (some 3) (cI s 3 k) (λb=>kk[b]?)=some (.agg (bF L[k]),.ar):=λ{kk} e=>hs.gP hlt e
  unfold bF at dB;simp only[aO,aT,aZ,a8,reduceAdd,reduceMul,reduceLeDiff,reduceEqDiff,t1,t5,t8,t9,t10,e3,aaq,hs.c6 hlt,dB,ox];have hown:=λkk (e:Ext h kk)=>r185 T (h:=kk) L[k] (Yy.ext e) U8
  unfold bF at hown;refine WF.res T.c185 (hown _ (by repeat first|exact Ext.refl _|refine Ext.app _ ?_)) ?_;rintro _ g1 ⟨s',rfl,ZN⟩;have os:=ZN.aY.one;refine Ws @os ?_;refine WR.fg (h0:=h) (cs:=L'.map bF) (ys:=[bF (L[k].1,s')]) ((((hfr.app _).app _).app _)) (Fr.push (N:=0) (aaC _) [bF (L[k].1,s')] (by simp[bF])).aY De Si (by simp only[aaa,Z5,Z9];omega) (by simp only[tf]) ?_;intro g' SP hff hkp;have hrow:L'.map bF++[bF (L[k].1,s')]=(L'++[(L[k].1,s')]).map bF:=by rw[aae];rfl
  exact z2
 ·exact N2
end
theorem aB.row{h V}(o:aB h V):V.row.all AV.one=true:=by
 simp only[RV.row,DI,DH,CM,o.i0.one,o.i1.one,o.i2.one,o.i3.one,o.i4.one,o.i5.one,Bool.and_self]
def aB.box{h V}(o:aB h V){N}:p8 (.agg V.row) N=some (.ptr N 0,.push (.cells V.row true false)):=by
 have:(AV.agg V.row).cells=V.row:=rfl;simp only[p8,this,o.row,aan]
def mZ{V:RV}:V.row[0]? =some (.int .i64 V.tick):=rfl
def eJ{V:RV}:V.row[1]? =some (V.s0):=rfl
def gR{V:RV}:V.row[2]? =some (V.s1):=rfl
def dC{V:RV}:V.row[3]? =some (V.s2):=rfl
def eU{V:RV}:V.row[4]? =some (V.s3):=rfl
def fc{V:RV}:V.row[5]? =some (V.s4):=rfl
def fL{V:RV}:V.row[6]? =some (V.s5):=rfl
def aG{V:RV}{mu tl:Bool}:dG (some 7) 0 (.cells V.row mu tl)=some (.agg V.row,.ar):=rfl
def lL.app{l m}(hl:lL l)(hm:lL m)(h:∀x∈l,∀y∈m,∀b,x=some b->y≠some b):lL (l++m):=abj.2 ⟨hl,hm,h⟩
def lL.one{x}:lL [x]:=abG _ _
theorem lL.perm{l m}(hl:lL l)(h:l.Perm m):lL m:=List.Pairwise.perm hl h λ{x y} hxy b hy hx=>hxy b hx hy
def mz{n z}:dY n z=(List.replicate n z).flatten:=by
 induction n with
 |zero=>rfl
 |succ n ih=>rw[Bw,abE,aa5,ih]
def Ei{h X:ah}{A B B':ak}{b:Nat}(hb:h.length+2<=b):(h++([A]++([B']++X)))[b]? =(h++([A]++([B]++X)))[b]? :=by
 have e:∀C:ak,(h++([A]++([C]++X)))[b]? =X[b-h.length-1-1]? :=λC=>by
  rw[aaf Om,aaf (by simp only[aau];omega),aaf (by simp only[aau];omega)];rfl
 rw[e,e]
theorem cK.low{N M h V}(o:cK N h V)(hM:M<=N):cK M h V:=
 ⟨o.i0.low hM,o.i1.low hM,o.i2.low hM,o.i3.low hM,o.i4.low hM,o.i5.low hM,λx hx=>(o.e2 x hx).low hM,λx hx=>(o.e3 x hx).low hM,λx hx=>(o.e4 x hx).low hM,o.di⟩
def cK.ep{N h V}(o:cK N h V){b}(hb:some b∈V.bl):N<=b/\b<h.length:=by
 simp only[RV.bl,aac,aaJ,aaA,aa3,abH]at hb;rcases hb with((hb|⟨x,hx,hb⟩)|⟨x,hx,hb⟩)|⟨x,hx,hb⟩
 ·rcases hb with hb|hb|hb|hb|hb|hb
  ·exact o.i0.bQ hb.symm
  ·exact o.i1.bQ hb.symm
  ·exact o.i2.bQ hb.symm
  ·exact o.i3.bQ hb.symm
  ·exact o.i4.bQ hb.symm
  ·exact o.i5.bQ hb.symm
 ·exact(o.e2 x hx).bQ hb
 ·exact(o.e3 x hx).bQ hb
 ·exact(o.e4 x hx).bQ hb
theorem rQ:∀{l m:List (By)},l.Nodup->(∀x∈l,x∈m)->l.length<=m.length
 |[],_,_,_=>aaC _
 |x::l,m,hn,hs=>by
  have h1:=ab6.1 hn;have hx:=hs x Si;have:=rQ (m:=m.erase x) h1.2 λy hy=>(List.mem_erase_of_ne (λ(e:y=x)=>h1.1 (by rw[<-e];exact hy))).2 (hs y (aaH _ hy))
  rw[List.length_erase_of_mem hx]at this;have hp:=List.length_pos_of_mem hx;simp only[Z5];omega
inductive Lay:Nat->Nat->List (Option Nat)->Prop
 |nil {a:Nat}:Lay a a []
 |cons {a b c:Nat}{l m:List (Option Nat)}(hab:a<=b) (hl:lL l) (hin:∀x,some x∈l->a<=x/\x<b) (r:Lay b c m):Lay a c (l++m)
def Lay.le{a c l}(h:Lay a c l):a<=c:=by
 induction h with
 |nil=>exact aah _
 |cons hab _ _ _ ih=>omega
def Lay.mem{a c l}(h:Lay a c l):∀x,some x∈l->a<=x/\x<c:=by
 induction h with
 |nil=>intro x hx;cases hx
 |cons hab _ hin r ih=>
  intro x hx;have:=r.le;rcases aac.1 hx with hx|hx
  ·have:=hin x hx;omega
  ·have:=ih x hx;omega
def Lay.Sp{a c l}(h:Lay a c l):lL l:=by
 induction h with
 |nil=>exact List.Pairwise.nil
 |cons hab hl hin r ih=>
  refine hl.app ih λx hx y hy b hb VH=>?_
  subst hb;have h1:=hin b hx;rw[VH]at hy;have h2:=r.mem b hy;omega
def MR{N h s es cs}(hs:Fr N h s es cs):∀x,some x∈[sB s]->N<=x/\x<h.length:=by
 intro x hx;rw[aam]at hx;exact hs.bQ hx.symm
set_option maxRecDepth 10000
section
variable {P:Program}(T:fq P) {h:ah}
include T
def r96{V:RV}(o:aB h V)(w:eS V.an):ay P 96 [.agg V.row] h (λv h'=>∃V':RV,V'.an=V.an/\v=.agg V'.row/\cK h.length h' V'):=by
 refine .of T.mix T.c96 ?_;obtain⟨ts,SH⟩:∃ts,ts=aW 38 [.agg V.row]:=⟨_,rfl⟩;have hlen:ts.length=38:=by rw[SH];rfl
 have t0:slot ts 0=.agg V.row:=by rw[SH];rfl
 unfold fn96;show WC P bJ _ [] (aW 38 [.agg V.row]) h _;rw[<-SH];clear SH;have SG:=@aB.box _ _ o;have n0:V.lines.length<=16:=w.l0;have n5:V.aJ.length<=16:=w.l5;have n1:V.aE.length<=16:=w.l1;have n2:V.aj.length<=64:=by have:=w.l2;simpa [RV.an]using this
 have n3:V.aC.length<=32:=by have:=w.l3;simpa [RV.an]using this
 have n4:V.aF.length<=16:=by have:=w.l4;simpa [RV.an]using this
 have mk0:∀{N:Nat},tN 3 32 [AV.str [],.int .i64 0,.bool false] (.int .i64 (V.lines.length:Int)) (.int .i64 (V.lines.length:Int)) N=some (.slice N 0 V.lines.length 3,.push (.cells (dY V.lines.length [AV.str [],.int .i64 0,.bool false]) true true)):=oM Om Om;have mk5:∀{N:Nat},tN 4 48 [AV.str [],.str [],.int .i64 0,.bool false] (.int .i64 (V.aJ.length:Int)) (.int .i64 (V.aJ.length:Int)) N=some (.slice N 0 V.aJ.length 4,.push (.cells (dY V.aJ.length [AV.str [],.str [],.int .i64 0,.bool false]) true true)):=oM Om Om;refine Rs (A8 t0 @SG @eJ @fL o.i0.aH o.i5.aH @mk0 @mk5) ?_
 have z0:(dY V.lines.length [AV.str [],.int .i64 0,.bool false])=(List.replicate V.lines.length [AV.str [],.int .i64 0,.bool false]).flatten:=mz;have z5:(dY V.aJ.length [AV.str [],.str [],.int .i64 0,.bool false])=(List.replicate V.aJ.length [AV.str [],.str [],.int .i64 0,.bool false]).flatten:=mz;obtain⟨B,hB⟩:∃B,B=ak.cells [AV.int .i64 0,.af,.af,.af,.af,.af,.af] true false:=⟨_,rfl⟩;rw[<-hB];have f0:Fr (h++[ak.cells V.row true false]++[B]).length (h++[ak.cells V.row true false]++[B]++([ak.cells (dY V.lines.length [AV.str [],.int .i64 0,.bool false]) true true]++[ak.cells (dY V.aJ.length [AV.str [],.str [],.int .i64 0,.bool false]) true true])) (.slice (h++[ak.cells V.row true false]++[B]).length 0 V.lines.length 3) 3 (List.replicate V.lines.length [AV.str [],.int .i64 0,.bool false]):=by
  rw[<-Z4];exact(Fr.Bz (aah _) rfl).app _
 have f5:Fr (h++[ak.cells V.row true false]++[B]).length (h++[ak.cells V.row true false]++[B]++([ak.cells (dY V.lines.length [AV.str [],.int .i64 0,.bool false]) true true]++[ak.cells (dY V.aJ.length [AV.str [],.str [],.int .i64 0,.bool false]) true true])) (.slice (h++[ak.cells V.row true false]++[B]++[ak.cells (dY V.lines.length [AV.str [],.int .i64 0,.bool false]) true true]).length 0 V.aJ.length 4) 4 (List.replicate V.aJ.length [AV.str [],.str [],.int .i64 0,.bool false]):=by
  rw[<-Z4];exact Fr.Bz Si rfl
 obtain⟨Z,hZ⟩:∃Z,Z=([ak.cells (dY V.lines.length [AV.str [],.int .i64 0,.bool false]) true true]++[ak.cells (dY V.aJ.length [AV.str [],.str [],.int .i64 0,.bool false]) true true]):=⟨_,rfl⟩;have hZl:Z.length=2:=by rw[hZ];rfl
 have el5:(h++[ak.cells V.row true false]++[B]++[ak.cells (dY V.lines.length [AV.str [],.int .i64 0,.bool false]) true true]).length=(h++[ak.cells V.row true false]++[B]).length+1:=Si
 rw[Z4 (h++[ak.cells V.row true false]++[B]),<-hZ];rw[<-hZ,el5]at f5;rw[<-hZ]at f0;rw[el5];clear hZ;refine WR.M5 (h0:=h++[ak.cells V.row true false]++[B]) (g:=Z) (Sq t0) (Sq t0) f0 (o.i0.ext Xx) Si ?_;intro g1 _ X9 hf0 hk0;have ZM:=f5.aD (k:=h++[ak.cells V.row true false]++[B]++g1) λb hb=>hk0 b λb0 o n e he=>by cases he;cases hb;omega
 refine Rs (A2 t0 @fL) ?_;refine WR.M5 (h0:=h++[ak.cells V.row true false]++[B]) (g:=g1) (Sq t0) (Sq t0) ZM (o.i5.ext Xx) Si ?_;intro g2 _ hl2 hf5' hk5;have hf0':=hf0.aD (k:=h++[ak.cells V.row true false]++[B]++g2) λb hb=>hk5 b λb0 o n e he=>by cases he;cases hb;omega
 have Xg:g2.length=2:=Om
 refine Rs (A3 t0 @mZ @gR) ?_;refine WF.res T.c179 (r179 T (o.i1.ext Xx) (by simp;omega)) ?_;rintro s1 c1 q1;refine Rs (A2 t0 @dC) ?_;refine WF.res T.c180 (r180 T (o.i2.ext Xx) (λx hx=>(o.e2 x hx).ext Xx) Om (λx hx=>?_)) ?_
 ·have:=(w.sh x.1 (aao hx)).2.2;have hle:=rQ this.1 (λt ht=>this.2 t ht);have X9:(iQ V.an).length=V.aE.length:=by simp[iQ,RV.an]
  omega
 rintro s2 c2 ⟨L2,m2,q2,q2e,q2d⟩;refine Rs (A2 t0 @eU) ?_;refine WF.res T.c182 (r182 T (o.i3.ext Xx) (λx hx=>(o.e3 x hx).ext Xx) Om (λx hx=>by have:=(w.md x.1 (aao hx)).2.1;omega)) ?_;rintro s3 c3 ⟨L3,m3,q3,q3e,q3d⟩;refine Rs (A2 t0 @fc) ?_;refine WF.res T.c184 (r184 T (o.i4.ext Xx) (λx hx=>(o.e4 x hx).ext Xx) Om (λx hx=>by have:=(w.jb x.1 (aao hx)).2.2.1;omega)) ?_;rintro s4 c4 ⟨L4,m4,q4,q4e,q4d⟩;refine Rs (A6 t0 q1.aY.one q2.aY.one q3.aY.one q4.aY.one @hB) ?_;refine⟨⟨V.tick,V.lines,V.aE,L2,L3,L4,V.aJ,.slice (h++[ak.cells V.row true false]++[B]).length 0 V.lines.length 3,s1,s2,s3,s4,.slice ((h++[ak.cells V.row true false]++[B]).length+1) 0 V.aJ.length 4⟩,?_,?_,?_⟩
 ·simp only[RV.an,m2,m3,m4]
 ·rw[<-hB];rfl
 obtain⟨H,hH⟩:∃H,H=h++[ak.cells V.row true false]++[B]:=⟨_,rfl⟩;have Wp:h.length<=H.length:=by rw[hH];simp
 rw[<-hH]at hf0' hf5' q1 q2 q2e q3 q3e q4 q4e;have own:cK H.length (H++g2++c1++c2++c3++c4) ⟨V.tick,V.lines,V.aE,L2,L3,L4,V.aJ,.slice H.length 0 V.lines.length 3,s1,s2,s3,s4,.slice (H.length+1) 0 V.aJ.length 4⟩:=by
  have n0:V.lines.length=(V.lines.map bw).length:=Si
  have n5:V.aJ.length=(V.aJ.map cD).length:=Si
  refine⟨(((hf0'.app _).app _).app _).app _,?_,?_,?_,?_,(((hf5'.app _).app _).app _).app _,?_,?_,?_,?_⟩
  ·exact(((q1.app _).app _).app _).low Si
  ·exact((q2.app _).app _).low (by simp only[Z1];omega)
  ·exact(q3.app _).low (by simp only[Z1];omega)
  ·exact q4.low (by simp only[Z1];omega)
  ·exactλx hx=>(((q2e x hx).app _).app _).low (by simp only[Z1];omega)
  ·exactλx hx=>((q3e x hx).app _).low (by simp only[Z1];omega)
  ·exactλx hx=>(q4e x hx).low (by simp only[Z1];omega)
  ·have lay:Lay H.length (H++g2++c1++c2++c3++c4).length ([some H.length]++([some (H.length+1)]++([sB s1]++((sB s2::L2.map λx=>sB x.2)++((sB s3::L3.map λx=>sB x.2)++((sB s4::L4.map λx=>sB x.2)++[])))))):=by
    refine .cons (b:=H.length+1) Om .one (λx hx=>by simp at hx;omega) ?_;refine .cons (b:=(H++g2).length) (by simp only[Z1];omega) .one (λx hx=>by simp at hx;simp only[Z1];omega) ?_;refine .cons (b:=(H++g2++c1).length) (by simp only[Z1];omega) .one (MR q1) ?_;refine .cons (b:=(H++g2++c1++c2).length) (by simp only[Z1];omega) q2d (λx hx=>?_) ?_
    ·rcases aaJ.1 hx with hx|hx
     ·exact q2.bQ hx.symm
     ·obtain⟨y,hy,XV⟩:=aaA.1 hx;exact(q2e y hy).bQ XV
    refine .cons (b:=(H++g2++c1++c2++c3).length) (by simp only[Z1];omega) q3d (λx hx=>?_) ?_
    ·rcases aaJ.1 hx with hx|hx
     ·exact q3.bQ hx.symm
     ·obtain⟨y,hy,XV⟩:=aaA.1 hx;exact(q3e y hy).bQ XV
    refine .cons (b:=(H++g2++c1++c2++c3++c4).length) (by simp only[Z1];omega) q4d (λx hx=>?_) .nil;rcases aaJ.1 hx with hx|hx
    ·exact q4.bQ hx.symm
    ·obtain⟨y,hy,XV⟩:=aaA.1 hx;exact(q4e y hy).bQ XV
   refine lay.Sp.perm (List.perm_iff_count.2 λa=>?_);simp only[RV.bl,sB,List.count_append,List.count_cons,List.count_nil,aaP,ab8]
   ac_rfl
 rw[hH]at own Wp;refine(own.low Wp).ar λb hb=>?_
 have hbN:=(own.ep hb).1;simp only[Z4];exact Ei (by simpa using hbN)
end
def aB.jL{h V}(o:aB h V):(∀x∈V.aj,x.2.one=true)/\(∀x∈V.aC,x.2.one=true)/\(∀x∈V.aF,x.2.one=true):=
 ⟨λx hx=>(o.e2 x hx).one,λx hx=>(o.e3 x hx).one,λx hx=>(o.e4 x hx).one⟩
structure ff(V:RV):Prop where
 l0:V.lines.length<2^30
 l1:V.aE.length<2^30
 l2:V.aj.length<2^30
 l3:V.aC.length<2^30
 l4:V.aF.length<2^30
 l5:V.aJ.length<2^30
def eS.len{V}(w:eS V.an):ff V:=by
 have h0:=w.l0;have h1:=w.l1;have h2:=w.l2;have h3:=w.l3;have h4:=w.l4;have h5:=w.l5;simp only[RV.an,aaa]at h0 h1 h2 h3 h4 h5;exact⟨Om,Om,Om,Om,Om,Om⟩
def gV{V:RV}:kj V.an=V.aj.map λx=>x.1.name:=by simp[kj,RV.an,acs]
def iS{V:RV}:iC V.an=V.aC.map λx=>x.1.name:=by simp[iC,RV.an,acs]
def iT{V:RV}:jg V.an=V.aF.map λx=>x.1.name:=by simp[jg,RV.an,acs]
section
variable {P:Program}(T:fq P) {h:ah}
include T
def r205{V}(o:aB h V)(l:ff V){n}(hn:n∈eP V.an):ay P 205 [.agg V.row,.str n] h (λv _=>v=.agg (bw (cC V.an n))):=by
 refine .eX 13 T.mix T.c205 ?_;intro ts hlen t0 t1;unfold fn205 gA;have SG:=@aB.box _ _ o;have hlt:bn (eP V.an) n<V.lines.length:=by have:=cN hn;simpa [eP,RV.an]using this
 have ei:cV (λx:gN=>decide (x.name=n)) V.lines=(bn (eP V.an) n:Int):=fp (f:=gN.name) hn;have ix:bf 3 V.s0 (.i (bn (eP V.an) n:Int))=some (cI V.s0 3 (bn (eP V.an) n),.ar):=o.i0.c6 hlt;have ld:∀{k:ah},Ext h k->ao (some 3) (cI V.s0 3 (bn (eP V.an) n)) (λb=>k[b]?)=some (.agg (bw (V.lines[bn (eP V.an) n])),.ar):=λ{k} e=>o.i0.gP hlt e
 have sp:cC V.an n=V.lines[bn (eP V.an) n]:=de hn;rw[sp];unfold bw at ld ⊢;refine Rs (A4 t0 t1 @SG @eJ) ?_;refine WF.ce T.c142 (r142 T (o.i0.ext Xx) (by have:=l.l0;omega) n) λg1=>?_
 exact D9
def r134{V}(o:aB h V)(l:ff V){n}(hn:n∈iQ V.an):ay P 134 [.agg V.row,.str n] h (λv _=>v=.agg (cB (jI V.an n))):=by
 refine .eX 13 T.mix T.c134 ?_;intro ts hlen t0 t1;unfold fn134 gA;have SG:=@aB.box _ _ o;have hlt:bn (iQ V.an) n<V.aE.length:=by have:=cN hn;simpa [iQ,RV.an]using this
 have ei:cV (λx:sR=>decide (x.name=n)) V.aE=(bn (iQ V.an) n:Int):=fp (f:=sR.name) hn;have ix:bf 2 V.s1 (.i (bn (iQ V.an) n:Int))=some (cI V.s1 2 (bn (iQ V.an) n),.ar):=o.i1.c6 hlt;have ld:∀{k:ah},Ext h k->ao (some 2) (cI V.s1 2 (bn (iQ V.an) n)) (λb=>k[b]?)=some (.agg (cB (V.aE[bn (iQ V.an) n])),.ar):=λ{k} e=>o.i1.gP hlt e
 have sp:jI V.an n=V.aE[bn (iQ V.an) n]:=de hn;rw[sp];unfold cB at ld ⊢;refine Rs (A4 t0 t1 @SG @gR) ?_;refine WF.ce T.c143 (r143 T (o.i1.ext Xx) (by have:=l.l1;omega) n) λg1=>?_
 exact D9
def r77{V:RV}(o:aB h V)(l:ff V){n:By}(hn:n∈kj V.an):ay P 77 [.agg V.row,.str n] h (λv _=>∃x∈V.aj,x.1=lQ V.an n/\v=.agg (aU x)):=by
 refine .eX 13 T.mix T.c77 ?_;intro ts hlen t0 t1;unfold fn77 gA;have SG:=@aB.box _ _ o;have hlt:bn (kj V.an) n<V.aj.length:=by have:=cN hn;simpa [kj,RV.an]using this
 have ei:cV (λx:jc×AV=>decide (x.1.name=n)) V.aj=(bn (kj V.an) n:Int):=(fp (f:=λx:jc×AV=>x.1.name) (by rw[<-gV];exact hn)).trans (by rw[gV]);have ix:bf 3 V.s2 (.i (bn (kj V.an) n:Int))=some (cI V.s2 3 (bn (kj V.an) n),.ar):=o.i2.c6 hlt;have ld:∀{k:ah},Ext h k->ao (some 3) (cI V.s2 3 (bn (kj V.an) n)) (λb=>k[b]?)=some (.agg (aU (V.aj[bn (kj V.an) n])),.ar):=λ{k} e=>o.i2.gP hlt e
 have sp:(V.aj[bn (kj V.an) n]).1=lQ V.an n:=by
  have:=de (f:=jc.name) (l:=V.an.aj) (n:=n) (d:=CP) hn;rw[show lQ V.an n=_ from this];exact D8
 have on:=o.jL.1 (V.aj[bn (kj V.an) n]) (aad _);have Us:V.aj[bn (kj V.an) n]∈V.aj:=aad _;generalize V.aj[bn (kj V.an) n]=x at *;unfold aU at ld ⊢;refine Rs (A4 t0 t1 @SG @dC) ?_;refine WF.ce T.c136 (r136 T (o.i2.ext Xx) o.jL.1 (by have:=l.l2;omega) n) λg1=>?_
 exact HK
def r245{V:RV}(o:aB h V)(l:ff V){n:By}(hn:n∈iC V.an):ay P 245 [.agg V.row,.str n] h (λv _=>∃x∈V.aC,x.1=iG V.an n/\v=.agg (aR x)):=by
 refine .eX 13 T.mix T.c245 ?_;intro ts hlen t0 t1;unfold fn245 gA;have SG:=@aB.box _ _ o;have hlt:bn (iC V.an) n<V.aC.length:=by have:=cN hn;simpa [iC,RV.an]using this
 have ei:cV (λx:iP×AV=>decide (x.1.name=n)) V.aC=(bn (iC V.an) n:Int):=(fp (f:=λx:iP×AV=>x.1.name) (by rw[<-iS];exact hn)).trans (by rw[iS]);have ix:bf 4 V.s3 (.i (bn (iC V.an) n:Int))=some (cI V.s3 4 (bn (iC V.an) n),.ar):=o.i3.c6 hlt;have ld:∀{k:ah},Ext h k->ao (some 4) (cI V.s3 4 (bn (iC V.an) n)) (λb=>k[b]?)=some (.agg (aR (V.aC[bn (iC V.an) n])),.ar):=λ{k} e=>o.i3.gP hlt e
 have sp:(V.aC[bn (iC V.an) n]).1=iG V.an n:=by
  have:=de (f:=iP.name) (l:=V.an.aC) (n:=n) (d:=CQ) hn;rw[show iG V.an n=_ from this];exact D8
 have on:=o.jL.2.1 (V.aC[bn (iC V.an) n]) (aad _);have Us:V.aC[bn (iC V.an) n]∈V.aC:=aad _;generalize V.aC[bn (iC V.an) n]=x at *;unfold aR at ld ⊢;refine Rs (A4 t0 t1 @SG @eU) ?_;refine WF.ce T.c144 (r144 T (o.i3.ext Xx) o.jL.2.1 (by have:=l.l3;omega) n) λg1=>?_
 exact HK
def r124{V:RV}(o:aB h V)(l:ff V){n:By}(hn:n∈jg V.an):ay P 124 [.agg V.row,.str n] h (λv _=>∃x∈V.aF,x.1=gX V.an n/\v=.agg (bF x)):=by
 refine .eX 13 T.mix T.c124 ?_;intro ts hlen t0 t1;unfold fn124 gA;have SG:=@aB.box _ _ o;have hlt:bn (jg V.an) n<V.aF.length:=by have:=cN hn;simpa [jg,RV.an]using this
 have ei:cV (λx:lH×AV=>decide (x.1.name=n)) V.aF=(bn (jg V.an) n:Int):=(fp (f:=λx:lH×AV=>x.1.name) (by rw[<-iT];exact hn)).trans (by rw[iT]);have ix:bf 3 V.s4 (.i (bn (jg V.an) n:Int))=some (cI V.s4 3 (bn (jg V.an) n),.ar):=o.i4.c6 hlt;have ld:∀{k:ah},Ext h k->ao (some 3) (cI V.s4 3 (bn (jg V.an) n)) (λb=>k[b]?)=some (.agg (bF (V.aF[bn (jg V.an) n])),.ar):=λ{k} e=>o.i4.gP hlt e
 have sp:(V.aF[bn (jg V.an) n]).1=gX V.an n:=by
  have:=de (f:=lH.name) (l:=V.an.aF) (n:=n) (d:=AA) hn;rw[show gX V.an n=_ from this];exact D8
 have on:=o.jL.2.2 (V.aF[bn (jg V.an) n]) (aad _);have Us:V.aF[bn (jg V.an) n]∈V.aF:=aad _;generalize V.aF[bn (jg V.an) n]=x at *;unfold bF at ld ⊢;refine Rs (A4 t0 t1 @SG @fc) ?_;refine WF.ce T.c145 (r145 T (o.i4.ext Xx) o.jL.2.2 (by have:=l.l4;omega) n) λg1=>?_
 exact HK
def r218{V}(o:aB h V)(l:ff V){n}(hn:n∈lK V.an):ay P 218 [.agg V.row,.str n] h (λv _=>v=.agg (cD (kC V.an n))):=by
 refine .eX 13 T.mix T.c218 ?_;intro ts hlen t0 t1;unfold fn218 gA;have SG:=@aB.box _ _ o;have hlt:bn (lK V.an) n<V.aJ.length:=by have:=cN hn;simpa [lK,RV.an]using this
 have ei:cV (λx:qM=>decide (x.name=n)) V.aJ=(bn (lK V.an) n:Int):=fp (f:=qM.name) hn;have ix:bf 4 V.s5 (.i (bn (lK V.an) n:Int))=some (cI V.s5 4 (bn (lK V.an) n),.ar):=o.i5.c6 hlt;have ld:∀{k:ah},Ext h k->ao (some 4) (cI V.s5 4 (bn (lK V.an) n)) (λb=>k[b]?)=some (.agg (cD (V.aJ[bn (lK V.an) n])),.ar):=λ{k} e=>o.i5.gP hlt e
 have sp:kC V.an n=V.aJ[bn (lK V.an) n]:=de hn;rw[sp];unfold cD at ld ⊢;refine Rs (A4 t0 t1 @SG @fL) ?_;refine WF.ce T.c146 (r146 T (o.i5.ext Xx) (by have:=l.l5;omega) n) λg1=>?_
 exact D9
def MK{V}(o:aB h V)(l:ff V)(n:By):ay P 86 [.agg V.row,.i 0,.str n] h (λv _=>v=.bool (dD V.an 0 n)):=by
 refine .nC 47 T.mix T.c86 ?_;intro ts hlen t0 t1 t2;unfold fn86;have SG:=@aB.box _ _ o;have eh:dD V.an 0 n=decide (0<=cV (λx=>decide (x.name=n)) V.lines):=(fM (f:=gN.name)).symm;rw[eh]
 skip
 refine Rs (A7 t0 t1 t2 @SG @eJ @aaq @aaz) ?_;refine WF.ce T.c142 (r142 T (o.i0.ext Xx) (by have:=l.l0;omega) n) λg1=>?_
 exact GF
def MJ{V}(o:aB h V)(l:ff V)(n:By):ay P 86 [.agg V.row,.i 1,.str n] h (λv _=>v=.bool (dD V.an 1 n)):=by
 refine .nC 47 T.mix T.c86 ?_;intro ts hlen t0 t1 t2;unfold fn86;have SG:=@aB.box _ _ o;have eh:dD V.an 1 n=decide (0<=cV (λx=>decide (x.name=n)) V.aE):=(fM (f:=sR.name)).symm;rw[eh]
 skip
 have d0:((1:Int)=0)=False:=aby De;refine Rs (A8 t0 t1 t2 @SG @gR @aaq @aaz @d0) ?_;refine WF.ce T.c143 (r143 T (o.i1.ext Xx) (by have:=l.l1;omega) n) λg1=>?_
 exact GF
def MI{V:RV}(o:aB h V)(l:ff V)(n:By):ay P 86 [.agg V.row,.i 2,.str n] h (λv _=>v=.bool (dD V.an 2 n)):=by
 refine .nC 47 T.mix T.c86 ?_;intro ts hlen t0 t1 t2;unfold fn86;have SG:=@aB.box _ _ o;have eh:dD V.an 2 n=decide (0<=cV (λx=>decide (x.1.name=n)) V.aj):=by
  rw[fM (f:=λx:jc×AV=>x.1.name),<-gV];rfl
 rw[eh]
 skip
 have d0:((2:Int)=0)=False:=aby De;have d1:((2:Int)=1)=False:=aby De;refine Rs (A9 t0 t1 t2 @SG @dC @aaq @aaz @d0 @d1) ?_;refine WF.ce T.c136 (r136 T (o.i2.ext Xx) o.jL.1 (by have:=l.l2;omega) n) λg1=>?_
 exact GF
def MH{V:RV}(o:aB h V)(l:ff V)(n:By):ay P 86 [.agg V.row,.i 3,.str n] h (λv _=>v=.bool (dD V.an 3 n)):=by
 refine .nC 47 T.mix T.c86 ?_;intro ts hlen t0 t1 t2;unfold fn86;have SG:=@aB.box _ _ o;have eh:dD V.an 3 n=decide (0<=cV (λx=>decide (x.1.name=n)) V.aC):=by
  rw[fM (f:=λx:iP×AV=>x.1.name),<-iS];rfl
 rw[eh]
 skip
 have d0:((3:Int)=0)=False:=aby De;have d1:((3:Int)=1)=False:=aby De;have d2:((3:Int)=2)=False:=aby De;refine Rs (mU t0 t1 t2 @SG @eU @aaq @aaz @d0 @d1 @d2) ?_;refine WF.ce T.c144 (r144 T (o.i3.ext Xx) o.jL.2.1 (by have:=l.l3;omega) n) λg1=>?_
 exact GF
def MG{V:RV}(o:aB h V)(l:ff V)(n:By):ay P 86 [.agg V.row,.i 4,.str n] h (λv _=>v=.bool (dD V.an 4 n)):=by
 refine .nC 47 T.mix T.c86 ?_;intro ts hlen t0 t1 t2;unfold fn86;have SG:=@aB.box _ _ o;have eh:dD V.an 4 n=decide (0<=cV (λx=>decide (x.1.name=n)) V.aF):=by
  rw[fM (f:=λx:lH×AV=>x.1.name),<-iT];rfl
 rw[eh]
 skip
 have d0:((4:Int)=0)=False:=aby De;have d1:((4:Int)=1)=False:=aby De;have d2:((4:Int)=2)=False:=aby De;have d3:((4:Int)=3)=False:=aby De;refine Rs (lI t0 t1 t2 @SG @fc @aaq @aaz @d0 @d1 @d2 @d3) ?_;refine WF.ce T.c145 (r145 T (o.i4.ext Xx) o.jL.2.2 (by have:=l.l4;omega) n) λg1=>?_
 exact GF
def MF{V}(o:aB h V)(l:ff V)(n:By):ay P 86 [.agg V.row,.i 5,.str n] h (λv _=>v=.bool (dD V.an 5 n)):=by
 refine .nC 47 T.mix T.c86 ?_;intro ts hlen t0 t1 t2;unfold fn86;have SG:=@aB.box _ _ o;have eh:dD V.an 5 n=decide (0<=cV (λx=>decide (x.name=n)) V.aJ):=(fM (f:=qM.name)).symm;rw[eh]
 skip
 have d0:((5:Int)=0)=False:=aby De;have d1:((5:Int)=1)=False:=aby De;have d2:((5:Int)=2)=False:=aby De;have d3:((5:Int)=3)=False:=aby De;have d4:((5:Int)=4)=False:=aby De;refine Rs (nT t0 t1 t2 @SG @fL @aaq @aaz @d0 @d1 @d2 @d3 @d4) ?_;refine WF.ce T.c146 (r146 T (o.i5.ext Xx) (by have:=l.l5;omega) n) λg1=>?_
 exact GF
def r86{V:RV}(o:aB h V)(l:ff V){t:Nat}(ht:t<6)(n:By):ay P 86 [.agg V.row,.i t,.str n] h (λv _=>v=.bool (dD V.an t n)):=by
 match t,ht with
 | 0,_=>exact MK T o l n
 | 1,_=>exact MJ T o l n
 | 2,_=>exact MI T o l n
 | 3,_=>exact MH T o l n
 | 4,_=>exact MG T o l n
 | 5,_=>exact MF T o l n
def r135(x:sR)(t:Int):ay P 135 [.agg (cB x),.i t] h (λv _=>v=.bool (decide (t<=x.last))):=by
 refine .of T.mix T.c135 ?_;unfold fn135 gA cB;exact Wn Tv
def r76{V}(o:aB h V)(l:ff V){x}(hx:aI h x.2 1 (x.1.aE.map aq))(hl:x.1.aE.length<2^30)(hk:∀n∈x.1.aE,n∈iQ V.an)(t:Int):
  ay P 76 [.agg V.row,.agg (aU x),.i t] h (λv _=>v=.bool (eD V.an x.1 t)):=by
 refine .nC 24 T.mix T.c76 ?_;intro ts hlen t0 t1 t2;unfold fn76 gA;have SG:=@aB.box _ _ o;have ox:=hx.one;unfold aU at t1;refine Rs (A6 t0 t1 t2 @SG @ox hx.aH) ?_;refine WL.inv T.mix (λn ts h'=>∃k:Nat,k<=x.1.aE.length/\n=x.1.aE.length-k/\Ext (h++[ak.b V.row]) h'/\eD V.an x.1 t=(x.1.aE.drop k).any (gT V.an t)/\
   ts.length=24/\slot ts 2=.i t/\slot ts 3=.ptr h.length 0/\slot ts 7=.bool false/\slot ts 11=x.2/\slot ts 12=.i x.1.aE.length/\slot ts 13=.i k) x.1.aE.length
  ⟨0,Om,rfl,Xx,rfl,Sn,(Sq t2),(Sq t0),(Sq t0),(Sq t0),(Sq t0),(SA t0)⟩ ?_
 rintro _ ts _ ⟨k,hk',rfl,⟨g,rfl⟩,hs,hlen,t2,t3,t7,t11,t12,t13⟩;by_cases hlt:k<x.1.aE.length
 ·have hd:x.1.aE.drop k=x.1.aE[k]::x.1.aE.drop (k+1):=Si
  have e3:=dN hlt;have ix:=hx.c6 (kk:=.i64) hlt;have ld:∀{k':ah},Ext h k'->ao none (cI x.2 1 k) (λb=>k'[b]?)=some (.str x.1.aE[k],.ar):=λ{k'} e=>hx.lC hlt rfl e
  refine Rs (mU t2 t3 t7 t11 t12 t13 e3 ix @ld @aG) ?_;refine WF.ce T.c134 (r134 T (o.ext Xx) l (hk _ (aad hlt))) λg1=>?_
  refine Rs (A6 t2 t3 t7 t11 t12 t13) ?_;refine WF.ce T.c135 (r135 T _ t) λg2=>?_
  have hr:decide (t<=(jI V.an x.1.aE[k]).last)=gT V.an t x.1.aE[k]:=rfl;rw[hr];rw[hd,acu]at hs;cases Ub:gT V.an t x.1.aE[k]with
  |true=>
   rw[Ub,Bool.true_or]at hs;rw[hs];exact Rs (A6 t2 t3 t7 t11 t12 t13) Tv
  |false=>
   rw[Ub,acf]at hs;have e5:=wrapN (n:=k) Om;refine Rs (A7 t2 t3 t7 t11 t12 t13 e5) ?_;exact⟨_,Om,k+1,Om,rfl,hs,rfl⟩
 ·have e3:=eF hlt;have e4:k=x.1.aE.length:=Om
  rw[e4,aa2]at hs;rw[hs];refine Rs (A7 t2 t3 t7 t11 t12 t13 e3) ?_;rfl
end
structure NS(V:RV):Prop where
 sh:∀x∈V.aj,(∀n∈x.1.aE,n∈iQ V.an)/\x.1.aE.length<2^30
def eS.vj{V}(w:eS V.an):NS V:=by
 refine⟨λx hx=>?_⟩;have:=(w.sh x.1 (aao hx)).2.2;have hle:=rQ this.1 (λt ht=>this.2 t ht);have h1:=w.l1;have X9:(iQ V.an).length=V.an.aE.length:=by simp[iQ]
 exact⟨this.2,Om⟩
section
variable {P:Program}(T:fq P) {h:ah}
include T
def r139{V}(o:aB h V)(l:ff V)(ir:NS V){x}(hm:x∈V.aj){t b c}(hb:h[b]? =some (.b V.row))(hc:h[c]? =some (.b [.i t])):
  ay P 139 [.agg (aU x),.ptr b 0,.ptr c 0] h (λv _=>v=.bool (!eD V.an x.1 t)):=by
 refine .nC 10 T.mix T.c139 ?_;intro ts hlen t0 t1 t2;unfold fn139 gA;have ox:=(o.e2 x hm).one;have lb:∀{k:ah}{n:Option Nat}{a:Nat},Ext h k->ao n (.ptr b a) (λz=>k[z]?)=dG n a (.b V.row):=λe=>aA (e.some hb)
 have lc:∀{k:ah}{n:Option Nat}{a:Nat},Ext h k->ao n (.ptr c a) (λz=>k[z]?)=dG n a (.b [.i t]):=λe=>aA (e.some hc)
 have hsf:=λ(k:ah) (e:Ext h k)=>r76 T (o.ext e) l ((o.e2 x hm).ext e) (ir.sh x hm).2 (ir.sh x hm).1 t
 unfold aU at t0 hsf;refine Rs (A7 t0 t1 t2 @ox @lb @lc @aG) ?_;refine WF.ce T.c76 (hsf _ Xx) λg1=>?_
 exact GF
def r80{V}(o:aB h V)(l:ff V)(ir:NS V)(t:Int):ay P 80 [.agg V.row,.i t] h (λv h'=>aI h' v 1 ((fK V.an t).map aq)):=by
 refine .eX 10 T.mix T.c80 ?_;intro ts hlen t0 t1;unfold fn80 gA;have SG:=@aB.box _ _ o;refine Rs (A4 t0 t1 @SG @dC) ?_;have hm:∀x,x∈V.aj->∀k,Ext (h++[ak.b V.row]++[ak.b [AV.i t]]) k->bH P (.func (.func 139) [] [.ptr h.length 0,.ptr (h++[ak.b V.row]).length 0]) [.agg (aU x)] k (λv _=>v=.bool (!eD V.an x.1 t)):=λx hx k e=>
  bH.of (a:=[]) T.c139 (r139 T (o.ext (Ext.trans Xx e)) l ir hx (e.some qa) (e.some ba))
 refine WF.res T.c138 (r138 T (o.i2.ext Xx) o.jL.1 (by have:=l.l2;omega) (λx=>!eD V.an x.1 t) hm) ?_;rintro s1 g1 hf;refine Rs (A2 t0 t1) ?_;have Tg:(V.aj.filter λx=>!eD V.an x.1 t).length<=V.aj.length:=aaF _ _;refine WF.res T.c137 (r137 T hf.aY (λx hx=>o.jL.1 x ((aa6.1 hx).1)) (by have:=l.l2;omega) (λx=>x.1.name) (λx hx k e=>bH.of (a:=[]) (c:=[]) T.c140 (r140 T x (o.jL.1 x ((aa6.1 hx).1))))) ?_;rintro s2 g2 Vw;have eu:fK V.an t=(V.aj.filter λx=>!eD V.an x.1 t).map λx=>x.1.name:=by
  exact z203
 rw[eu];have:=Vw.aY;refine Rs (A2 t0 t1) ?_;exact this
def r255{x}(ox:x.2.one=true){n b}(hb:h[b]? =some (.b [.str n])):ay P 255 [.agg (aU x),.ptr b 0] h (λv _=>v=.bool (decide (x.1.line=n))):=by
 refine .eX 8 T.mix T.c255 ?_;intro ts hlen t0 t1;unfold fn255 gA;have lb:∀{k:ah}{n':Option Nat}{a:Nat},Ext h k->ao n' (.ptr b a) (λz=>k[z]?)=dG n' a (.b [.str n]):=λe=>aA (e.some hb)
 unfold aU at t0;exact Rs (A4 t0 t1 @ox @lb) Tv
def r206{V}(o:aB h V)(l:ff V)(n:By):ay P 206 [.agg V.row,.str n] h (λv h'=>aI h' v 3 ((V.aj.filter λx=>decide (x.1.line=n)).map aU)):=by
 refine .eX 9 T.mix T.c206 ?_;intro ts hlen t0 t1;unfold fn206 gA;have SG:=@aB.box _ _ o;refine Rs (A4 t0 t1 @SG @dC) ?_;refine WF.res T.c138 (r138 T (o.i2.ext Xx) o.jL.1 (by have:=l.l2;omega) (λx=>decide (x.1.line=n)) (λx hx k e=>bH.of (a:=[]) (c:=[.ptr (h++[ak.b V.row]).length 0]) T.c255 (r255 T (o.jL.1 x hx) (e.some ba)))) ?_;rintro s1 g1 hf;have:=hf.aY;refine Rs (A2 t0 t1) ?_;exact this
def r269{x n b}(hb:h[b]? =some (.b [.str n])):ay P 269 [.agg (cD x),.ptr b 0] h (λv _=>v=.bool (decide (x.Bt=n))):=by
 refine .eX 8 T.mix T.c269 ?_;intro ts hlen t0 t1;unfold fn269 GI;have lb:∀{k:ah}{n':Option Nat}{a:Nat},Ext h k->ao n' (.ptr b a) (λz=>k[z]?)=dG n' a (.b [.str n]):=λe=>aA (e.some hb)
 unfold cD at t0;exact Rs (A3 t0 t1 @lb) Tv
def r251{V}(o:aB h V)(l:ff V)(n:By):ay P 251 [.agg V.row,.str n] h (λv _=>v=.bool (qH V.an n)):=by
 refine .eX 9 T.mix T.c251 ?_;intro ts hlen t0 t1;unfold fn251 gA;have SG:=@aB.box _ _ o;refine Rs (A4 t0 t1 @SG @fL) ?_;refine WF.ce T.c268 (r268 T (o.i5.ext Xx) (by have:=l.l5;omega) (λx=>decide (x.Bt=n)) (λx hx k e=>bH.of (a:=[]) (c:=[.ptr (h++[ak.b V.row]).length 0]) T.c269 (r269 T (e.some ba)))) λg1=>?_
 refine Rs (A2 t0 t1) ?_;rfl
end
end Go.Abs
namespace Go.Abs
def WF.Lb{P ro ks ts h h' Q fv args d l v}(H:fI P fv args h v h')(K:WP P ro l ks (put ts d v) h' Q):WF P ro false fv args d l ks ts h Q:=
 ⟨v,h',H,λhq=>absurd hq Si,K⟩
structure IterM(P:Program)(f:FuncId)(a c:List AV)(L:List (List AV))(pre:ah->Prop):Prop where
 run:∀(l:Nat) (h:ah) (J:Nat->Nat->ah->Prop) (D:ah->Prop),(∀m i k,J m i k->pre k)->(∀m i k g,J m i k->J m i (k++g))->
  (∀m i (hi:i<L.length) k,J m i k->∃b k',fI P (.func (.yield l) [] []) L[i] k (.bool b) k'/\(∀x,l<x->x<m->k'[x]? =k[x]?)/\(if b=true then J m (i+1) k' else D k'))->
  (∀m k,J m L.length k->D k)->l+1=h.length->pre h->(∀g,J (h++g).length 0 (h++g))->dA P f (a++[.func (.yield l) [] []]++c) h (λ_ k=>D k)
section
variable {P:Program}{ks:List Kt}{ts:TS}{h:ah}{Q:Ex->TS->ah->Prop}
def WC.iterM(hmix:P.follows .mixedOrders=true){f A a c L pre g ps asg body}(hA:bT P f=some A)
  (hg:val ts g=.func (.func f) a c) (hi:IterM P f a c L pre) (hps:∀x∈L,x.length=ps.length) (I:Nat->Nat->ah->ah->Prop) (Fin:Ex->ah->ah->Prop)
  (h0:∀g,I (h.length+1+g.length) 0 h g) (hcl:∀m i h' g g2,I m i h' g->I m i h' (g++g2)) (hp0:∀X,pre (h++[X])) (hpre:∀m i h' g X,h'.length=h.length->I m i h' g->pre (h'++[X]++g))
  (step:∀m i (hi:i<L.length) h' g (R B:ak),h'.length=h.length->I m i h' g->
   WC P C6 asg [] (setArgs ts ps L[i]) (h'++[R]++g) λe1 Wb h2=>e1=.normal/\∃h1 g1,h2=h1++[R]++g1/\h1.length=h.length/\
    WC P C6 body [] Wb (h1++[B]++g1) λe2 _ h4=>∃h3 g3,h4=h3++[B]++g3/\h3.length=h.length/\(∀x,x+h.length+1<m->g3[x]? =g[x]?)/\(if e2=.normal then I m (i+1) h3 g3 else Fin e2 h3 g3))
  (done:∀e h' g,h'.length=h.length->(if e=.normal then ∃m,I m L.length h' g else Fin e h' g)->WE P bJ e ks ts (h'++[ak.dead]++g) Q):WC P bJ (.gg g ps asg body) ks ts h Q:=by
 let J:Nat->Nat->ah->Prop:=λm i k=>∃h' g,k=h'++[.loop .ready .normal ts ps asg body]++g/\h'.length=h.length/\I m i h' g
 let D:ah->Prop:=λk=>∃e h' g st,k=h'++[.loop st e ts ps asg body]++g/\h'.length=h.length/\st≠.busy/\(if e=.normal then ∃m,I m L.length h' g else Fin e h' g)
 obtain⟨v,h2,hs,e,h',g',st,rfl,hl,bY,Ut⟩:=hi.run h.length (h++[.loop .ready .normal ts ps asg body]) J D
  (λm i k hJ=>by obtain⟨h',g,rfl,h1,h2⟩:=hJ;exact hpre m i h' g _ h1 h2)
  (λm i k g2 hJ=>by obtain⟨h',g,rfl,h1,h2⟩:=hJ;exact⟨h',g++g2,by rw[Z4],h1,hcl _ _ _ _ _ h2⟩)
  (λm i hi k hJ=>by
   obtain⟨h',g,rfl,h1,h2⟩:=hJ;obtain⟨e1,Wb,k2,q1,rfl,h3,g3,rfl,h4,q2⟩:=W.sound hmix (step m i hi h' g (.loop .ready .normal ts ps asg body) (.loop .busy .normal ts ps asg body) h1 h2);obtain⟨e2,ts3,k3,q3,h5,g5,rfl,h6,q5,q4⟩:=W.sound hmix q2;have hy:fI P (.func (.yield h.length) [] []) L[i] (h'++[.loop .ready .normal ts ps asg body]++g) (.bool (decide (e2=.normal))) (List.set (h5++[ak.loop .busy .normal ts ps asg body]++g5) h.length (ak.loop (if e2=.normal then .ready else .done) e2 ts ps asg body)):=
    fI.yield (nJ h1) (hps _ (aad hi)) (λr=>q1 (some r) ⟨r,rfl⟩) (nJ h4) (λr=>by rw[rY h4];exact q3 (some r) ⟨r,rfl⟩) (nJ h6)
   rw[rY h6]at hy;refine⟨decide (e2=.normal),_,hy,?_,?_⟩
   ·intro x hx Ta;rw[aaf (by simp;omega),aaf (by simp;omega)];have:=q5 (x-h.length-1) Om;simp only[Z1,Z5,Z9,h6,h1,aaP,Nat.sub_sub]at this ⊢;exact this
   by_cases he:e2=.normal
   ·exact z143
   ·rw[aab he]at q4;simp only[he,aaz,aaU,aal];exact⟨e2,h5,g5,.done,rfl,h6,Si,by rw[aab he];exact q4⟩)
  (λm k hJ=>by obtain⟨h',g,rfl,h1,h2⟩:=hJ;exact⟨.normal,h',g,.ready,rfl,h1,Si,by rw[aai rfl];exact⟨m,h2⟩⟩)
  Si (hp0 _) (λg=>⟨h,g,rfl,rfl,by have:=h0 g;simpa only[Z1,Z5,Z9,aaP]using this⟩)
 exact Rn
end
def WC.CV{P ro c ts h Q Q'}(H:WC P ro c [] ts h Q)(hq:∀e ts' h',Q e ts' h'->Q' e ts' h'):WC P ro c [] ts h Q':=W.mono H hq
def qZ{A B:ah}{K K':ak}{b:Nat}(h:b≠A.length):(A++[K]++B)[b]? =(A++[K']++B)[b]? :=by
 by_cases h1:b<A.length
 ·rw[Z4,Z4,Z7 h1,Z7 h1]
 ·exact z80
def Js{A B:ah}{K:ak}:(A++[K]++B)[A.length]? =some K:=by
 exact KI
def dK(x:By×Bool):AV×AV:=(.str x.1,.bool x.2)
def gM:List (By×Bool)->By->Bool
 |[],_=>false
 |(a,b)::r,w=>if w=a then b else gM r w
def sK:List (By×Bool)->By->Bool->List (By×Bool)
 |[],w,b=>[(w,b)]
 |(a,c)::r,w,b=>if w=a then(w,b)::r else(a,c)::sK r w b
theorem sM:∀{M}{w w'}{b},gM (sK M w b) w' =if w' =w then b else gM M w'
 |[],w,w',b=>by rw[sK,gM];rfl
 |(a,c)::r,w,w',b=>by
  rw[sK];by_cases h1:w=a
  ·subst h1;rw[aai rfl,gM,gM];by_cases h2:w' =w
   ·rw[aai h2,aai h2]
   ·rw[aab h2,aab h2,aab h2]
  ·rw[aab h1,gM,gM,sM];by_cases h2:w' =a
   ·subst h2;rw[aai rfl,aab (abo h1),aai rfl]
   ·rw[aab h2,aab h2]
theorem tY:∀{M}{w},∃o:Option AV,jO .s (.str w) (M.map dK)=some o/\(o=some (.bool (gM M w))\/(o=none/\gM M w=false))
 |[],w=>⟨none,rfl,.inr ⟨rfl,rfl⟩⟩
 |(a,c)::r,w=>by
  by_cases h1:w=a
  ·subst h1;refine⟨some (.bool c),?_,.inl ?_⟩
   ·simp only[aaX,dK,jO,cX,BEq.rfl]
   ·rw[gM,aai rfl]
  ·obtain⟨o,h2,h3⟩:=tY (M:=r) (w:=w);have hb:(w==a)=false:=by simp[h1]
   refine⟨o,?_,?_⟩
   ·simp only[aaX,dK,jO,cX,hb];exact h2
   ·rw[gM,aab h1];exact h3
theorem vw:∀{M}{w}{b},pM .s (.str w) (.bool b) (M.map dK)=some ((sK M w b).map dK)
 |[],w,b=>rfl
 |(a,c)::r,w,b=>by
  by_cases h1:w=a
  ·subst h1;rw[sK,aai rfl];simp only[aaX,dK,pM,cX,BEq.rfl]
  ·have hb:(w==a)=false:=by simp[h1]
   have:=vw (M:=r) (w:=w) (b:=b);rw[sK,aab h1];show(match some (w==a)with|some true=>some ((AV.str w,AV.bool b)::r.map dK)|some false=>(pM .s (.str w) (.bool b) (r.map dK)).map ((AV.str a,AV.bool c)::·)|none=>none)=_;rw[hb,this];rfl
def uF(kk:CK)(m k x:AV)(G:Nat->Option ak):Option (AV×jd):=
 match m with
 |.map r=>
  match G r with
  |some (.bA es)=>
   match pM kk k x es with
   |some es'=>some (az,.set r (.bA es'))
   |none=>none
  |_=>none
 |_=>none
def uE{kk r k x G es es'}(hb:G r=some (.bA es))(hu:pM kk k x es=some es'):uF kk (.map r) k x G=some (az,.set r (.bA es')):=by
 simp only[uF,hb,hu]
def jK{kk m k x ρ G N}:stepT (.gh kk m k x) ρ G N=uF kk (ρ m) (ρ k) (ρ x) G:=rfl
def iU(kk:CK)(z:AV)(ok:Bool)(m k:AV)(G:Nat->Option ak):Option (AV×jd):=
 match m with
 |.dz=>some (if ok then .dW [z,.bool false]else z,.ar)
 |.map r=>
  match G r with
  |some (.bA es)=>
   match jO kk k es with
   |some (some v)=>some (if ok then .dW [v,.bool true]else v,.ar)
   |some none=>some (if ok then .dW [z,.bool false]else z,.ar)
   |none=>none
  |_=>none
 |_=>none
def bZ{kk z ok m k ρ G N}:stepT (.look kk z ok m k) ρ G N=iU kk z ok (ρ m) (ρ k) G:=rfl
def lX(z:AV)(ok:Bool):Option AV->Option (AV×jd)
 |some v=>some (if ok then .dW [v,.bool true]else v,.ar)
 |none=>some (if ok then .dW [z,.bool false]else z,.ar)
def rX{kk z ok r k G es o}(hb:G r=some (.bA es))(hu:jO kk k es=some o):
  iU kk z ok (.map r) k G=lX z ok o:=by
 simp only[iU,hb,hu];cases o<;>rfl
def pV{r w G M}(hb:G r=some (.bA (M.map dK))):iU .s (.bool false) false (.map r) (.str w) G=some (.bool (gM M w),.ar):=by
 obtain⟨o,h1,h2⟩:=tY (M:=M) (w:=w);rw[rX hb h1];rcases h2 with rfl|⟨rfl,h2⟩
 ·rfl
 ·rw[h2];rfl
def rS{r w b G M}(hb:G r=some (.bA (M.map dK))):uF .s (.map r) (.str w) (.bool b) G=some (az,.set r (.bA ((sK M w b).map dK))):=uE hb vw
def ai.tl:ai->ai
 |.seq _ b=>b
 |c=>c
def ai.hd:ai->ai
 |.seq a _=>a
 |c=>c
def ai.dr:Nat->ai->ai
 | 0,c=>c
 |n+1,c=>c.tl.dr n
def ai.uJ:ai->ai
 |.block _ a=>a
 |.loop a=>a
 |c=>c
def ai.EE:ai->ai
 |.gg _ _ a _=>a
 |c=>c
def ai.D1:ai->ai
 |.gg _ _ _ b=>b
 |c=>c
def Fr.swap'{N A B g s es cs}(hs:Fr N (A++g) s es cs)(hA:A.length=N)(hB:B.length=N):Fr N (B++g) s es cs:=by
 subst hA;exact hs.swap hB
set_option maxRecDepth 10000
attribute [local irreducible] WP WC WE WB WR WF WL WG fX
def Me:ai:=((fn214).body.tl).hd
def It:ai:=Me.tl.uJ
def PC:ai:=(fn214).body.tl.tl
def Md:(fn214).body=.seq ((fn214).body.hd) (.seq (.seq Me.hd (.block 0 (.gg (.t 16) [17,18] It.EE It.D1))) PC):=rfl
section
variable {P:Program}(T:fq P) {h:ah}
include T
def CU{x:iP×AV}{Hm:List (By×Bool)->ah}{mb bb xb:Nat}(a1:∀M,(Hm M)[mb]? =some (.bA (M.map dK)))(a2:∀M,(Hm M)[bb]? =some (.b [.map mb]))(a3:∀M,(Hm M)[xb]? =some (.b (aR x)))
  (a4:∀M K:List (By×Bool),(Hm M).set mb (.bA (K.map dK))=Hm K) (a5:∀M,aI (Hm M) x.2 1 (x.1.bC.map aq)) (hl:x.1.bC.length<2^30) {ts:TS}(hlen:ts.length=56) (t4:slot ts 4=.ptr bb 0) (t6:slot ts 6=.ptr xb 0)
  {M:List (By×Bool)}{S:List (By)}(hM:∀w,gM M w=decide (w∈S)):
  WC P C6 It.D1 [] ts (Hm M) λe _ h4=>e=.normal/\∃M',h4=Hm M'/\∀w,gM M' w=decide (w∈(if x.1.name∈S then S++x.1.bC else S)):=by
 have l2:∀{M n o},ao n (.ptr bb o) (λz=>(Hm M)[z]?)=dG n o (.b [.map mb]):=λ{M _ _}=>aA (a2 M)
 have l3:∀{M n o},ao n (.ptr xb o) (λz=>(Hm M)[z]?)=dG n o (.b [.str x.1.name,.str x.1.gives,.str x.1.line,x.2]):=λ{M _ _}=>aA (a3 M)
 have lk:∀{M w},iU .s (.bool false) false (.map mb) (.str w) (λz=>(Hm M)[z]?)=some (.bool (gM M w),.ar):=λ{M _}=>pV (a1 M)
 have mp:∀{M w b},uF .s (.map mb) (.str w) (.bool b) (λz=>(Hm M)[z]?)=some (az,.set mb (.bA ((sK M w b).map dK))):=λ{M _ _}=>rS (a1 M)
 have Vt:=λM G=>(a5 M).aH G
 unfold It Me fn214 gA;simp only[ai.tl,ai.hd,ai.uJ,ai.D1]
 repeat (first|simp (config:={maxSteps:=1000000}) only[aO,aT,aZ,a8,reduceAdd,reduceMul,reduceLeDiff,reduceEqDiff,bd,hlen,aal,aan,t4,t6,l2,l3,Vt M]|simp (config:={maxSteps:=1000000}) (disch:=first|(simp only[Z1,Z5,Z9]<;>omega)|rfl|omega|fail) only[dX,aO,aT,aZ,a8,reduceAdd,reduceMul,reduceLeDiff,reduceEqDiff,bd,hlen,aal,aan,t4,t6,l2,l3,Vt M])
 refine WL.inv T.mix (λn ts h'=>∃(k:Nat) (M':List (By×Bool)),k<=x.1.bC.length/\n=x.1.bC.length-k/\h' =Hm M'/\(∀w,gM M' w=decide (w∈S\/(x.1.name∈S/\w∈x.1.bC.take k)))/\
   ts.length=56/\slot ts 4=.ptr bb 0/\slot ts 6=.ptr xb 0/\slot ts 20=x.2/\slot ts 21=.i x.1.bC.length/\slot ts 22=.i k) x.1.bC.length
  ⟨0,M,Om,rfl,rfl,λw=>by rw[hM];simp,Sn,(Sq t4),(Sq t6),(Sq t6),(Sq t6),ga⟩ ?_
 clear t4 t6 hlen hM;clear M ts;rintro _ ts _ ⟨k,M,hk',rfl,rfl,hM,hlen,t4,t6,t20,t21,t22⟩;by_cases hlt:k<x.1.bC.length
 ·have e3:=dN hlt;have ix:=(a5 M).c6 (kk:=.i64) hlt;have ld:ao none (cI x.2 1 k) (λb=>(Hm M)[b]?)=some (.str x.1.bC[k],.ar):=(a5 M).lC hlt rfl (Ext.refl _);have e5:=wrapN (n:=k) Om;have hnew:∀w,gM (sK M x.1.bC[k] (gM M x.1.bC[k]||gM M x.1.name)) w=decide (w∈S\/(x.1.name∈S/\w∈x.1.bC.take (k+1))):=by
   intro w;rw[sM];have ht:x.1.bC.take (k+1)=x.1.bC.take k++[x.1.bC[k]]:=by rw[aaO,Z6 hlt];rfl
   rw[ht];by_cases hw:w=x.1.bC[k]
   ·rw[aai hw,hM,hM,hw,<-Bool.decide_or,abK,aac,aam];constructor
    ·rintro((h1|h1)|(h1|h1))
     ·exact .inl h1
     ·exact .inr ⟨h1.1,.inl h1.2⟩
     ·exact .inr ⟨h1,.inr rfl⟩
     ·exact .inr ⟨h1.1,.inr rfl⟩
    ·rintro(h1|h1)
     ·exact .inl (.inl h1)
     ·exact .inr (.inl h1.1)
   ·rw[aab hw,hM,abK,aac,aam];simp only[hw,abH]
  cases hb:gM M x.1.bC[k]with
  |true=>
   rw[hb,Bool.true_or]at hnew;exact z91
  |false=>
   rw[hb,acf]at hnew;exact z91
 ·have e3:=eF hlt;have e4:k=x.1.bC.length:=Om
  rw[e4,aaI]at hM;refine Rs (A6 t4 t6 t20 t21 t22 e3) ?_;refine⟨M,rfl,λw=>?_⟩;rw[hM,abK];by_cases hx:x.1.name∈S<;>simp[hx]
end
def PA:iP×AV:=(CQ,.af)
def ue(X:List (iP×AV)):List (List AV):=(List.range X.length).map λj=>[.i ((X.length-1-j:Nat):Int),.agg (aR (X.getD (X.length-1-j) PA))]
def jG{X}:(ue X).length=X.length:=by simp[ue]
def ud{X j}(hj:j<(ue X).length):(ue X)[j]=[.i ((X.length-1-j:Nat):Int),.agg (aR (X[X.length-1-j]'(by rw[jG]at hj;omega)))]:=by
 have h1:X.length-1-j<X.length:=by rw[jG]at hj;omega
 simp only[ue,abf,List.getElem_range,aaN,Z6 h1,acg]
structure qN(V:RV)(m:By)(cm cr:Nat)(k:ah):Prop where
 m:k[cm]? =some (.b [.str m])
 r:k[cr]? =some (.b V.row)
 o:aB k V
theorem qN.ext{V m cm cr k k'}(p:qN V m cm cr k)(e:Ext k k'):qN V m cm cr k':=⟨e.some p.m,e.some p.r,p.o.ext e⟩
def je(V:RV)(m:By):List (iP×AV):=V.aC.filter λx=>decide (x.1.name∈cS m V.an.aC.reverse)
def AB{m:By}{l:List iP}{i:Nat}(hi:i<l.length):cS m (l.take (i+1))=(if l[i].name∈cS m (l.take i)then cS m (l.take i)++l[i].bC else cS m (l.take i)):=by
 rw[aaO,Z6 hi,cS,List.foldl_append];rfl
def tZ{α:Type}{p:α->Bool}{l:List α}{k:Nat}(hk:k<l.length)(hp:p l[k]=true):∃h:((l.take k).filter p).length<(l.filter p).length,(l.filter p)[((l.take k).filter p).length]=l[k]:=by
 have e:l.filter p=(l.take k).filter p++(l[k]:: (l.drop (k+1)).filter p):=by
  conv=>lhs;rw[<-abn k l,ab1 hk,aaZ,abi,aai hp]
 have h:((l.take k).filter p).length<(l.filter p).length:=by rw[e];simp
 refine⟨h,?_⟩;have:(l.filter p)[((l.take k).filter p).length]? =some l[k]:=by rw[e,aaf (aah _)];simp
 exact(Z2.1 this).2
def xy{α:Type}{p:α->Bool}{l:List α}{k:Nat}(hk:k<l.length):((l.take (k+1)).filter p).length=if p l[k]=true then((l.take k).filter p).length+1 else((l.take k).filter p).length:=by
 rw[aaO,Z6 hk,aaZ,Z1];cases h:p l[k]<;>simp[h]
def Du{N}:p8 .dz N=some (.ptr N 0,.push (.b [.dz])):=rfl
def Lo{r N}:kN 1 0 (.map r) N (.b [.dz])=some (az,.set N (.b [.map r])):=rfl
section
variable {P:Program}(T:fq P) {h:ah}
include T
def r215{s}(o:s.one=true):ay P 215 [s] h (λv h'=>v=.func (.func 259) [] [.ptr h.length 0]/\h' =h++[.b [s]]):=by
 refine .of T.mix T.c215 ?_;unfold fn215 gA;exact Ws @o Tv
def AI{b s X}(hl:X.length<2^30):
  Iter P 259 [] [.ptr b 0] (ue X) (λk=>k[b]? =some (.b [s])/\aI k s 4 (X.map aR)):=by
 refine⟨λl h1 J Dn hpre happ Tw US h0=>dA.of T.mix T.c259 ?_⟩;obtain⟨ts,SH⟩:∃ts,ts=aW 19 ([]++[.func (.yield l) [] []]++[.ptr b 0]):=⟨_,rfl⟩;have hlen:ts.length=19:=by rw[SH];rfl
 have t0:slot ts 0=.func (.yield l) [] []:=by rw[SH];rfl
 have t1:slot ts 1=.ptr b 0:=by rw[SH];rfl
 unfold fn259 gA;show WC P bJ _ [] (aW 19 ([]++[.func (.yield l) [] []]++[.ptr b 0])) h1 _;rw[<-SH];clear SH;have p0:=hpre 0 h1 h0;have l0:∀{n o},ao n (.ptr b o) (λz=>h1[z]?)=dG n o (.b [s]):=λ{_ _}=>aA p0.1
 have e0:IntKind.i64.wrap ((X.length:Int)-1)=(X.length:Int)-1-(0:Nat):=by rw[bD Om Om];omega
 refine Rs (A5 t0 t1 @l0 p0.2.aH e0) ?_;refine WL.inv T.mix (λn ts h'=>∃k:Nat,k<=X.length/\n=X.length-k/\J k h'/\ts.length=19/\slot ts 0=.func (.yield l) [] []/\slot ts 1=.ptr b 0/\slot ts 3=.i ((X.length:Int)-1-k)) X.length
  ⟨0,Om,rfl,h0,Sn,(Sq t0),(Sq t1),(Sq t0)⟩ ?_
 clear t0 t1 hlen l0 p0;clear ts;rintro _ ts h' ⟨k,hk,rfl,hJ,hlen,t0,t1,t3⟩;obtain⟨p1,p2⟩:=hpre _ _ hJ;have l0:∀{n o},ao n (.ptr b o) (λz=>h'[z]?)=dG n o (.b [s]):=λ{_ _}=>aA p1
 by_cases hlt:k<X.length
 ·have hj:X.length-1-k<X.length:=Om
  have ei:(X.length:Int)-1-k=((X.length-1-k:Nat):Int):=Om
  have e3:decide ((0:Int)<=((X.length-1-k:Nat):Int))=true:=Z8 Om;have ix:=p2.c6 (kk:=.i64) hj;have ld:ao (some 4) (cI s 4 (X.length-1-k)) (λb=>h'[b]?)=some (.agg (aR X[X.length-1-k]),.ar):=p2.gP hj (Ext.refl _);have hwk:IntKind.i64.wrap (((X.length-1-k:Nat):Int)-1)=(X.length:Int)-1-((k+1:Nat):Int):=by rw[bD Om Om];omega
  rw[ei]at t3;refine Rs (A7 t0 t1 t3 @l0 e3 ix @ld) ?_;obtain⟨bb,k',q1,q2⟩:=Tw k (by rw[jG];exact hlt) h' hJ;rw[ud]at q1;refine WF.Lb q1 ?_;cases bb with
  |true=>
   refine Rs (A5 t0 t1 t3 @aar @hwk) ?_;exact⟨_,Om,k+1,Om,rfl,q2,rfl⟩
  |false=>
   refine Rs (A4 t0 t1 t3 @aay) ?_;exact q2
 ·have e3:decide ((0:Int)<=(X.length:Int)-1-k)=false:=Z3 Om;have e4:k=X.length:=Om
  refine Rs (A4 t0 t1 t3 e3) ?_;refine US h' ?_;rw[jG,<-e4];exact hJ
def r119{V}(o:aB h V)(m:By):ay P 119 [.agg V.row,.str m] h (λv h'=>v=.func (.func 214) [] [.ptr (h.length+1) 0,.ptr h.length 0]/\qN V m (h.length+1) h.length h'):=by
 refine .eX 6 T.mix T.c119 ?_;intro ts hlen t0 t1;unfold fn119 gA;have SG:=@aB.box _ _ o;have hl2:(h++[ak.b V.row]).length=h.length+1:=Si
 refine Rs (A3 t0 t1 @SG) ?_;rw[hl2];refine⟨rfl,?_,qa,o.ext Xx⟩;rw[<-hl2];exact ba
def sg{V:RV}(l:ff V)(hin:∀x∈V.aC,x.1.bC.length<2^30)(m:By)(cm cr:Nat):
  IterM P 214 [] [.ptr cm 0,.ptr cr 0] ((je V m).map λx=>[.agg (aR x)]) (qN V m cm cr):=by
 refine⟨λlp h J Dn hpre happ Tw US hlp p0 h0=>dA.of T.mix T.c214 ?_⟩;obtain⟨ts,SH⟩:∃ts,ts=aW 56 ([]++[.func (.yield lp) [] []]++[.ptr cm 0,.ptr cr 0]):=⟨_,rfl⟩;have hlen:ts.length=56:=by rw[SH];rfl
 have t0:slot ts 0=.func (.yield lp) [] []:=by rw[SH];rfl
 have t1:slot ts 1=.ptr cm 0:=by rw[SH];rfl
 have t2:slot ts 2=.ptr cr 0:=by rw[SH];rfl
 show WC P bJ (fn214).body [] (aW 56 ([]++[.func (.yield lp) [] []]++[.ptr cm 0,.ptr cr 0])) h _;rw[<-SH,Md];clear SH;obtain⟨RR,TK⟩:∃RR,RR=PC:=⟨_,rfl⟩;obtain⟨RA,YS⟩:∃RA,RA=It.EE:=⟨_,rfl⟩;obtain⟨RB,YR⟩:∃RB,RB=It.D1:=⟨_,rfl⟩;rw[<-TK,<-YS,<-YR];unfold Me fn214 gA;simp only[ai.tl,ai.hd];have lm:=@dB _ _ _ p0.m;have lr:=@dB _ _ _ p0.r;have u0:uF .s (.map h.length) (.str m) (.bool true) (λz=>(h++[ak.bA []])[z]?)=some (az,.set h.length (.bA ([(m,true)].map dK))):=rS (M:=[]) ba;refine Rs (mU t0 t1 t2 @lm @lr @jK @u0 @eU @Du @Lo) ?_;refine WF.res T.c215 (r215 T p0.o.i3.one) ?_;rintro _ g1 ⟨rfl,hg⟩;have hg:=abQ hg
 subst hg;refine Rs (A3 t0 t1 t2) ?_;have hlV:V.an.aC.length=V.aC.length:=by simp[RV.an]
 refine WC.iter T.mix T.c259 (a:=[]) (c:=[.ptr (h++[ak.bA (List.map dK [(m,true)])]++[ak.b [AV.map h.length]]).length 0]) (Sq t0) (AI T (s:=V.s3) (X:=V.aC) (by have:=l.l3;omega)) (λy hy=>by obtain⟨z,_,rfl⟩:=aaA.1 hy;rfl)
  (λi h' g=>∃M:List (By×Bool),h' =h++[ak.bA (M.map dK)]++[ak.b [AV.map h.length]]++[ak.b [V.s3]]/\∀w,gM M w=decide (w∈cS m (V.an.aC.reverse.take i))) (λ_ _ _=>False)
  ⟨[(m,true)],rfl,λw=>?_⟩ (λi h' g g' hI=>hI) (λi h' g X hl hI=>?_) (λi hi h' g R B SP hI=>?_) (λe h' g hl hI=>?_)
 ·show(if w=m then true else false)=decide (w∈[m]);by_cases hw:w=m<;>simp[hw]
 ·obtain⟨M,rfl,_⟩:=hI;refine⟨?_,p0.o.i3.ext Xx⟩;have e:(h++[ak.bA (List.map dK [(m,true)])]++[ak.b [AV.map h.length]]).length=(h++[ak.bA (M.map dK)]++[ak.b [AV.map h.length]]).length:=Si
  rw[e];exact Ba
 ·obtain⟨M,rfl,hM⟩:=hI;have hi':i<V.aC.length:=by rw[<-jG];exact hi
  have hj:V.aC.length-1-i<V.aC.length:=Om
  rw[ud,YS];have Ta:V.aC[V.aC.length-1-i]∈V.aC:=aad _;have XC:V.an.aC.reverse[i]'(by rw[abU];omega)=(V.aC[V.aC.length-1-i]).1:=by
   rw[List.getElem_reverse];simp only[RV.an,abf,aaa]
  have hns:=AB (m:=m) (l:=V.an.aC.reverse) (i:=i) (by rw[abU];omega);rw[XC]at hns;generalize V.aC[V.aC.length-1-i]=x at *;have ox:=p0.o.jL.2.1 x Ta;unfold It Me fn214 gA;simp only[ai.tl,ai.hd,ai.uJ,ai.EE,setArgs,aR];refine Rs (A4 t0 t1 t2 @ox) ?_;refine⟨_,g++[ak.b [AV.str x.1.name,.str x.1.gives,.str x.1.line,x.2]],by rw[<-Z4],SP,?_⟩;have xin:=p0.o.e3 x Ta;rw[YR];refine WC.CV (CU T (x:=x) (mb:=h.length) (bb:=(h++[ak.bA (List.map dK [(m,true)])]).length) (xb:=(h++[ak.bA (List.map dK M)]++[ak.b [AV.map h.length]]++[ak.b [V.s3]]++[R]++g).length)
   (Hm:=λM=>h++[ak.bA (List.map dK M)]++[ak.b [AV.map h.length]]++[ak.b [V.s3]]++[B]++(g++[ak.b (aR x)]))
   (λM=>uR) (λM=>?_) (λM'=>?_) (λM K=>?_) (λM=>xin.ext Xx) (hin x Ta) ?_ (Sq t0) (Sq t0) hM) ?_
  ·have eL:(h++[ak.bA (List.map dK [(m,true)])]).length=(h++[ak.bA (List.map dK M)]).length:=Si
   rw[eL];exact ti
  ·have eL:(h++[ak.bA (List.map dK M)]++[ak.b [AV.map h.length]]++[ak.b [V.s3]]++[B]++g).length=(h++[ak.bA (List.map dK M')]++[ak.b [AV.map h.length]]++[ak.b [V.s3]]++[B]++g).length:=Si
   rw[<-Z4];have eR:(h++[ak.bA (List.map dK M)]++[ak.b [AV.map h.length]]++[ak.b [V.s3]]++[R]++g).length=(h++[ak.bA (List.map dK M')]++[ak.b [AV.map h.length]]++[ak.b [V.s3]]++[B]++g).length:=Si
   rw[eR];exact ba
  ·exact B6
  ·simp only[bd,hlen]
  ·rintro e _ _ ⟨rfl,M',rfl,hM'⟩;refine⟨_,_,rfl,Si,?_⟩;rw[aai rfl];exact⟨M',rfl,λw=>by rw[hM',hns]⟩
 ·by_cases Ts:e=.normal
  case neg=>rw[aab Ts]at hI;exact hI.elim
  subst Ts;rw[aai rfl]at hI;obtain⟨M,rfl,hM⟩:=hI;have hM:∀w,gM M w=decide (w∈cS m V.an.aC.reverse):=λw=>by
   rw[hM,aaM (by rw[abU,jG,hlV];exact aah _)]
  rw[TK];obtain⟨K0,XP⟩:∃K0,K0=h++[ak.bA (M.map dK)]++[ak.b [AV.map h.length]]++[ak.b [V.s3]]++[ak.dead]++g:=⟨_,rfl⟩;have eK:Ext h K0:=by rw[XP];exact Xx
  have k1:K0[h.length]? =some (.bA (M.map dK)):=by rw[XP];exact uR
  have k2:K0[(h++[ak.bA (List.map dK [(m,true)])]).length]? =some (.b [AV.map h.length]):=by
   have eL:(h++[ak.bA (List.map dK [(m,true)])]).length=(h++[ak.bA (List.map dK M)]).length:=Si
   rw[XP,eL];exact ti
  have hJ0:J K0.length 0 K0:=by
   obtain⟨g',Tc⟩:=eK;have:=h0 g'
   rwa [<-Tc]at this
  have X5:(h++[ak.bA (List.map dK [(m,true)])]).length<K0.length:=by rw[XP];simp only[Z1,Z5,Z9];omega
  have hbb:(h++[ak.bA (List.map dK [(m,true)])]).length=h.length+1:=Si
  rw[<-XP];generalize K0.length=mm at hJ0 X5;have lr0:∀{n o},ao n (.ptr cr o) (λz=>K0[z]?)=dG n o (.b V.row):=λ{_ _}=>aA (eK.some p0.r)
  have hlm3:=λG=>p0.o.i3.aH G
  unfold PC fn214 gA;simp only[ai.tl];refine Rs (A6 t0 t1 t2 @lr0 @eU @hlm3) ?_;rw[hbb]at k2 X5;refine WL.inv T.mix (λn ts h'=>∃k:Nat,k<=V.aC.length/\n=V.aC.length-k/\J mm ((V.aC.take k).filter λx=>decide (x.1.name∈cS m V.an.aC.reverse)).length h'/\h'[h.length]? =some (.bA (M.map dK))/\h'[h.length+1]? =some (.b [AV.map h.length])/\
    ts.length=56/\slot ts 0=.func (.yield lp) [] []/\slot ts 4=.ptr (h.length+1) 0/\slot ts 39=V.s3/\slot ts 40=.i V.aC.length/\slot ts 41=.i k) V.aC.length
   ⟨0,Om,rfl,hJ0,k1,k2,Sn,(Sq t0),(Sq (A2 t0 @hbb)),(Sq t0),(Sq t0),ga⟩ ?_
  clear t0 t1 t2 hlen lr lm u0 lr0 hJ0 k1 k2 hlm3;clear ts;rintro _ ts h' ⟨k,hk,rfl,hJ,k1,k2,hlen,t0,t4,t39,t40,t41⟩;by_cases hlt:k<V.aC.length
  ·have p1:=hpre _ _ _ hJ;have Ta:V.aC[k]∈V.aC:=aad _;have ix:=p1.o.i3.c6 (kk:=.i64) hlt;have ld:ao (some 4) (cI V.s3 4 k) (λb=>h'[b]?)=some (.agg (aR V.aC[k]),.ar):=p1.o.i3.gP hlt (Ext.refl _);have ox:=p1.o.jL.2.1 _ Ta;have e3:=dN hlt;have e5:IntKind.i64.wrap ((k:Int)+1)=((k+1:Nat):Int):=wrapN (by have:=l.l3;omega);have l2:∀{z n o},Ext h' z->ao n (.ptr (h.length+1) o) (λb=>z[b]?)=dG n o (.b [AV.map h.length]):=λ{_ _ _} e=>aA (e.some k2)
   have lk:∀{C w},iU .s (.bool false) false (.map h.length) (.str w) (λz=>(h'++[C])[z]?)=some (.bool (gM M w),.ar):=λ{C _}=>pV ((Ext.app [C] (Ext.refl h')).some k1)
   have hf:=tZ (p:=λx:iP×AV=>decide (x.1.name∈cS m V.an.aC.reverse)) hlt;have hs:=xy (p:=λx:iP×AV=>decide (x.1.name∈cS m V.an.aC.reverse)) hlt;have hMx:=hM V.aC[k].1.name;generalize V.aC[k]=x at *;unfold aR at ld;cases hb:gM M x.1.name with
   |true=>
    rw[hb]at hMx;obtain⟨Wj,Vw⟩:=hf hMx.symm;refine Rs (D3 t0 t4 t39 t40 t41 ix @ld @ox e3 @l2 @bZ @lk @hb) ?_;obtain⟨bb,k',q1,q2,q3⟩:=Tw mm _ (by rw[aaa];exact Wj) _ (happ _ _ _ [ak.b [AV.str x.1.name,.str x.1.gives,.str x.1.line,x.2]] hJ);rw[abf]at q1;have hf2':(je V m)[((V.aC.take k).filter λx=>decide (x.1.name∈cS m V.an.aC.reverse)).length]'Wj=x:=Vw;have q1:fI P (.func (.yield lp) [] []) [AV.agg (aR x)] (h'++[ak.b [AV.str x.1.name,.str x.1.gives,.str x.1.line,x.2]]) (.bool bb) k':=by
     refine Eq.mp ?_ q1;congr 1;exact aax (λy=>[AV.agg (aR y)]) hf2'
    unfold aR at q1;refine WF.Lb q1 ?_;cases bb with
    |true=>
     refine Rs (A7 t0 t4 t39 t40 t41 @aar e5) ?_;have hlt1:=(Z2.1 k1).1;have TU:=(Z2.1 k2).1;refine⟨_,Om,k+1,Om,rfl,?_,?_,?_,rfl⟩
     ·rw[hs,<-hMx,aai rfl];exact q3
     ·rw[q2 _ Om Om,Z7 hlt1];exact k1
     ·rw[q2 _ Om Om,Z7 TU];exact k2
    |false=>
     refine Rs (A6 t0 t4 t39 t40 t41 @aay) ?_;exact q3
   |false=>
    rw[hb]at hMx;refine Rs (Bo t0 t4 t39 t40 t41 ix @ld @ox e3 @l2 @bZ @lk @hb e5) ?_;have hlt1:=(Z2.1 k1).1;have TU:=(Z2.1 k2).1;refine⟨_,Om,k+1,Om,rfl,?_,?_,?_,rfl⟩
    ·rw[hs,<-hMx,aab De];exact happ _ _ _ _ hJ
    ·rw[Z7 hlt1];exact k1
    ·rw[Z7 TU];exact k2
  ·have e3:=eF hlt;have e4:k=V.aC.length:=Om
   rw[e4,aaI]at hJ;refine Rs (A6 t0 t4 t39 t40 t41 e3) ?_;refine US mm h' ?_;rw[aaa];exact hJ
end
def Ef:ai:=((fn122).body.tl.tl).hd
def Lx:ai:=Ef.tl.uJ
def Ox:ai:=(fn122).body.tl.tl.tl
def Lw:(fn122).body=.seq ((fn122).body.hd) (.seq ((fn122).body.tl.hd) (.seq (.seq Ef.hd (.block 0 (.gg (.t 10) [11] Lx.EE Lx.D1))) Ox)):=rfl
def HW{r N}:kN 1 0 (.map r) N (.b [.dz])=some (az,.set N (.b [.map r])):=rfl
def pU{V m}:(je V m).map Prod.fst=na V.an m:=by
 rw[je,na];show _=List.filter _ (List.map Prod.fst V.aC);rw[abA];rfl
section
variable {P:Program}(T:fq P) {h:ah}
include T
def r217{x b c M}(hb:h[b]? =some (.b [.map c]))(hc:h[c]? =some (.bA (M.map dK))):ay P 217 [.agg (bw x),.ptr b 0] h (λv _=>v=.bool (gM M x.name)):=by
 refine .eX 8 T.mix T.c217 ?_;intro ts hlen t0 t1;unfold fn217 gA;have lb:∀{k:ah}{n':Option Nat}{a:Nat},Ext h k->ao n' (.ptr b a) (λz=>k[z]?)=dG n' a (.b [.map c]):=λe=>aA (e.some hb)
 have lk:∀{C w},iU .s (.bool false) false (.map c) (.str w) (λz=>(h++[C])[z]?)=some (.bool (gM M w),.ar):=λ{C _}=>pV ((Ext.app [C] (Ext.refl h)).some hc)
 unfold bw at t0;exact Rs (A5 t0 t1 @lb @bZ @lk) Tv
def r122{V}(o:aB h V)(l:ff V)(hin:∀x∈V.aC,x.1.bC.length<2^30)(m:By):ay P 122 [.agg V.row,.str m] h (λv h'=>aI h' v 3 ((jl V.an m).map bw)):=by
 refine .of T.mix T.c122 ?_;obtain⟨ts,SH⟩:∃ts,ts=aW 19 [.agg V.row,.str m]:=⟨_,rfl⟩;have hlen:ts.length=19:=by rw[SH];rfl
 have t0:slot ts 0=.agg V.row:=by rw[SH];rfl
 have t1:slot ts 1=.str m:=by rw[SH];rfl
 show WC P bJ (fn122).body [] (aW 19 [.agg V.row,.str m]) h _;rw[<-SH,Lw];clear SH;obtain⟨RR,TK⟩:∃RR,RR=Ox:=⟨_,rfl⟩;obtain⟨RA,YS⟩:∃RA,RA=Lx.EE:=⟨_,rfl⟩;obtain⟨RB,YR⟩:∃RB,RB=Lx.D1:=⟨_,rfl⟩;rw[<-TK,<-YS,<-YR];unfold Ef fn122 gA;simp only[ai.tl,ai.hd];have SG:=@aB.box _ _ o;refine Rs (A6 t0 t1 @SG @Du @HW @aG) ?_;obtain⟨H0,Vj⟩:∃H0,H0=h++[ak.b V.row]:=⟨_,rfl⟩;have e0:Ext h H0:=by rw[Vj];exact Xx
 rw[<-Vj];refine WF.res T.c119 (r119 T (o.ext (e0.trans Xx)) m) ?_;rintro _ g1 ⟨rfl,hp⟩;refine Rs (A2 t0 t1) ?_;obtain⟨cm,XM⟩:∃cm,cm=(H0++[ak.bA []]++[ak.b [AV.map H0.length]]).length:=⟨_,rfl⟩;rw[<-XM]at hp ⊢;have pmap:∀(M:List (By×Bool)) (Z:ah),qN V m (cm+1) cm (H0++[ak.bA (M.map dK)]++[ak.b [AV.map H0.length]]++g1++Z):=by
  intro M Z;have hne:∀b,b≠H0.length->(H0++[ak.bA (M.map dK)]++[ak.b [AV.map H0.length]]++g1)[b]? =(H0++[ak.bA []]++[ak.b [AV.map H0.length]]++g1)[b]? :=λb hb=>by
   have:=qZ (A:=H0) (B:=[ak.b [AV.map H0.length]]++g1) (K:=ak.bA (M.map dK)) (K':=ak.bA []) (b:=b) hb
   simpa only[Z4]using this
  have hcl:cm=H0.length+2:=by rw[XM];simp
  refine qN.ext ⟨(hne _ Om).trans hp.m,(hne _ Om).trans hp.r,(o.ext e0).ext Xx⟩ (Ext.app Z (Ext.refl _))
 refine WC.iterM T.mix T.c214 (a:=[]) (c:=[.ptr (cm+1) 0,.ptr cm 0]) (Sq t0) (sg T l hin m (cm+1) cm) (λy hy=>by obtain⟨z,_,rfl⟩:=aaA.1 hy;rfl)
  (λmm i h' g=>∃M:List (By×Bool),h' =H0++[ak.bA (M.map dK)]++[ak.b [AV.map H0.length]]++g1/\mm<=h'.length+1+g.length/\∀w,gM M w=decide (w∈((je V m).take i).map λx=>x.1.line)) (λ_ _ _=>False)
  (λg=>⟨[],rfl,aah _,λw=>rfl⟩) (λmm i h' g g' hI=>by obtain⟨M,a1,a2,a3⟩:=hI;exact⟨M,a1,by rw[Z1];omega,a3⟩) (λX=>pmap [] [X]) (λmm i h' g X hl hI=>?_) (λmm i hi h' g R B SP hI=>?_) (λe h' g hl hI=>?_)
 ·obtain⟨M,rfl,_⟩:=hI;rw[Z4 (H0++[ak.bA (M.map dK)]++[ak.b [AV.map H0.length]]++g1)];exact pmap M _
 ·obtain⟨M,rfl,X5,hM⟩:=hI;have hi':i<(je V m).length:=by simpa using hi
  rw[abf,YS,YR];have Ta:(je V m)[i]∈V.aC:=(aa6.1 (aad hi')).1;have S9:((je V m).take (i+1)).map (λx=>x.1.line)=((je V m).take i).map (λx=>x.1.line)++[(je V m)[i].1.line]:=by
   rw[aaO,Z6 hi',aae];rfl
  generalize (je V m)[i]=x at *;have ox:=o.jL.2.1 x Ta;have eL:∀K:List (By×Bool),(H0++[ak.bA (K.map dK)]).length=(H0++[ak.bA []]).length:=λK=>by simp
  have u0:∀{Z Y:ah},uF .s (.map H0.length) (.str x.1.line) (.bool true) (λz=>(H0++[ak.bA (M.map dK)]++[ak.b [AV.map H0.length]]++g1++[B]++Z++Y)[z]?)=some (az,.set H0.length (.bA ((sK M x.1.line true).map dK))):=λ{Z Y}=>rS DE
  have lb:∀{Z Y:ah}{n a},ao n (.ptr (H0++[ak.bA []]).length a) (λz=>(H0++[ak.bA (M.map dK)]++[ak.b [AV.map H0.length]]++g1++[B]++Z++Y)[z]?)=dG n a (.b [.map H0.length]):=λ{Z Y _ _}=>by
   rw[<-eL M];exact aA uR
  have lx:∀{n a},ao n (.ptr (H0++[ak.bA (M.map dK)]++[ak.b [AV.map H0.length]]++g1++[R]++g).length a) (λz=>(H0++[ak.bA (M.map dK)]++[ak.b [AV.map H0.length]]++g1++[B]++g++[ak.b [AV.str x.1.name,.str x.1.gives,.str x.1.line,x.2]])[z]?)=dG n a (.b [AV.str x.1.name,.str x.1.gives,.str x.1.line,x.2]):=λ{_ _}=>by
   have:(H0++[ak.bA (M.map dK)]++[ak.b [AV.map H0.length]]++g1++[R]++g).length=(H0++[ak.bA (M.map dK)]++[ak.b [AV.map H0.length]]++g1++[B]++g).length:=Si
   rw[this];exact aA ba
  unfold Lx Ef fn122 gA;simp only[ai.tl,ai.hd,ai.uJ,ai.EE,ai.D1,setArgs,aR];refine Rs (A3 t0 t1 @ox) ?_;refine⟨_,g++[ak.b [AV.str x.1.name,.str x.1.gives,.str x.1.line,x.2]],by rw[<-Z4],SP,?_⟩;rw[<-Z4];refine Rs (A7 t0 t1 @ox @lb @lx @jK @u0) ?_;refine⟨_,g++[ak.b [AV.str x.1.name,.str x.1.gives,.str x.1.line,x.2]],by rw[<-Z4],Si,λy hy=>Z7 ?_,_,rfl,?_,λw=>?_⟩
  ·simp only[Z1,Z5,Z9]at hy X5;omega
  ·simp only[Z1,Z5,Z9]at X5 ⊢;omega
  ·rw[sM,S9];by_cases hw:w=x.1.line
   ·rw[aai hw];simp[hw]
   ·rw[aab hw,hM];simp[hw]
 ·by_cases Ts:e=.normal
  case neg=>rw[aab Ts]at hI;exact hI.elim
  subst Ts;rw[aai rfl]at hI;obtain⟨mm,M,rfl,_,hM⟩:=hI;rw[aaa,aaI]at hM;rw[TK];have eL:(H0++[ak.bA (M.map dK)]).length=(H0++[ak.bA []]).length:=Si
  obtain⟨K0,XP⟩:∃K0,K0=H0++[ak.bA (M.map dK)]++[ak.b [AV.map H0.length]]++g1++[ak.dead]++g:=⟨_,rfl⟩;have eK:Ext H0 K0:=by rw[XP];exact Xx
  have k1:K0[H0.length]? =some (.bA (M.map dK)):=by rw[XP];exact uR
  have k2:K0[(H0++[ak.bA []]).length]? =some (.b [AV.map H0.length]):=by
   rw[XP,<-eL];exact ti
  rw[<-XP];have lr:∀{k n a},Ext K0 k->ao n (.ptr h.length a) (λz=>k[z]?)=dG n a (.b V.row):=λ{_ _ _} e=>aA ((eK.trans e).some (by rw[Vj];exact ba))
  unfold Ox fn122 gA;simp only[ai.tl];refine Rs (A4 t0 t1 @lr @eJ) ?_;refine WF.res T.c216 (r216 T (o.i0.ext (e0.trans (eK.trans Xx))) (by have:=l.l0;omega) (λx=>gM M x.name) (λx hx k e=>bH.of (a:=[]) (c:=[.ptr (H0++[ak.bA []]).length 0]) T.c217 (r217 T (e.some k2) (e.some k1)))) ?_;rintro s1 g2 hf;have eh:=e0.trans eK;have es:V.lines.filter (λx=>gM M x.name)=jl V.an m:=by
   refine List.filter_congr λx _=>?_
   rw[hM,<-pU,abJ];rfl
  rw[es]at hf;have:=hf.aY;refine Rs (A2 t0 t1) ?_;exact⟨Ext.app _ eh,this⟩
end
def gq(x:Nat×Bool):List AV:=[.i (x.1:Int),.bool x.2]
def kE:Kd->AV
 |.dR=>.nilFunc
 |.line=>.func (.func 148) [] []
 |.tape=>.func (.func 151) [] []
 |.gK=>.func (.func 155) [] []
 |.copy=>.func (.func 157) [] []
 |.accept=>.func (.func 159) [] []
 |.source=>.func (.func 161) [] []
 |.gu=>.func (.func 163) [] []
 |.merge=>.func (.func 165) [] []
 |.run=>.func (.func 167) [] []
 |.gp=>.func (.func 169) [] []
 |.fail=>.func (.func 171) [] []
 |.gL=>.func (.func 173) [] []
 |.rel=>.func (.func 175) [] []
def pX:Kd->AV
 |.dR=>.nilFunc
 |.line=>.func (.func 149) [] []
 |.tape=>.func (.func 152) [] []
 |.gK=>.func (.func 156) [] []
 |.copy=>.func (.func 158) [] []
 |.accept=>.func (.func 160) [] []
 |.source=>.func (.func 162) [] []
 |.gu=>.func (.func 164) [] []
 |.merge=>.func (.func 166) [] []
 |.run=>.func (.func 168) [] []
 |.gp=>.func (.func 170) [] []
 |.fail=>.func (.func 172) [] []
 |.gL=>.func (.func 174) [] []
 |.rel=>.func (.func 176) [] []
def wE:Kd->Option Nat
 |.dR=>none
 |.line=>some 0
 |.tape=>some 3
 |.gK=>some 1
 |.copy=>some 3
 |.accept=>some 0
 |.source=>some 1
 |.gu=>none
 |.merge=>none
 |.run=>none
 |.gp=>none
 |.fail=>none
 |.gL=>none
 |.rel=>none
def yW(h:ah)(d:Kd)(v:AV):Prop:=
 match wE d with
 |none=>v=.nilFunc
 |some 3=>v=.func (.func 153) [] []
 |some i=>∃b,v=.func (.func 240) [] [.ptr b 0]/\h[b]? =some (.b [.i (i:Int)])
structure Bl(h:ah)(d:Kd)(v:AV):Prop where
 ex:∃rs a,v=.agg [rs,.i (cF d:Int),kE d,pX d,a]/\aI h rs 2 ((bN d).map gq)/\a.one=true/\yW h d a
def PR(vf:Kd->AV):List (AV×AV):=G1.map λd=>(.str (bu d),vf d)
structure vh(h:ah)(r:Nat)(vf:Kd->AV):Prop where
 m:h[r]? =some (.bA (PR vf))
 k:∀d,Bl h d (vf d)
theorem zE{vf:Kd->AV}{k:By}:∀{L:List Kd},jO .s (.str k) (L.map λd=>(AV.str (bu d),vf d))=some ((L.find? λd=>bu d==k).map vf)
 |[]=>rfl
 |d::L=>by
  rw[aaX,List.find?_cons];by_cases hk:k=bu d
  ·subst hk;simp only[jO,cX,BEq.rfl,abT]
  ·have h1:(k==bu d)=false:=by simp[hk]
   have h2:(bu d==k)=false:=by simp[abo hk]
   simp only[jO,cX,h1,h2];exact zE
def vh.look{h:ah}{r:Nat}{vf:Kd->AV}(o:vh h r vf){z:AV}{ok:Bool}{k:By}:iU .s z ok (.map r) (.str k) (λb=>h[b]?)=lX z ok ((iH k).map vf):=rX o.m zE
def Hz(h g:ah)(s:AV)(rs:List (Nat×Bool)):Prop:=∀X,aI (h++[X]++g) s 2 (rs.map gq)
theorem Hz.app{h g s rs}(o:Hz h g s rs)(g':ah):Hz h (g++g') s rs:=λX=>by rw[<-Z4];exact(o X).app g'
def SF(h g:ah)(b:Nat)(i:Int):Prop:=∀X,(h++[X]++g)[b]? =some (ak.b [.i i])
theorem yW.app{h d v}(o:yW h d v)(g:ah):yW (h++g) d v:=by
 unfold yW at *;split at o
 ·exact o
 ·exact o
 ·obtain⟨b,h1,h2⟩:=o;exact⟨b,h1,(Ext.app g (Ext.refl _)).some h2⟩
theorem Bl.app{h d v}(o:Bl h d v)(g:ah):Bl (h++g) d v:=by
 obtain⟨rs,a,e,hs,ha,hb⟩:=o.ex;exact⟨rs,a,e,hs.app g,ha,hb.app g⟩
def lZ(ds:List Kd)(vf:Kd->AV):List (AV×AV):=ds.map λd=>(.str (bu d),vf d)
def E6(vf:Kd->AV)(d:Kd)(v:AV):Kd->AV:=λx=>if x=d then v else vf x
def Br(a:Nat)(F:List (Nat×AV)):Bool:=decide (a<56)&&decide (a≠1)&&F.all λp=>decide (p.1≠a)
structure sV(h:ah)(ts:TS)(g:ah)(ds:List Kd)(vf:Kd->AV)(F:List (Nat×AV)):Prop where
 l:ts.length=56
 m:slot ts 1=.map h.length
 f:∀p∈F,slot ts p.1=p.2
 e:∀d∈ds,∀X,Bl (h++[X]++g) d (vf d)
def sV.put{h ts g ds vf F}(s:sV h ts g ds vf F){a v}(g':ah)(hc:Br a F=true):sV h (ts.set a v) (g++g') ds vf ((a,v)::F):=by
 simp only[Br,aaD,aaK,aaE]at hc;have hl:a+1<=ts.length:=by rw[s.l];omega
 refine⟨by simp only[bd,s.l],by simp only[bd,aby hc.1.2,s.m],λp hp=>?_,λd hd X=>?_⟩
 ·rcases aaJ.1 hp with rfl|hp
  ·simp only[bd,hl]
  ·simp only[bd,aby (λe=>hc.2 p hp (Eq.symm e)),s.f p hp]
 ·rw[<-Z4];exact(s.e d hd X).app g'
theorem BC{vf k v}:∀{ds},ds.all (λx=>!(bu x==k))=true->pM .s (.str k) v (lZ ds vf)=some (lZ ds vf++[(.str k,v)])
 |[],_=>rfl
 |d::ds,hd=>by
  rw[abD,aaD]at hd;have h2:(bu d==k)=false:=by simpa using hd.1
  have h3:¬bu d=k:=by simpa using hd.1
  have h1:(k==bu d)=false:=by simp[abo h3]
  have:=BC (vf:=vf) (v:=v) hd.2;unfold lZ at *;simp only[aaX,pM,cX,h1,h2,this,abT,abe]
def iZ:AV.one .nilFunc=true:=rfl
section
variable {P:Program}(T:fq P) {h:ah}
include T
def r147(t:Int):ay P 147 [.i t] h (λv _=>v=.agg [.i t,.bool false]):=by
 refine .of T.mix T.c147 ?_;unfold fn147 gA;exact Wn Tv
def r154(t:Int):ay P 154 [.i t] h (λv _=>v=.agg [.i t,.bool true]):=by
 refine .of T.mix T.c154 ?_;unfold fn154 gA;exact Wn Tv
def r150(i:Int):ay P 150 [.i i] h (λv h'=>v=.func (.func 240) [] [.ptr h.length 0]/\h' =h++[.b [.i i]]):=by
 refine .of T.mix T.c150 ?_;unfold fn150 gA;exact Wn Tv
section
variable {ks:List Kt}{ts:TS}{Q:Ex->TS->ah->Prop}{g:ah}{ds:List Kd}{vf:Kd->AV}{F:List (Nat×AV)}{a:Nat}{l:List bL}
def jZ{t}(s:sV h ts g ds vf F)(hc:Br a F=true)(K:∀ts' g',sV h ts' (g++g') ds vf ((a,.agg [.i t,.bool false])::F)->WP P bJ l ks ts' (h++[.bA (lZ ds vf)]++(g++g')) Q):
  WP P bJ (.c a 147 [.c (.i t)]::l) ks ts (h++[.bA (lZ ds vf)]++g) Q:=by
 refine Wn ?_;refine WF.ce T.c147 (r147 T t) λg1=>?_
 exact KE
def jY{t}(s:sV h ts g ds vf F)(hc:Br a F=true)(K:∀ts' g',sV h ts' (g++g') ds vf ((a,.agg [.i t,.bool true])::F)->WP P bJ l ks ts' (h++[.bA (lZ ds vf)]++(g++g')) Q):
  WP P bJ (.c a 154 [.c (.i t)]::l) ks ts (h++[.bA (lZ ds vf)]++g) Q:=by
 refine Wn ?_;refine WF.ce T.c154 (r154 T t) λg1=>?_
 exact KE
def E7{t}(s:sV h ts g ds vf F)(hc:Br a F=true)(K:∀ts' g' b,sV h ts' (g++g') ds vf ((a,.func (.func 240) [] [.ptr b 0])::F)->SF h (g++g') b t->WP P bJ l ks ts' (h++[.bA (lZ ds vf)]++(g++g')) Q):
  WP P bJ (.c a 150 [.c (.i t)]::l) ks ts (h++[.bA (lZ ds vf)]++g) Q:=by
 refine Wn ?_;refine WF.res T.c150 (r150 T t) ?_;rintro _ g1 ⟨rfl,hg⟩;have hg:=abQ hg;subst hg;rw[Z4 (h++[ak.bA (lZ ds vf)]) g];refine K _ _ _ (s.put _ hc) λX=>?_
 have e:(h++[ak.bA (lZ ds vf)]++g).length=(h++[X]++g).length:=Si
 rw[e,<-Z4];exact ba
theorem C3{N}(s:sV h ts g ds vf F)(hc:Br a []=true){n xs}(hN:N=(h++[ak.bA (lZ ds vf)]++g).length)(hn:xs.length=n)(K:∀ts' g' s,sV h ts' (g++g') ds vf [(a,s)]->Hz h (g++g') s xs->WP P bJ l ks ts' (h++[.bA (lZ ds vf)]++(g++g')) Q):
  WP P bJ l ks (ts.set a (.slice N 0 n 2)) (h++[.bA (lZ ds vf)]++g++[.cells (xs.map gq).flatten true true]) Q:=by
 subst hN;subst hn;rw[Z4 (h++[ak.bA (lZ ds vf)]) g];have s0:sV h ts g ds vf []:=⟨s.l,s.m,λ_ hp=>(by cases hp),s.e⟩;refine K _ _ _ (s0.put _ hc) λX=>?_
 have e:(h++[ak.bA (lZ ds vf)]++g).length=(h++[X]++g).length:=Si
 rw[e,<-Z4];have:=(Fr.push (N:=0) (h:=h++[X]++g) (aaC _) (xs.map gq) (es:=2) (by intro c hc;obtain⟨x,_,rfl⟩:=aaA.1 hc;rfl)).aY
 rwa [aaa]at this
def tT{a0 x0}(s:sV h ts g ds vf [(a0,.agg (gq x0))])(hc:Br a []=true)(K:∀ts' g' s,sV h ts' (g++g') ds vf [(a,s)]->Hz h (g++g') s [x0]->WP P bJ l ks ts' (h++[.bA (lZ ds vf)]++(g++g')) Q):
  WP P bJ (.o a (.bo 2 1 [.i 0,.bool false] [(0,.t a0)])::l) ks ts (h++[.bA (lZ ds vf)]++g) Q:=by
 have s0:slot ts a0=.agg [.i (x0.1:Int),.bool x0.2]:=s.f (a0,.agg (gq x0)) Si;refine Ws @s0 ?_;exact C3 T s hc rfl rfl K
def wF{a0 a1 x0 x1}(s:sV h ts g ds vf [(a1,.agg (gq x1)),(a0,.agg (gq x0))])(hc:Br a []=true)(K:∀ts' g' s,sV h ts' (g++g') ds vf [(a,s)]->Hz h (g++g') s [x0,x1]->WP P bJ l ks ts' (h++[.bA (lZ ds vf)]++(g++g')) Q):
  WP P bJ (.o a (.bo 2 2 [.i 0,.bool false] [(0,.t a0),(2,.t a1)])::l) ks ts (h++[.bA (lZ ds vf)]++g) Q:=by
 have s0:slot ts a0=.agg [.i (x0.1:Int),.bool x0.2]:=s.f (a0,.agg (gq x0)) Si;have s1:slot ts a1=.agg [.i (x1.1:Int),.bool x1.2]:=s.f (a1,.agg (gq x1)) Si;refine Ws (A2 @s0 @s1) ?_;exact C3 T s hc rfl rfl K
def G3{a0 a1 a2 x0 x1 x2}(s:sV h ts g ds vf [(a2,.agg (gq x2)),(a1,.agg (gq x1)),(a0,.agg (gq x0))])(hc:Br a []=true)(K:∀ts' g' s,sV h ts' (g++g') ds vf [(a,s)]->Hz h (g++g') s [x0,x1,x2]->WP P bJ l ks ts' (h++[.bA (lZ ds vf)]++(g++g')) Q):
  WP P bJ (.o a (.bo 2 3 [.i 0,.bool false] [(0,.t a0),(2,.t a1),(4,.t a2)])::l) ks ts (h++[.bA (lZ ds vf)]++g) Q:=by
 have s0:slot ts a0=.agg [.i (x0.1:Int),.bool x0.2]:=s.f (a0,.agg (gq x0)) Si;have s1:slot ts a1=.agg [.i (x1.1:Int),.bool x1.2]:=s.f (a1,.agg (gq x1)) Si;have s2:slot ts a2=.agg [.i (x2.1:Int),.bool x2.2]:=s.f (a2,.agg (gq x2)) Si;refine Ws (A3 @s0 @s1 @s2) ?_;exact C3 T s hc rfl rfl K
theorem My{v}:WP P bJ [.o a (.bV (.c v))] ks ts h Q=WE P bJ .normal ks (ts.set a v) h Q:=by
 unfold bL.o;rw[DU,DS,y0,qq]
theorem Mz:WP P bJ (.o a .oP::l) ks ts h Q=WP P bJ l ks (ts.set a (.map h.length)) (h++[.bA []]) Q:=xN
theorem G2{z ps v}(d:Kd)(s:sV h ts g ds vf F)(hc:Br a []=true)(hd:ds.all (λx=>!(bu x==bu d))=true)
  (hv:sJ (fi z (ps.map λp=>(p.1,p.2.1,val ts p.2.2)))=some v) (ok:∀X,Bl (h++[X]++g) d v)
  (K:∀ts',sV h ts' g (ds++[d]) (E6 vf d v) []->WP P bJ l ks ts' (h++[.bA (lZ (ds++[d]) (E6 vf d v))]++g) Q):
  WP P bJ (.o a (.build z ps):: .x (.gh .s (.t 1) (.c (.str (bu d))) (.t a))::l) ks ts (h++[.bA (lZ ds vf)]++g) Q:=by
 have e1:uF .s (.map h.length) (.str (bu d)) v (λb=>(h++[ak.bA (lZ ds vf)]++g)[b]?)=some (az,.set h.length (.bA (lZ ds vf++[(.str (bu d),v)]))):=uE qa (BC hd);have hn:∀x∈ds,x≠d:=λx hx e=>by
  have:=aaE.1 hd x hx;rw[e]at this;simp at this
 have eL:lZ ds vf++[(.str (bu d),v)]=lZ (ds++[d]) (E6 vf d v):=by
  unfold lZ;rw[aae,List.map_singleton,E6,aai rfl];exact aax (· ++_) (List.map_congr_left λx hx=>by rw[E6,aab (hn x hx)])
 unfold bL.o bL.x;rw[sP,hv,uW,vd];simp only[Br,aaD,aaK]at hc;have hl:a+1<=ts.length:=by rw[s.l];omega
 have e2:val (put ts (some a) v) (.t 1)=.map h.length:=by
  simp only[qq,vv,bd,aby hc.1.2,s.m]
 have e3:val (put ts (some a) v) (.t a)=v:=by simp only[qq,vv,bd,hl]
 rw[jK,e2,e3,y0,e1,sO,CH,qq];have e4:(h++[ak.bA (lZ ds vf)]++g).set h.length (.bA (lZ ds vf++[(.str (bu d),v)]))=h++[.bA (lZ ds vf++[(.str (bu d),v)])]++g:=ze;rw[e4,eL];refine K _ ⟨by simp only[bd,s.l],by simp only[bd,aby hc.1.2,s.m],λ_ hp=>(by cases hp),λx hx X=>?_⟩;rcases aac.1 hx with hx|hx
 ·rw[E6,aab (hn x hx)];exact s.e x hx X
 ·rw[aam.1 hx,E6,aai rfl];exact ok X
def pY{i f2 f3 n x4 r a4}(d:Kd)(s:sV h ts g ds vf F)(hc:Br a []=true)(hd:ds.all (λx=>!(bu x==bu d))=true)(hi:(i,r)∈F)(hb:Hz h g r (bN d))(h4:val ts x4=a4)(o4:a4.one=true)(b4:∀X,yW (h++[X]++g) d a4)
  (hn:(cF d:Int)=n) (h2:kE d=.func (.func f2) [] []) (h3:pX d=.func (.func f3) [] [])
  (K:∀ts',sV h ts' g (ds++[d]) (E6 vf d (.agg [r,.i n,kE d,pX d,a4])) []->WP P bJ l ks ts' (h++[.bA (lZ (ds++[d]) (E6 vf d (.agg [r,.i n,kE d,pX d,a4])))]++g) Q):
  WP P bJ (.o a (.build [.af,.i 0,.nilFunc,.nilFunc,.nilFunc] [(0,1,.t i),(1,1,.c (.i n)),(2,1,.f f2),(3,1,.f f3),(4,1,x4)]):: .x (.gh .s (.t 1) (.c (.str (bu d))) (.t a))::l) ks ts (h++[.bA (lZ ds vf)]++g) Q:=by
 have s0:slot ts i=r:=s.f (i,r) hi;have o0:r.one=true:=(hb (.bA [])).one;refine G2 T d s hc hd ?_ (λX=>⟨r,a4,by rw[hn],hb X,o4,b4 X⟩) K;exact Ws (A6 @s0 @h4 @o0 @o4 @h2 @h3) Tv
end
def r90:ay P 90 [] h (λv h'=>∃vf,v=.map h.length/\vh h' h.length vf):=by
 refine .R4 56 T.mix T.c90 ?_;intro ts hlen;unfold fn90;have m0:slot ((ts.set 0 AV.dz).set 1 (.map h.length)) 1=.map h.length:=by simp only[bd,hlen,reduceAdd,reduceLeDiff]
 have l0:((ts.set 0 AV.dz).set 1 (.map h.length)).length=56:=by simp only[bd,hlen]
 dsimp only[ai.j,ai.s,ai.r];rw[qh,sQ,My T,rk,qh,sQ,Mz T];rw[<-aaw (h++[ak.bA []])];generalize (ts.set 0 AV.dz).set 1 (.map h.length)=ts at *;clear hlen;have s:sV h ts [] [] (λ_=>az) []:=⟨l0,m0,λ_ hp=>(by cases hp),λ_ hd=>(by cases hd)⟩;clear l0 m0;refine G2 T .dR s rfl rfl (v:=.agg [.af,.i 0,.nilFunc,.nilFunc,.nilFunc]) rfl (λX=>⟨_,_,rfl,.nil,rfl,rfl⟩) ?_;intro ts s;refine jZ T (t:=0) s rfl ?_;intro ts g s;refine tT T (x0:=(0,false)) s rfl ?_;intro ts g r s b;refine E7 T (t:=0) s rfl ?_;intro ts g p s c;refine pY T .line s rfl rfl (by simp only[aaJ,true_or,or_true]) (b.app g) (s.f (_,_) (aaS ..)) rfl (λX=>⟨p,rfl,c X⟩) rfl rfl rfl ?_
 intro ts s;refine jZ T (t:=1) s rfl ?_;intro ts g s;refine tT T (x0:=(1,false)) s rfl ?_;intro ts g r s b;refine pY T .tape s rfl rfl (aaS ..) b rfl rfl (λ_=>rfl) rfl rfl rfl ?_;intro ts s;refine jZ T (t:=2) s rfl ?_;intro ts g s;refine jY T (t:=0) s rfl ?_;intro ts g s;refine jY T (t:=1) s rfl ?_;intro ts g s;refine G3 T (x0:=(2,false)) (x1:=(0,true)) (x2:=(1,true)) s rfl ?_;intro ts g r s b;refine E7 T (t:=1) s rfl ?_;intro ts g p s c;refine pY T .gK s rfl rfl (by simp only[aaJ,true_or,or_true]) (b.app g) (s.f (_,_) (aaS ..)) rfl (λX=>⟨p,rfl,c X⟩) rfl rfl rfl ?_;intro ts s;refine jY T (t:=1) s rfl ?_
 intro ts g s;refine jY T (t:=1) s rfl ?_;intro ts g s;refine wF T (x0:=(1,true)) (x1:=(1,true)) s rfl ?_;intro ts g r s b;refine pY T .copy s rfl rfl (aaS ..) b rfl rfl (λ_=>rfl) rfl rfl rfl ?_;intro ts s;refine jY T (t:=0) s rfl ?_;intro ts g s;refine tT T (x0:=(0,true)) s rfl ?_;intro ts g r s b;refine E7 T (t:=0) s rfl ?_;intro ts g p s c;refine pY T .accept s rfl rfl (by simp only[aaJ,true_or,or_true]) (b.app g) (s.f (_,_) (aaS ..)) rfl (λX=>⟨p,rfl,c X⟩) rfl rfl rfl ?_;intro ts s;refine jZ T (t:=3) s rfl ?_;intro ts g s;refine jY T (t:=0) s rfl ?_;intro ts g s;refine wF T (x0:=(3,false)) (x1:=(0,true)) s rfl ?_
 intro ts g r s b;refine E7 T (t:=1) s rfl ?_;intro ts g p s c;refine pY T .source s rfl rfl (by simp only[aaJ,true_or,or_true]) (b.app g) (s.f (_,_) (aaS ..)) rfl (λX=>⟨p,rfl,c X⟩) rfl rfl rfl ?_;intro ts s;refine jZ T (t:=3) s rfl ?_;intro ts g s;refine jY T (t:=3) s rfl ?_;intro ts g s;refine wF T (x0:=(3,false)) (x1:=(3,true)) s rfl ?_;intro ts g r s b;refine pY T .gu s rfl rfl (aaS ..) b rfl rfl (λ_=>rfl) rfl rfl rfl ?_;intro ts s;refine jZ T (t:=3) s rfl ?_;intro ts g s;refine jY T (t:=3) s rfl ?_;intro ts g s;refine jY T (t:=3) s rfl ?_;intro ts g s;refine G3 T (x0:=(3,false)) (x1:=(3,true)) (x2:=(3,true)) s rfl ?_
 intro ts g r s b;refine pY T .merge s rfl rfl (aaS ..) b rfl rfl (λ_=>rfl) rfl rfl rfl ?_;intro ts s;refine jZ T (t:=4) s rfl ?_;intro ts g s;refine jY T (t:=3) s rfl ?_;intro ts g s;refine wF T (x0:=(4,false)) (x1:=(3,true)) s rfl ?_;intro ts g r s b;refine pY T .run s rfl rfl (aaS ..) b rfl rfl (λ_=>rfl) rfl rfl rfl ?_;intro ts s;refine jY T (t:=4) s rfl ?_;intro ts g s;refine tT T (x0:=(4,true)) s rfl ?_;intro ts g r s b;refine pY T .gp s rfl rfl (aaS ..) b rfl rfl (λ_=>rfl) rfl rfl rfl ?_;intro ts s;refine jY T (t:=4) s rfl ?_;intro ts g s;refine tT T (x0:=(4,true)) s rfl ?_;intro ts g r s b
 refine pY T .fail s rfl rfl (aaS ..) b rfl rfl (λ_=>rfl) rfl rfl rfl ?_;intro ts s;refine jZ T (t:=5) s rfl ?_;intro ts g s;refine jY T (t:=4) s rfl ?_;intro ts g s;refine wF T (x0:=(5,false)) (x1:=(4,true)) s rfl ?_;intro ts g r s b;refine pY T .gL s rfl rfl (aaS ..) b rfl rfl (λ_=>rfl) rfl rfl rfl ?_;intro ts s;refine jY T (t:=5) s rfl ?_;intro ts g s;refine tT T (x0:=(5,true)) s rfl ?_;intro ts g r s b;refine pY T .rel s rfl rfl (aaS ..) b rfl rfl (λ_=>rfl) rfl rfl rfl ?_;intro ts s;have hlen:=s.l;have t1:=s.m;refine Rs t1 ?_;exact⟨_,qa,λd=>s.e d (by cases d<;>decide) _⟩
end
end Go.Abs
