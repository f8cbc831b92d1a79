/- A part of the proof that HouseSessions holds. No condition. -/
import Derived.Test.YtgplmdgpmbegiaaGreatDoorSe4
import Derived.Test.YtgplmdgpmbegiaaGreatDoorSe0
set_option maxHeartbeats 4000000
set_option linter.all false
open Nat (reduceAdd reduceMul reduceLeDiff reduceEqDiff)
namespace Go.Abs
def eD:
  (∀{b o:Nat}{n:Option Nat}{X:ah}{K:an}(_:b=X.length),aq n (.ptr b o) (λz=>(X++[K])[z]?)=dK n o K)/\
  (∀{b o:Nat}{n:Option Nat}{X a:ah}(_:b<X.length),aq n (.ptr b o) (λz=>(X++a)[z]?)=aq n (.ptr b o) (λz=>X[z]?))/\
  (∀{b o y:Nat}{v:AV}{X:ah}{K:an}(_:b=X.length),a8 y (.ptr b o) v (λz=>(X++[K])[z]?)=kG y o v b K)/\
  (∀{b o y:Nat}{v:AV}{X a:ah}(_:b<X.length),a8 y (.ptr b o) v (λz=>(X++a)[z]?)=a8 y (.ptr b o) v (λz=>X[z]?))/\
  (∀{b:Nat}{X:ah}{K K':an}(_:b=X.length),(X++[K]).set b K' =X++[K'])/\
  (∀{b:Nat}{X a:ah}{K':an}(_:b<X.length),(X++a).set b K' =X.set b K'++a)/\
  (∀{b pos:Nat}{s:By}{X:ah}(_:b=X.length),fY (.ptr b 0) (λz=>(X++[.iter s pos])[z]?)=eV b s pos)/\
  (∀{b:Nat}{X a:ah}(_:b<X.length),fY (.ptr b 0) (λz=>(X++a)[z]?)=fY (.ptr b 0) (λz=>X[z]?)):=by
 refine⟨λh=>?_,λh=>?_,λh=>?_,λh=>?_,λh=>?_,λh=>?_,λh=>?_,λh=>?_⟩
 ·subst h;exact az ba
 ·simp only[aq,dx _ h]
 ·subst h;exact aN ba
 ·simp only[a8,dx _ h]
 ·subst h;exact zp
 ·exact fB _ _ h
 ·subst h;exact ed ba
 ·simp only[fY,dx _ h]
end Go.Abs
namespace Go.Abs
def nG{h':ah}{X:an}{g:ah}{n:Nat}(hn:h'.length=n):(h'++[X]++g)[n]? =some X:=by
 subst hn;exact KT
def rR{h':ah}{X Y:an}{g:ah}{n:Nat}(hn:h'.length=n):(h'++[X]++g).set n Y=h'++[Y]++g:=by
 subst hn;rw[ZO,aaE _ _ (Z0 _),aaR,ZO];rfl
structure Iter(P:Program)(f:FuncId)(a c:List AV)(L:List (List AV))(pre:ah->Prop):Prop where
 run:∀(l:Nat) (h:ah) (J:Nat->ah->Prop) (D:ah->Prop),(∀i k,J i k->pre k)->(∀i k g,J i k->J i (k++g))->
  (∀i (hi:i<L.length) k,J i k->∃b k',fM P (.func (.yield l) [] []) L[i] k (.bool b) k'/\(if b=true then J (i+1) k' else D k'))->
  (∀k,J L.length k->D k)->J 0 h->dE P f (a++[.func (.yield l) [] []]++c) h (λ_ k=>D k)
section
variable {P:Program}{ks:List Kt}{ts:TS}{h:ah}{Q:Ex->TS->ah->Prop}
def WC.iter(hmix:P.follows .mixedOrders=true){f A a c L pre g ps asg body}(hA:bU P f=some A)
  (hg:val ts g=.func (.func f) a c) (hi:Iter P f a c L pre) (hps:∀x∈L,x.length=ps.length) (I:Nat->ah->ah->Prop) (Fin:Ex->ah->ah->Prop)
  (h0:I 0 h []) (hcl:∀i h' g g2,I i h' g->I i h' (g++g2)) (hpre:∀i h' g X,h'.length=h.length->I i h' g->pre (h'++[X]++g))
  (step:∀i (hi:i<L.length) h' g (R B:an),h'.length=h.length->I i h' g->
   WC P C7 asg [] (setArgs ts ps L[i]) (h'++[R]++g) λe1 VV h2=>e1=.normal/\∃h1 g1,h2=h1++[R]++g1/\h1.length=h.length/\
    WC P C7 body [] VV (h1++[B]++g1) λe2 _ h4=>∃h3 g3,h4=h3++[B]++g3/\h3.length=h.length/\(if e2=.normal then I (i+1) h3 g3 else Fin e2 h3 g3))
  (done:∀e h' g,h'.length=h.length->(if e=.normal then I L.length h' g else Fin e h' g)->WE P bL e ks ts (h'++[an.dead]++g) Q):WC P bL (.gx g ps asg body) ks ts h Q:=by
 let J:Nat->ah->Prop:=λi k=>∃h' g,k=h'++[.loop .ready .normal ts ps asg body]++g/\h'.length=h.length/\I i h' g
 let D:ah->Prop:=λk=>∃e h' g st,k=h'++[.loop st e ts ps asg body]++g/\h'.length=h.length/\st≠.busy/\(if e=.normal then I L.length h' g else Fin e h' g)
 obtain⟨v,h2,hs,e,h',g',st,rfl,hl,bP,Ub⟩:=hi.run h.length (h++[.loop .ready .normal ts ps asg body]) J D
  (λi k hJ=>by obtain⟨h',g,rfl,h1,h2⟩:=hJ;exact hpre i h' g _ h1 h2)
  (λi k g2 hJ=>by obtain⟨h',g,rfl,h1,h2⟩:=hJ;exact⟨h',g++g2,by rw[ZO],h1,hcl _ _ _ _ h2⟩)
  (λi hi k hJ=>by
   obtain⟨h',g,rfl,h1,h2⟩:=hJ;obtain⟨e1,VV,k2,q1,rfl,h3,g3,rfl,h4,q2⟩:=W.sound hmix (step i hi h' g (.loop .ready .normal ts ps asg body) (.loop .busy .normal ts ps asg body) h1 h2);obtain⟨e2,ts3,k3,q3,h5,g5,rfl,h6,q4⟩:=W.sound hmix q2;have hy:fM P (.func (.yield h.length) [] []) L[i] (h'++[.loop .ready .normal ts ps asg body]++g) (.bool (decide (e2=.normal))) (List.set (h5++[an.loop .busy .normal ts ps asg body]++g5) h.length (an.loop (if e2=.normal then .ready else .done) e2 ts ps asg body)):=
    fM.yield (nG h1) (hps _ (ZZ hi)) (λr=>q1 (some r) ⟨r,rfl⟩) (nG h4) (λr=>by rw[rR h4];exact q3 (some r) ⟨r,rfl⟩) (nG h6)
   rw[rR h6]at hy;refine⟨decide (e2=.normal),_,hy,?_⟩;by_cases he:e2=.normal
   ·exact z146
   ·rw[ZW he]at q4;simp only[he,aac,aaC,Z3];exact⟨e2,h5,g5,.done,rfl,h6,Si,by rw[ZW he];exact q4⟩)
  (λk hJ=>by obtain⟨h',g,rfl,h1,h2⟩:=hJ;exact⟨.normal,h',g,.ready,rfl,h1,Si,by rw[ZY rfl];exact h2⟩)
  ⟨h,[],by rw[aaf],rfl,h0⟩
 exact Rh
end
end Go.Abs
namespace Go.Abs
theorem vP:∀(l c pre:List AV),c.length=l.length->gu (pre++c) pre.length l=pre++l
 |[],c,pre,h=>by
  exact z222
 |x::l,[],pre,h=>by simp at h
 |x::l,y::c,pre,h=>by
  have e1:(pre++y::c).set pre.length x=(pre++[x])++c:=by
   exact KS
  have e2:pre.length+1=(pre++[x]).length:=Si
  rw[pM,e1,e2,vP l c (pre++[x]) (by simpa using h),ZO];rfl
theorem qB{es:Nat}{v:AV}:∀{cs:List (List AV)},(∀x∈cs,x.length=es)->∀{i off:Nat}(hi:i<cs.length),off<es->cs.flatten.set (i*es+off) v=(cs.set i (cs[i].set off v)).flatten
 |[],_,i,off,hi,_=>absurd hi (Nat.not_lt_zero _)
 |c::cs,h,0,off,hi,ho=>by
  have hc:c.length=es:=h c (aaH ..);rw[aa0,abT,aaD,List.set_append_left _ _ Om];rfl
 |c::cs,h,i+1,off,hi,ho=>by
  have hc:c.length=es:=h c (aaH ..);have h1:=qB (v:=v) (cs:=cs) (λx hx=>h x (aao _ hx)) (i:=i) (off:=off) (by simpa using hi) ho;rw[aa0,aaE _ _ (by rw[aa5];omega),show(i+1)*es+off-c.length=i*es+off by rw[aa5];omega,h1];rfl
def oA{es w N0 n:Nat}{z:List AV}{k k':IntKind}(h1:w*n<=2^48)(h2:n<2^63):tU es w z (.int k n) (.int k' n) N0=some (.slice N0 0 n es,.push (.cells (eC n z) true true)):=by
 simp only[tU];rw[ZY ⟨Om,Om,by exact_mod_cast h1,by exact_mod_cast h2⟩];rfl
def Fr.BM{N n es h z}(hN:N<=h.length)(hz:z.length=es):Fr N (h++[.cells (eC n z) true true]) (.slice h.length 0 n es) es (List.replicate n z):=by
 have:=Fr.push (h:=h) (es:=es) hN (List.replicate n z) (λx hx=>by rw[(List.mem_replicate.1 hx).2];exact hz);rw[aaV]at this;exact this
section
variable {P:Program}{ro:Option Nat->Prop}{ks:List Kt}{ts:TS}{Q:Ex->TS->ah->Prop}{d:Option Nat}{l:List bN}
def WR.pg{q N b es w h y ys}(hb:h[b]? =some (.cells [] true false))(hN:N<=b)(hy:aI h y es ys)(fj:ys.length*w<=2^46)
  (K:∀s' g,Fr N (h++g) s' es ys->WP P ro l ks (put ts d s') (h++g) Q):WR P ro (p6 es w (.slice b 0 0 es) y (λb=>h[b]?) h.length) q d l ks ts h Q:=by
 have hbl:b<h.length:=(ZM.1 hb).1;simp only[p6,hy.fL,Z7];by_cases hk:ys.length=0
 ·have hys:ys=[]:=aaO.1 hk;subst hys;simp only[ZT,Z7,List.flatten_nil,List.isEmpty_nil];rw[jK];have:=K (.slice b 0 0 es) [] (by rw[aaf];exact Fr.mk (cs:=[]) hN hb Si)
  rwa [aaf]at this
 ·simp only[ZW hk,aaD,ZY fj,hb];rw[ZY Si,mO];exact K _ _ (Fr.push Om ys hy.rows)
def WR.sW{α:Type}{row:α->List AV}{L:List α}{h0 g:ah}{s v:AV}{es i off:Nat}{x':α}(hs:Fr h0.length (h0++g) s es (L.map row))(hi:i<L.length)(ho:off<es)(hv:v.one=true)(hx:row x' =(row L[i]).set off v)
  (K:∀g',g'.length=g.length->Fr h0.length (h0++g') s es ((L.set i x').map row)->(∀b,(∀b0 o n e,s=.slice b0 o n e->b≠b0)->(h0++g')[b]? =(h0++g)[b]?)->WP P ro l ks (put ts d aA) (h0++g') Q):
  WR P ro (a8 1 (j6 s es i off) v (λb=>(h0++g)[b]?)) false d l ks ts (h0++g) Q:=by
 have Tz:=hs.aO.rows;generalize U3:L.map row=cs at hs;have hcl:cs.length=L.length:=by rw[<-U3,ZU]
 cases hs with
 |nil=>simp at hcl;omega
 | @mk b _ _ tl hN hb he=>
  have Tc:=fx he;have hie:i*es+off<cs.flatten.length:=by
   rw[Tc,hcl];have:(i+1)*es<=L.length*es:=aaU _ hi;rw[aa5]at this;omega
  have aR:cs.flatten.set (i*es+off) v=((L.set i x').map row).flatten:=by
   have:=qB (v:=v) he (i:=i) (off:=off) Om ho;rw[this,abU,hx,U3];congr 2;simp[<-U3]
  have hbl:b<(h0++g).length:=(ZM.1 hb).1;show WR P ro (a8 1 (.ptr b (0+i*es+off)) v (λb=>(h0++g)[b]?)) false d l ks ts (h0++g) Q;rw[aaD,aN hb,cD hv Om,sI,aR,aaE _ _ hN];refine K _ Si ?_ λb' hb'=>?_
  ·have hl2:((L.set i x').map row).length=cs.length:=by simp[hcl]
   rw[<-hl2];refine Fr.mk hN (tl:=tl) ?_ λy hy=>?_
   ·exact KO
   ·rw[abU]at hy;rcases abz hy with hy|hy
    ·exact he y (by rw[<-U3];exact hy)
    ·rw[hy,hx,aax];exact he _ (by rw[<-U3];exact aah (ZZ hi))
  ·exact K6
def WR.Nj{h0 g s sy es cs ys x y}(hx:val ts x=s)(hy:val ts y=sy)(hs:Fr h0.length (h0++g) s es cs)(hsy:aI (h0++g) sy es ys)(hl:cs.length=ys.length)
  (K:∀g' v,g'.length=g.length->Fr h0.length (h0++g') s es ys->(∀b,(∀b0 o n e,s=.slice b0 o n e->b≠b0)->(h0++g')[b]? =(h0++g)[b]?)->WP P ro l ks (put ts d v) (h0++g') Q):
  WR P ro (stepT (.Ae es x y) (val ts) (λb=>(h0++g)[b]?) (h0++g).length) false d l ks ts (h0++g) Q:=by
 simp only[stepT,nI,hx,hy,hsy.fL];have Uk:=fx hsy.rows;cases hs with
 |nil=>
  have:ys=[]:=aaO.1 hl.symm;subst this;simp only;rw[jK];exact K g _ rfl .nil λ_ _=>rfl
 | @mk b _ _ tl hN hb he=>
  have hcl:=fx he;have VM:min ys.length cs.length=ys.length:=Om
  simp only[Z7,VM];by_cases hk:ys.length=0
  ·have hys:ys=[]:=aaO.1 hk;have U3:cs=[]:=aaO.1 Om;subst hys;subst U3;simp only[ZT,Z7];rw[jK];exact K g _ rfl (Fr.mk (cs:=[]) hN hb Si) λ_ _=>rfl
  ·have hbl:b<(h0++g).length:=(ZM.1 hb).1;simp only[ZW hk,hb,aaD];rw[ZY (by rw[hcl,hl];omega),sI];have aR:gu cs.flatten 0 (ys.flatten.take (ys.length*es))=ys.flatten:=by
    rw[<-Uk,aaj];have:=vP ys.flatten cs.flatten [] (by rw[hcl,Uk,hl])
    simpa using this
   rw[aR,aaE _ _ hN];refine K _ _ Si ?_ λb' hb'=>?_
   ·rw[hl];refine Fr.mk hN (tl:=tl) ?_ hsy.rows;exact KO
   ·exact K6
end
end Go.Abs
namespace Go.Abs
section
variable (P:Program) (ro:Option Nat->Prop)
def WQ(l:List bN)(cs:List Acc)(ks:List Kt)(ts:TS)(h:ah)(Q:Ex->TS->ah->Prop):Prop:=BI h l ts cs λts' cs=>fI cs/\kq P ro ks Q .normal ts' (eI h cs)
def Hx(r:Option AV)(d:Option Nat)(l:List bN)(cs:List Acc)(ks:List Kt)(ts:TS)(h:ah)(Q:Ex->TS->ah->Prop):Prop:=
 match r with
 |some v=>WQ P ro l cs ks (put ts d v) h Q
 |none=>False
def QT(a:AV)(r:Option (AV×jv))(d:Option Nat)(l:List bN)(cs:List Acc)(ks:List Kt)(ts:TS)(h:ah)(Q:Ex->TS->ah->Prop):Prop:=
 match a,r with
 |.ptr b _,some (v,.ar)=>WQ P ro l (cs++[.rd b]) ks (put ts d v) h Q
 |_,_=>False
def QS(a:AV)(r:Option (AV×jv))(d:Option Nat)(l:List bN)(cs:List Acc)(ks:List Kt)(ts:TS)(h:ah)(Q:Ex->TS->ah->Prop):Prop:=
 match a,r with
 |.ptr _ _,some (v,.set b k)=>WQ P ro l (cs++[.wr b k]) ks (put ts d v) h Q
 |_,_=>False
def N4(a:AV)(b q:Bool)(k:pE)(d:Option Nat)(l:List bN)(cs:List Acc)(ks:List Kt)(ts:TS)(h:ah)(Q:Ex->TS->ah->Prop):Prop:=
 match a with
 |.bool t=>if t=b then WQ P ro ({dst:=d,k:=k,gd:=none,q:=q} ::l) cs ks ts h Q else WQ P ro l cs ks (put ts d aA) h Q
 |_=>WQ P ro l cs ks (put ts d aA) h Q
end
section
variable {P:Program}{ro:Option Nat->Prop}{ks:List Kt}{ts:TS}{h:ah}{Q:Ex->TS->ah->Prop}{d:Option Nat}{q:Bool}{l:List bN}{cs:List Acc}
def ri:WC P ro (.sX l) ks ts h Q=WQ P ro l [] ks ts h Q:=rfl
def DW:WQ P ro [] cs ks ts h Q=(fI cs/\WE P ro .normal ks ts (eI h cs) Q):=rfl
def pv{v}:Hx P ro (some v) d l cs ks ts h Q=WQ P ro l cs ks (put ts d v) h Q:=rfl
def pA{v b o}:QT P ro (.ptr b o) (some (v,.ar)) d l cs ks ts h Q=WQ P ro l (cs++[.rd b]) ks (put ts d v) h Q:=rfl
def pz{v b b' o k}:QS P ro (.ptr b o) (some (v,.set b' k)) d l cs ks ts h Q=WQ P ro l (cs++[.wr b' k]) ks (put ts d v) h Q:=rfl
def lF{k}(hp:fW k=true){r}(hr:stepT k (val ts) (λz=>h[z]?) h.length=r.map λv=>(v,.ar)):
  WQ P ro ({dst:=d,k:=k,gd:=none,q:=q} ::l) cs ks ts h Q=Hx P ro r d l cs ks ts h Q:=by
 apply propext
 constructor
 ·rintro⟨v,c,⟨hn,_⟩|⟨_,hs⟩,H⟩
  ·exact absurd trivial hn
  rcases hs with⟨_,rfl,hs⟩|⟨n,a,b,off,hk,_⟩|⟨n,a,x,b,off,k',hk,_⟩
  ·have hs:stepT k (val ts) (λz=>h[z]?) h.length=some (v,.ar):=hs;rw[hr]at hs;cases r with
   |none=>cases hs
   |some v'=>cases hs;exact H
  ·have hk:k=.load n a:=hk;rw[hk]at hp;cases hp
  ·have hk:k=.store n a x:=hk;rw[hk]at hp;cases hp
 ·intro H;cases r with
  |none=>exact H.elim
  |some v=>exact⟨v,.no,.inr ⟨trivial,.inl ⟨hp,rfl,hr⟩⟩,H⟩
def rf{n a}:WQ P ro ({dst:=d,k:=.load n a,gd:=none,q:=q} ::l) cs ks ts h Q=QT P ro (val ts a) (aq n (val ts a) (λz=>h[z]?)) d l cs ks ts h Q:=by
 apply propext
 constructor
 ·rintro⟨v,c,⟨hn,_⟩|⟨_,hs⟩,H⟩
  ·exact absurd trivial hn
  rcases hs with⟨hp,_⟩|⟨n',a',b,off,hk,ha,rfl,hs⟩|⟨n',a',x,b,off,k',hk,_⟩
  ·cases hp
  ·cases hk;have hs:aq n (val ts a) (λz=>h[z]?)=some (v,.ar):=hs;rw[hs,ha];exact H
  ·cases hk
 ·intro H;unfold QT at H;split at H
  ·rename_i b o v ha hr;exact⟨v,.rd b,.inr ⟨trivial,.inr (.inl ⟨n,a,b,o,rfl,ha,rfl,hr⟩)⟩,H⟩
  ·exact H.elim
def pr{n a x}:WQ P ro ({dst:=d,k:=.store n a x,gd:=none,q:=q} ::l) cs ks ts h Q=QS P ro (val ts a) (a8 n (val ts a) (val ts x) (λz=>h[z]?)) d l cs ks ts h Q:=by
 apply propext
 constructor
 ·rintro⟨v,c,⟨hn,_⟩|⟨_,hs⟩,H⟩
  ·exact absurd trivial hn
  rcases hs with⟨hp,_⟩|⟨n',a',b,off,hk,_⟩|⟨n',a',x',b,off,k',hk,ha,rfl,hs⟩
  ·cases hp
  ·cases hk
  ·cases hk;have hs:a8 n (val ts a) (val ts x) (λz=>h[z]?)=some (v,.set b k'):=hs;rw[hs,ha];exact H
 ·intro H;unfold QS at H;split at H
  ·rename_i b o v b' k ha hr;have hb:b' =b:=by
    rw[ha]at hr;simp only[a8]at hr;split at hr
    ·split at hr
     ·cases hr;rfl
     ·cases hr
    ·cases hr
   subst hb;exact⟨v,.wr b' k,(.inr ⟨trivial,.inr (.inr ⟨n,a,x,b',o,k,rfl,ha,rfl,hr⟩)⟩),H⟩
  ·exact H.elim
def An{k g b}:WQ P ro ({dst:=d,k:=k,gd:=some (g,b),q:=q} ::l) cs ks ts h Q=N4 P ro (val ts (.t g)) b q k d l cs ks ts h Q:=by
 have key:∀t:Bool,val ts (.t g)=.bool t->(wanted (some (g,b)) ts↔t=b):=λt hg=>by
  show ts[g]? =some (.bool b)↔_;have hg:ts.getD g aA=.bool t:=hg;have e:ts[g]? =some (.bool t):=by
   rw[aar]at hg;cases hx:ts[g]? with
   |none=>rw[hx]at hg;cases hg
   |some y=>rw[hx]at hg;exact aan some hg
  rw[e];simp
 have neg:(∀t,val ts (.t g)≠.bool t)->¬wanted (some (g,b)) ts:=λhn hw=>by
  have hw:ts[g]? =some (.bool b):=hw;exact hn b (by show ts.getD g aA=_;rw[aar,hw];rfl)
 have no:¬wanted (some (g,b)) ts->WQ P ro ({dst:=d,k:=k,gd:=some (g,b),q:=q} ::l) cs ks ts h Q=WQ P ro l cs ks (put ts d aA) h Q:=λhy=>by
  apply propext
  constructor
  ·rintro⟨v,c,⟨_,rfl,rfl⟩|⟨hn,hs⟩,H⟩
   ·exact H
   ·exact absurd hn hy
  ·intro H;exact⟨aA,.no,.inl ⟨hy,rfl,rfl⟩,H⟩
 unfold N4;split
 ·rename_i t ht;have hw:=key t ht;by_cases e:t=b
  ·rw[ZY e];have hy:=hw.2 e
   apply propext
   constructor
   ·rintro⟨v,c,⟨hn,_⟩|⟨_,hs⟩,H⟩
    ·exact absurd hy hn
    ·exact⟨v,c,.inr ⟨trivial,hs⟩,H⟩
   ·rintro⟨v,c,⟨hn,_⟩|⟨_,hs⟩,H⟩
    ·exact absurd trivial hn
    ·exact⟨v,c,.inr ⟨hy,hs⟩,H⟩
  ·rw[ZW e];exact no λz=>e (hw.1 z)
 ·rename_i hn;exact no (neg hn)
def vp{k}:N4 P ro (.bool true) true q k d l cs ks ts h Q=WQ P ro ({dst:=d,k:=k,gd:=none,q:=q} ::l) cs ks ts h Q:=rfl
def vq{k}:N4 P ro (.bool false) true q k d l cs ks ts h Q=WQ P ro l cs ks (put ts d aA) h Q:=rfl
def ra{c a b}:WQ P ro ({dst:=d,k:=.pick c a b,gd:=none,q:=q} ::l) cs ks ts h Q=Hx P ro (tN (val ts c) (val ts a) (val ts b)) d l cs ks ts h Q:=by
 refine lF rfl ?_;simp only[stepT,nI,tN];cases val ts c<;>rfl
def pt{x}:WQ P ro ({dst:=d,k:=.len .sl x,gd:=none,q:=q} ::l) cs ks ts h Q=Hx P ro (uQ (j9 .sl (λb=>h[b]?) (val ts x))) d l cs ks ts h Q:=by
 refine lF rfl ?_;simp only[stepT,nI,uQ];cases j9 .sl (λb=>h[b]?) (val ts x)<;>rfl
def vk{x}:WQ P ro ({dst:=d,k:=.bY x,gd:=none,q:=q} ::l) cs ks ts h Q=WQ P ro l cs ks (put ts d (val ts x)) h Q:=lF (r:=some (val ts x)) rfl rfl
def vm{op x y}:WQ P ro ({dst:=d,k:=.bin op x y,gd:=none,q:=q} ::l) cs ks ts h Q=Hx P ro (fe op (val ts x) (val ts y)) d l cs ks ts h Q:=by
 refine lF rfl ?_;exact Ku
def Am{op x}:WQ P ro ({dst:=d,k:=.un op x,gd:=none,q:=q} ::l) cs ks ts h Q=Hx P ro (yf op (val ts x)) d l cs ks ts h Q:=by
 refine lF rfl ?_;simp only[stepT,nI];cases yf op (val ts x)<;>rfl
def rh{off x}:WQ P ro ({dst:=d,k:=.bp off x,gd:=none,q:=q} ::l) cs ks ts h Q=Hx P ro (ui off (val ts x)) d l cs ks ts h Q:=by
 refine lF rfl ?_;simp only[stepT,nI,ui];cases val ts x<;>rfl
def mP{x}:WQ P ro ({dst:=d,k:=.bT x,gd:=none,q:=q} ::l) cs ks ts h Q=Hx P ro (qP (val ts x)) d l cs ks ts h Q:=by
 refine lF rfl ?_;exact KX
end
def vi{a:List Acc}:[]++a=a:=rfl
def vh{c:Acc}{a b:List Acc}:(c::a)++b=c:: (a++b):=rfl
def pq{h}:eI h []=h:=rfl
def po{h b cs}:eI h (.rd b::cs)=eI h cs:=rfl
def pn{h b k cs}:eI h (.wr b k::cs)=eI (h.set b k) cs:=rfl
def Bs(b:Nat)(cs:List Acc):Prop:=∀x∈cs,x.eO≠some b
def ph(b:Nat)(cs:List Acc):Prop:=∀x∈cs,∀k,x≠Acc.wr b k
def JK{b}:Bs b []=True:=acp λx hx=>by cases hx
def JL{b c cs}:Bs b (c::cs)=(c.eO≠some b/\Bs b cs):=by
 simp[Bs]
def Gi{b}:ph b []=True:=acp λx hx=>by cases hx
def Gh{b b' cs}:ph b (.rd b'::cs)=ph b cs:=by
 simp[ph]
def Gg{b b' k cs}:ph b (.wr b' k::cs)=(b'≠b/\ph b cs):=by
 unfold ph;simp only[aap,forall_eq_or_imp];refine propext ⟨λh=>⟨λe=>h.1 k (by rw[e]),h.2⟩,λh=>⟨λk' e=>h.1 (by cases e;rfl),h.2⟩⟩
def Gf:fI []=True:=rfl
def Ge{b cs}:fI (.rd b::cs)=(ph b cs/\fI cs):=by
 unfold ph;simp only[fI,Acc.eO,aak];refine propext ⟨λh=>⟨λx hx k hk=>h.1 b rfl x hx (by rw[hk]) k k (.inr hk),h.2⟩,λh=>⟨λb' e x hx _ k k' hk=>?_,h.2⟩⟩;subst e;rcases hk with hk|hk
 ·cases hk
 ·exact h.1 x hx k' hk
def Gd{b k cs}:fI (.wr b k::cs)=(Bs b cs/\fI cs):=by
 unfold Bs;simp only[fI,Acc.eO,aak];refine propext ⟨λh=>⟨λx hx hk=>h.1 b rfl x hx hk k k (.inl rfl),h.2⟩,λh=>⟨λb' e x hx hk _ _ _=>?_,h.2⟩⟩;subst e;exact h.1 x hx hk
def No{b}:(Acc.rd b).eO=some b:=rfl
def Nn{b k}:(Acc.wr b k).eO=some b:=rfl
def bd:
  (∀{ts:TS}{i j:Nat}{v:AV}(_:(i=j)=False),slot (ts.set i v) j=slot ts j)/\
  (∀{ts:TS}{i:Nat}{v:AV}(_:i+1<=ts.length),slot (ts.set i v) i=v)/\
  (∀{ts:TS}{i:Nat}{X:Prop}(_:i+1<=ts.length),MP ts[i]? X=X)/\
  (∀{ts:TS}{i:Nat}{v:AV},(ts.set i v).length=ts.length)/\
  (∀{u:TypeId}{x:AV}{G:Nat->Option an}{N:Nat},ng (.vB u) x G N=some (.vB u x,.ar)):=by
 refine⟨λ{ts i j v} h=>?_,λ{ts i v} h=>?_,λ{ts i X} h=>by rw[ZS h];rfl,λ{ts i v}=>aax,rfl⟩
 ·have hne:i≠j:=λe=>by rw[<-h];exact e
  unfold slot;rw[List.getD,List.getD,Z4 hne]
 ·unfold slot;rw[List.getD,Z8 h];rfl
end Go.Abs
namespace Go.Abs
abbrev an.b(l:List AV):an:=.cells l true false
abbrev AV.i(n:Int):AV:=.int .i64 n
def Rs{A B F:Prop}(f:F)(b:B)(e:F->(B->A)/\(∃x:Prop,x=B):=by(intro f;refine⟨λb=>?_,?_⟩;(focus (repeat (first|simp (config:={maxSteps:=1000000}) only[aQ,aR,aX,aY,reduceAdd,reduceMul,reduceLeDiff,reduceEqDiff,bd,hlen,Z3,Z7,f]|simp (config:={maxSteps:=1000000}) (disch:=first|(simp only[ZL,ZP,ZT]<;>omega)|rfl|omega|fail) only[eD,aQ,aR,aX,aY,reduceAdd,reduceMul,reduceLeDiff,reduceEqDiff,bd,hlen,Z3,Z7,f]));all_goals exact b);first|exact⟨True,rfl⟩|exact⟨_,rfl⟩)):A:=(e f).1 b
def pH{A B F:Prop}(f:F)(b:B)(e:F->(B->A)/\(∃x:Prop,x=B):=by(intro f;refine⟨λb=>?_,?_⟩;(focus (repeat (first|simp (config:={maxSteps:=1000000}) only[aQ,aR,aX,aY,reduceAdd,reduceMul,reduceLeDiff,reduceEqDiff,bd,hlen,Z3,Z7,reduceCtorEq,f]|simp (config:={maxSteps:=1000000}) (disch:=first|(simp only[ZL,ZP,ZT]<;>omega)|rfl|omega|fail) only[eD,aQ,aR,aX,aY,reduceAdd,reduceMul,reduceLeDiff,reduceEqDiff,bd,hlen,Z3,Z7,reduceCtorEq,f]));all_goals exact b);first|exact⟨True,rfl⟩|exact⟨_,rfl⟩)):A:=(e f).1 b
def Zs{A B F:Prop}(f:F)(b:B)(e:F->(B->A)/\(∃x:Prop,x=B):=by(intro f;refine⟨λb=>?_,?_⟩;(focus (simp only[aQ,aR,aX,aY,reduceAdd,reduceMul,reduceLeDiff,reduceEqDiff,bd,hlen,Z3,Z7,f]);all_goals exact b);first|exact⟨True,rfl⟩|exact⟨_,rfl⟩)):A:=(e f).1 b
def Zn{A B:Prop}(b:B)(e:(B->A)/\(∃x:Prop,x=B):=by(refine⟨λb=>?_,?_⟩;(focus (simp only[aQ,aR,aX,aY,reduceAdd,reduceMul,reduceLeDiff,reduceEqDiff,bd,hlen,Z3,Z7]);all_goals exact b);first|exact⟨True,rfl⟩|exact⟨_,rfl⟩)):A:=e.1 b
def Ws{A B F:Prop}(f:F)(b:B)(e:F->(B->A)/\(∃x:Prop,x=B):=by(intro f;refine⟨λb=>?_,?_⟩;(focus (simp only[aQ,aR,aX,aY,reduceAdd,reduceMul,reduceLeDiff,reduceEqDiff,Z7,Z3,f]);all_goals exact b);first|exact⟨True,rfl⟩|exact⟨_,rfl⟩)):A:=(e f).1 b
def Wn{A B:Prop}(b:B)(e:(B->A)/\(∃x:Prop,x=B):=by(refine⟨λb=>?_,?_⟩;(focus (simp only[aQ,aR,aX,aY,reduceAdd,reduceMul,reduceLeDiff,reduceEqDiff,Z7,Z3]);all_goals exact b);first|exact⟨True,rfl⟩|exact⟨_,rfl⟩)):A:=e.1 b
def Sq{A F:Prop}(f:F)(e:F->A:=by(intro f;simp only[aQ,aR,aX,aY,reduceAdd,reduceMul,reduceLeDiff,reduceEqDiff,bd,hlen,Z3,Z7,f])):A:=e f
def Sw{A:Prop}(e:A:=by simp only[aQ,aR,aX,aY,reduceAdd,reduceMul,reduceLeDiff,reduceEqDiff,bd,hlen,Z3,Z7]):A:=e
def Sh{A F:Prop}(f:F)(e:F->A:=by(intro f;(simp only[aQ,aR,aX,aY,reduceAdd,reduceMul,reduceLeDiff,reduceEqDiff,bd,hlen,Z3,Z7,f];rfl))):A:=e f
def gf{A:Prop}(e:A:=by(simp only[aQ,aR,aX,aY,reduceAdd,reduceMul,reduceLeDiff,reduceEqDiff,bd,hlen,Z3,Z7];rfl)):A:=e
def Sn{A:Prop}(e:A:=by simp only[bd,hlen]):A:=e
def Xx{A:Prop}(e:A:=by repeat first|with_reducible exact Ext.refl _|refine Ext.app _ ?_):A:=e
def ay.R2{P:Program}{h:ah}(nt:Nat)(hmix:P.follows .mixedOrders=true){f:FuncId}{A:au}(hA:bU P f=some A){R:AV->ah->Prop}(H:∀ts:TS,ts.length=nt->WC P bL A.body [] ts h (FQ A.rs (λv h'=>Ext h h'/\R v h')))(hn:A.nt=nt:=by rfl)(hl:(aU nt []).length=nt:=by rfl):ay P f [] h R:=by
 subst hn;exact .of hmix hA (H (aU A.nt []) hl)
def ay.jd{P:Program}{h:ah}(nt:Nat)(hmix:P.follows .mixedOrders=true){f:FuncId}{A:au}(hA:bU P f=some A){a0:AV}{R:AV->ah->Prop}(H:∀ts:TS,ts.length=nt->slot ts 0=a0->WC P bL A.body [] ts h (FQ A.rs (λv h'=>Ext h h'/\R v h')))(hn:A.nt=nt:=by rfl)(hl:(aU nt [a0]).length=nt:=by rfl):ay P f [a0] h R:=by
 subst hn;exact .of hmix hA (H (aU A.nt [a0]) hl rfl)
def ay.fo{P:Program}{h:ah}(nt:Nat)(hmix:P.follows .mixedOrders=true){f:FuncId}{A:au}(hA:bU P f=some A){a0 a1:AV}{R:AV->ah->Prop}(H:∀ts:TS,ts.length=nt->slot ts 0=a0->slot ts 1=a1->WC P bL A.body [] ts h (FQ A.rs (λv h'=>Ext h h'/\R v h')))(hn:A.nt=nt:=by rfl)(hl:(aU nt [a0,a1]).length=nt:=by rfl):ay P f [a0,a1] h R:=by
 exact Ks
def dE.fo{P:Program}{h:ah}(nt:Nat)(hmix:P.follows .mixedOrders=true){f:FuncId}{A:au}(hA:bU P f=some A){a0 a1:AV}{R:AV->ah->Prop}(H:∀ts:TS,ts.length=nt->slot ts 0=a0->slot ts 1=a1->WC P bL A.body [] ts h (FQ A.rs (R)))(hn:A.nt=nt:=by rfl)(hl:(aU nt [a0,a1]).length=nt:=by rfl):dE P f [a0,a1] h R:=by
 exact Ks
def ay.nT{P:Program}{h:ah}(nt:Nat)(hmix:P.follows .mixedOrders=true){f:FuncId}{A:au}(hA:bU P f=some A){a0 a1 a2:AV}{R:AV->ah->Prop}(H:∀ts:TS,ts.length=nt->slot ts 0=a0->slot ts 1=a1->slot ts 2=a2->WC P bL A.body [] ts h (FQ A.rs (λv h'=>Ext h h'/\R v h')))(hn:A.nt=nt:=by rfl)(hl:(aU nt [a0,a1,a2]).length=nt:=by rfl):ay P f [a0,a1,a2] h R:=by
 exact KF
def dE.nT{P:Program}{h:ah}(nt:Nat)(hmix:P.follows .mixedOrders=true){f:FuncId}{A:au}(hA:bU P f=some A){a0 a1 a2:AV}{R:AV->ah->Prop}(H:∀ts:TS,ts.length=nt->slot ts 0=a0->slot ts 1=a1->slot ts 2=a2->WC P bL A.body [] ts h (FQ A.rs (R)))(hn:A.nt=nt:=by rfl)(hl:(aU nt [a0,a1,a2]).length=nt:=by rfl):dE P f [a0,a1,a2] h R:=by
 exact KF
def WF.ce{P:Program}{ro:Option Nat->Prop}{ks:List Kt}{ts:TS}{h:ah}{Q:Ex->TS->ah->Prop}{q:Bool}{f:FuncId}{A:au}(hA:bU P f=some A){a c args:List AV}{d:Option Nat}{l:List bN}{V:AV}(H:ay P f (a++args++c) h (λv _=>v=V))(K:∀g,WP P ro l ks (put ts d V) (h++g) Q):WF P ro q (.func (.func f) a c) args d l ks ts h Q:=
 WF.res hA H λ_ g e=>e▸K g
def fw{W:ah}{b:Nat}{B:an}(h:W[b]? =some B){k:ah}{n:Option Nat}{a:Nat}(e:Ext W k):aq n (.ptr b a) (λz=>k[z]?)=dK n a B:=az (e.some h)
def eF{k n:Nat}(h:k<n):decide ((k:Int)<(n:Int))=true:=ZR Om
def fq{k n:Nat}(h:¬k<n):decide ((k:Int)<(n:Int))=false:=ZN Om
def bW(c:Bool)(e:Int):Int:=if c then e else 0
def bG(n lo hi:Int):Int:=if n<lo\/hi<n then 3 else 0
def bn:List Int->Int
 |[]=>0
 |x::xs=>if x=0 then bn xs else x
def gM(c:UInt8):Bool:=(65<=c.toNat&&c.toNat<=90)||(97<=c.toNat&&c.toNat<=122)
def cO(c:UInt8):Bool:=48<=c.toNat&&c.toNat<=57
def kN(c:UInt8):Bool:=gM c||cO c||c.toNat==95
def eZ:By->Bool
 |[]=>false
 |c::r=>decide (r.length<24)&&gM c&&r.all kN
inductive Kd where
 |fO
 |line
 |tape
 |hP
 |copy
 |accept
 |source
 |gQ
 |merge
 |run
 |gO
 |fail
 |ij
 |rel
 deriving DecidableEq
def bw:Kd->By
 |.fO=>[117,110,100,111]
 |.line=>[108,105,110,101]
 |.tape=>[116,97,112,101]
 |.hP=>[115,104,111,116]
 |.copy=>[99,111,112,121]
 |.accept=>[97,99,99,101,112,116]
 |.source=>[115,111,117,114,99,101]
 |.gQ=>[109,111,100,117,108,101]
 |.merge=>[109,101,114,103,101]
 |.run=>[114,117,110]
 |.gO=>[116,105,108,101]
 |.fail=>[102,97,105,108]
 |.ij=>[112,105,99,116,117,114,101]
 |.rel=>[114,101,108,101,97,115,101]
def G9:List Kd:=[.fO,.line,.tape,.hP,.copy,.accept,.source,.gQ,.merge,.run,.gO,.fail,.ij,.rel]
def aM:Kd->List (Nat×Bool)
 |.fO=>[]
 |.line=>[(0,false)]
 |.tape=>[(1,false)]
 |.hP=>[(2,false),(0,true),(1,true)]
 |.copy=>[(1,true),(1,true)]
 |.accept=>[(0,true)]
 |.source=>[(3,false),(0,true)]
 |.gQ=>[(3,false),(3,true)]
 |.merge=>[(3,false),(3,true),(3,true)]
 |.run=>[(4,false),(3,true)]
 |.gO=>[(4,true)]
 |.fail=>[(4,true)]
 |.ij=>[(5,false),(4,true)]
 |.rel=>[(5,true)]
def bK:Kd->Nat
 |.fO=>0
 |.line=>2
 |.tape=>2
 |.hP=>1
 |.copy=>1
 |.accept=>1
 |.source=>1
 |.gQ=>2
 |.merge=>1
 |.run=>2
 |.gO=>3
 |.fail=>2
 |.ij=>1
 |.rel=>1
def ff(k:By):Option Kd:=G9.find? λd=>bw d==k
def mG(d:Kd):ff (bw d)=some d:=by cases d<;>rfl
def bZ{k d}(h:ff k=some d):k=bw d:=by
 have:=acj h;exact(eq_of_beq this).symm
def dU{k}(h:ff k=none)(d:Kd):k≠bw d:=by
 rintro rfl;rw[mG]at h;cases h
structure fi where
 num:Int
 kind:By
 names:List (By)
 bQ:List Int
 text:By
structure iH where
 name:By
 want:Int
 acc:Bool
structure sQ where
 name:By
 last:Int
structure j7 where
 name:By
 line:By
 aH:List (By)
structure jc where
 name:By
 gives:By
 line:By
 bA:List (By)
structure kI where
 name:By
 mod:By
 bz:List Int
structure pI where
 name:By
 zS:By
 kE:Int
 rel:Bool
structure hO where
 tick:Int
 lines:List iH
 aH:List sQ
 aj:List j7
 aD:List jc
 aG:List kI
 aK:List pI
def hO.zero:hO:=⟨0,[],[],[],[],[],[]⟩
def AN:iH:=⟨[],0,false⟩
def Pt:sQ:=⟨[],0⟩
def CP:j7:=⟨[],[],[]⟩
def CQ:jc:=⟨[],[],[],[]⟩
def wD:kI:=⟨[],[],[]⟩
def Iz:pI:=⟨[],[],0,false⟩
def aW(l:List (By))(n:By):Nat:=l.findIdx λx=>decide (x=n)
def r9{α:Type}(f:α->By)(l:List α)(n:By)(d:α):α:=l.getD (aW (l.map f) n) d
def gC(R:hO):List (By):=R.lines.map iH.name
def kB(R:hO):List (By):=R.aH.map sQ.name
def k5(R:hO):List (By):=R.aj.map j7.name
def iS(R:hO):List (By):=R.aD.map jc.name
def gD(R:hO):List (By):=R.aG.map kI.name
def j8(R:hO):List (By):=R.aK.map pI.name
def J3(R:hO):Nat->List (By)
 | 0=>gC R
 | 1=>kB R
 | 2=>k5 R
 | 3=>iS R
 | 4=>gD R
 |_=>j8 R
def du(R:hO)(n:By):iH:=r9 iH.name R.lines n AN
def kh(R:hO)(n:By):sQ:=r9 sQ.name R.aH n Pt
def nW(R:hO)(n:By):j7:=r9 j7.name R.aj n CP
def iK(R:hO)(n:By):jc:=r9 jc.name R.aD n CQ
def gj(R:hO)(n:By):kI:=r9 kI.name R.aG n wD
def iQ(R:hO)(n:By):pI:=r9 pI.name R.aK n Iz
def eo(R:hO)(t:Nat)(n:By):Bool:=decide (n∈J3 R t)
def ki(R:hO)(t:Int)(n:By):Bool:=decide (t<=(kh R n).last)
def fU(R:hO)(x:j7)(t:Int):Bool:=x.aH.any (ki R t)
def jB(R:hO)(t:Int):List (By):=(R.aj.filter λx=>!fU R x t).map j7.name
def sO(R:hO)(n:By):List j7:=R.aj.filter λx=>decide (x.line=n)
def db:List Int->Nat->List Int
 |[],_=>[]
 |x::r,i=>if x<0 then(i:Int)::db r (i+1)else db r (i+1)
def qE(R:hO)(j:By):Bool:=R.aK.any λp=>decide (p.zS=j)
def cX(m:By)(l:List jc):List (By):=l.foldl (λn x=>if x.name∈n then n++x.bA else n) [m]
def mY(R:hO)(m:By):List jc:=R.aD.filter λx=>decide (x.name∈cX m R.aD.reverse)
def iT(R:hO)(m:By):List iH:=R.lines.filter λl=>decide (l.name∈(mY R m).map jc.line)
def qo(R:hO)(p:By):List (By):=
 (R.aj.filter λx=>decide (x.line∈(iT R (gj R (iQ R p).zS).mod).map iH.name)).map j7.name
def gT(l:List Int):Int:=l.foldl (λx s=>(257*x+s).tmod 16777213) 1
def aS(e:fi)(i:Nat):By:=e.names.getD i []
def bM(e:fi)(i:Nat):Int:=e.bQ.getD i 0
def eM:By:=[115,104,111,116,115]
def mK:By:=[115,101,99,116,105,111,110]
def oQ:By:=[105,109,97,103,101]
def nq(n:Int):By:=if n=1 then eM else if n=2 then eM else if n=3 then mK else oQ
def kD(n:Int):By:=if n=1 then eM else if n=2 then mK else oQ
def dB(e:fi):Int:=
 if bG e.num 1 1000≠0 then 3 else
 match ff e.kind with
 |none=>13
 |some d=>if e.names.length≠(aM d).length\/e.bQ.length≠bK d then 2
  else if e.names.any (λs=>!eZ s)then 8
  else if e.bQ.any (λn=>decide (bG n 0 999999999≠0))then 3
  else if e.text≠[]then 1 else 0
def nn(R:hO)(e:fi):List (Nat×Bool)->Nat->Bool
 |[],_=>false
 |r::l,i=>(r.2 && !eo R r.1 (aS e i))||nn R e l (i+1)
def rr(R:hO)(e:fi):List (Nat×Bool)->Nat->Bool
 |[],_=>false
 |r::l,i=>(!r.2&&eo R r.1 (aS e i))||rr R e l (i+1)
def lM(d:Kd)(R:hO)(e:fi):Int:=if nn R e (aM d) 0 then 10 else if rr R e (aM d) 0 then 9 else 0
def gp(R:hO)(e:fi):Int:=(gj R (aS e 0)).bz.getD (bM e 1).toNat 0
def kF(R:hO)(e:fi):Int:=if qE R (aS e 0)then 23 else if((gj R (aS e 0)).bz.length:Int)<=bM e 1 then 3 else 0
def bD(R:hO)(e:fi):Kd->Int
 |.fO=>0
 |.line=>if bG (bM e 1) 1 64≠0 then 3 else if 16<=R.lines.length then 5 else 0
 |.tape=>if 999999999<bM e 0+bM e 1 then 4 else if 16<=R.aH.length then 5 else 0
 |.hP=>if(du R (aS e 1)).acc then 23 else if !ki R (bM e 0) (aS e 2)then 30 else if 64<=R.aj.length then 5 else 0
 |.copy=>if aS e 0=aS e 1 then 24 else if !ki R (bM e 0) (aS e 0)then 30 else if !ki R (bM e 0) (aS e 1)then 30 else 0
 |.accept=>if(du R (aS e 0)).acc then 23 else if((sO R (aS e 0)).length:Int)<(du R (aS e 0)).want then 16 else if(sO R (aS e 0)).any (λx=>!fU R x (bM e 0))then 30 else 0
 |.source=>if 32<=R.aD.length then 5 else 0
 |.gQ=>if bG (bM e 1) 1 4≠0 then 13 else if(iK R (aS e 1)).gives≠nq (bM e 1)then 2 else if 32<=R.aD.length then 5 else 0
 |.merge=>if aS e 1=aS e 2 then 24 else if(iK R (aS e 1)).gives≠(iK R (aS e 2)).gives then 2 else if 32<=R.aD.length then 5 else 0
 |.run=>if(iT R (aS e 1)).any (λx=>!x.acc)then 32 else if bG (bM e 1) 1 32≠0 then 3 else if 16<=R.aG.length then 5 else 0
 |.gO=>if kF R e≠0 then kF R e else if 0<=gp R e then 9 else 0
 |.fail=>if kF R e≠0 then kF R e else if gp R e<0 then 7 else 0
 |.ij=>if qE R (aS e 1)then 23 else if db (gj R (aS e 1)).bz 0≠[]then 32 else if 16<=R.aK.length then 5 else 0
 |.rel=>if(iQ R (aS e 0)).rel then 23 else 0
def lC(a b:By)(x:j7):j7:=if a∈x.aH/\b∉x.aH then {x with aH:=x.aH++[b] } else x
def nA(R:hO)(e:fi)(s:Int):List kI:=R.aG.set (aW (gD R) (aS e 0)) {gj R (aS e 0)with bz:=(gj R (aS e 0)).bz.set (bM e 1).toNat s}
def dO(R:hO)(e:fi):Kd->hO
 |.fO=>R
 |.line=>{R with lines:=R.lines++[⟨aS e 0,bM e 1,false⟩] }
 |.tape=>{R with aH:=R.aH++[⟨aS e 0,bM e 0+bM e 1⟩] }
 |.hP=>{R with aj:=R.aj++[⟨aS e 0,aS e 1,[aS e 2]⟩] }
 |.copy=>{R with aj:=R.aj.map (lC (aS e 0) (aS e 1)) }
 |.accept=>{R with lines:=R.lines.set (aW (gC R) (aS e 0)) {du R (aS e 0)with acc:=true} }
 |.source=>{R with aD:=R.aD++[⟨aS e 0,eM,aS e 1,[]⟩] }
 |.gQ=>{R with aD:=R.aD++[⟨aS e 0,kD (bM e 1),[],e.names.drop 1⟩] }
 |.merge=>{R with aD:=R.aD++[⟨aS e 0,(iK R (aS e 1)).gives,[],e.names.drop 1⟩] }
 |.run=>{R with aG:=R.aG++[⟨aS e 0,aS e 1,List.replicate (bM e 1).toNat (-1)⟩] }
 |.gO=>{R with aG:=nA R e (bM e 2) }
 |.fail=>{R with aG:=nA R e (-1) }
 |.ij=>{R with aK:=R.aK++[⟨aS e 0,aS e 1,gT (gj R (aS e 1)).bz,false⟩] }
 |.rel=>{R with aK:=R.aK.set (aW (j8 R) (aS e 0)) {iQ R (aS e 0)with rel:=true} }
def jX(R:hO)(e:fi)(d:Kd):Int:=if bM e 0<R.tick then 22 else if lM d R e≠0 then lM d R e else bD R e d
def sZ(R:hO)(e:fi)(d:Kd):hO:={dO R e d with tick:=bM e 0}
structure ju where
 cN:List fi
 fS:List fi
 da:List hO
def ju.zero:ju:=⟨[],[],[]⟩
def ju.now(H:ju):hO:=H.da.getLastD hO.zero
def pT(e:fi):Kd:=(ff e.kind).getD .fO
def ke(H:ju)(e:fi):Int:=
 if e.num≠(H.cN.length:Int)+1 then 11 else
 if pT e=.fO then
  (match H.fS.getLast? with
  |none=>12
  |some c=>if pT c=.rel then 21 else 0)
 else jX H.now e (pT e)
def ka(H:ju)(e:fi):ju:=
 if pT e=.fO then⟨H.cN++[e],H.fS.dropLast,H.da.dropLast⟩
 else⟨H.cN++[e],H.fS++[e],H.da++[sZ H.now e (pT e)]⟩
def ez(H:ju)(e:fi):Int:=if dB e≠0 then dB e else ke H e
def ia(H:ju):List fi->Nat->ju×Int×Int
 |[],_=>(H,0,0)
 |e::l,i=>if ez H e≠0 then(ju.zero,(i:Int)+1,ez H e)else ia (ka H e) l (i+1)
def bF(l:List fi):ju×Int×Int:=if 1000<l.length then(ju.zero,0,5)else ia ju.zero l 0
def cL{l n}(h:n∈l):aW l n<l.length:=
 List.findIdx_lt_length_of_exists ⟨n,h,Si⟩
def rI{l n}(h:n∈l):l[aW l n]'(cL h)=n:=by
 have:=List.findIdx_getElem (p:=λx=>decide (x=n)) (xs:=l) (w:=cL h);exact aaQ this
def cS{α:Type}{f:α->By}{l:List α}{n:By}{d:α}(h:n∈l.map f):r9 f l n d=l[aW (l.map f) n]'(by simpa using cL h):=by
 have:aW (l.map f) n<l.length:=by simpa using cL h
 rw[r9,aar,ZS this];rfl
def iC{α:Type}{f:α->By}{l:List α}{n:By}{d:α}(h:n∈l.map f):r9 f l n d∈l:=by
 rw[cS h];exact ZZ _
def iZ{α:Type}{f:α->By}{l:List α}{n:By}{d:α}(h:n∈l.map f):f (r9 f l n d)=n:=by
 rw[cS h];have:=rI h;rw[aaW]at this;exact this
def uT{α:Type}{f:α->By}{l:List α}{x d:α}(hn:(l.map f).Nodup)(h:x∈l):r9 f l (f x) d=x:=by
 have hm:f x∈l.map f:=aah h;obtain⟨i,hi,rfl⟩:=abV h;rw[cS hm];have h1:=rI hm;have h2:(l.map f)[i]'(by simpa using hi)=f l[i]:=aaW ..;have:=(List.getElem_inj hn).1 (h1.trans h2.symm);congr 1
structure qe(l:List (By)):Prop where
 nd:l.Nodup
 nm:∀n∈l,eZ n=true
def qe.nil:qe []:=⟨List.nodup_nil,λ_ h=>by cases h⟩
def qe.add{l n}(h:qe l)(hn:eZ n=true)(hl:n∉l):qe (l++[n]):=by
 refine⟨List.nodup_append.2 ⟨h.nd,Si,?_⟩,λx hx=>?_⟩
 ·intro a ha b hb e;rw[Z9]at hb;exact hl (hb▸e▸ha)
 ·rcases ZX.1 hx with hx|hx
  ·exact h.nm x hx
  ·rw[Z9]at hx;rw[hx];exact hn
structure fQ(R:hO):Prop where
 n0:qe (gC R)
 n1:qe (kB R)
 n2:qe (k5 R)
 n3:qe (iS R)
 n4:qe (gD R)
 n5:qe (j8 R)
 tk:0<=R.tick/\R.tick<=999999999
 l0:R.lines.length<=16
 l1:R.aH.length<=16
 l2:R.aj.length<=64
 l3:R.aD.length<=32
 l4:R.aG.length<=16
 l5:R.aK.length<=16
 ln:∀x∈R.lines,1<=x.want/\x.want<=64
 tp:∀x∈R.aH,0<=x.last/\x.last<=999999999
 sh:∀x∈R.aj,x.line∈gC R/\x.aH≠[]/\x.aH.Nodup/\∀t∈x.aH,t∈kB R
 md:∀x∈R.aD,((x.bA=[]/\x.line∈gC R)\/(x.bA≠[]/\x.line=[]))/\x.bA.length<=2/\∀t∈x.bA,t∈iS R
 jb:∀x∈R.aG,x.mod∈iS R/\1<=x.bz.length/\x.bz.length<=32/\∀s∈x.bz,-1<=s/\s<=999999999
 pc:∀x∈R.aK,x.zS∈gD R/\0<=x.kE/\x.kE<16777213
theorem fQ.zero:fQ hO.zero:=by
 refine⟨.nil,.nil,.nil,.nil,.nil,.nil,De,De,De,De,De,De,De,?_,?_,?_,?_,?_,?_⟩
 all_goals intro x hx;cases hx
structure kH(e:fi)(d:Kd):Prop where
 kd:ff e.kind=some d
 nu:1<=e.num/\e.num<=1000
 nl:e.names.length=(aM d).length
 vl:e.bQ.length=bK d
 nm:∀n∈e.names,eZ n=true
 vr:∀v∈e.bQ,0<=v/\v<=999999999
 tx:e.text=[]
def jg{n lo hi}(h:¬bG n lo hi≠0):lo<=n/\n<=hi:=by
 unfold bG at h;split at h
 ·exact absurd De h
 ·omega
def uY{e}(h:dB e=0):∃d,kH e d:=by
 unfold dB at h;split at h
 ·cases h
 case isFalse h0=>
 cases hk:ff e.kind with
 |none=>rw[hk]at h;cases h
 |some d=>
  rw[hk]at h;simp only at h;split at h
  ·cases h
  case isFalse h1=>
  split at h
  ·cases h
  case isFalse h2=>
  split at h
  ·cases h
  case isFalse h3=>
  split at h
  ·cases h
  case isFalse h4=>
  refine⟨d,hk,jg h0,Om,Om,?_,?_,by simpa using h4⟩
  ·intro n hn;cases hc:eZ n with
   |true=>rfl
   |false=>exact absurd (abx.2 ⟨n,hn,by simp[hc]⟩) h2
  ·intro v hv;refine jg λhc=>h3 (abx.2 ⟨v,hv,by simpa using hc⟩)
def EX{e i}(h:i<e.names.length):aS e i∈e.names:=by
 rw[aS,aar,ZS h];exact ZZ h
def qQ{e i}(h:i<e.bQ.length):bM e i∈e.bQ:=by
 rw[bM,aar,ZS h];exact ZZ h
def iu{α:Type}{l m:List α}{x:α}(h:x∈l):x∈l++m:=ZX.2 (.inl h)
def jJ{α:Type}{p:α->Prop}{l:List α}{y:α}(h:∀x∈l,p x)(hy:p y):∀x∈l++[y],p x:=by
 intro x hx;rcases ZX.1 hx with hx|hx
 ·exact h x hx
 ·rw[Z9]at hx;rw[hx];exact hy
def qY{α:Type}{p:α->Prop}{l:List α}{y:α}{i:Nat}(h:∀x∈l,p x)(hy:p y):∀x∈l.set i y,p x:=by
 intro x hx;rcases abz hx with hx|hx
 ·exact h x hx
 ·rw[hx];exact hy
def map_set{α:Type}{f:α->By}{l:List α}{n:By}{d y:α}(hn:n∈l.map f)(hy:f y=n):(l.set (aW (l.map f) n) y).map f=l.map f:=by
 rw[abU];have:=rI hn;rw[hy]
 conv=>lhs;arg 3;rw[<-this]
 exact List.set_getElem_self _
structure tj(R:hO)(e:fi)(d:Kd):Prop where
 kn:∀i t,(aM d)[i]? =some (t,true)->aS e i∈J3 R t
 fr:∀i t,(aM d)[i]? =some (t,false)->aS e i∉J3 R t
theorem BS{R e}:∀{l}{i},nn R e l i=false->∀j t,l[j]? =some (t,true)->aS e (i+j)∈J3 R t
 |[],i,_,j,t,h=>by simp at h
 |r::l,i,h,j,t,hj=>by
  rw[nn,Bool.or_eq_false_iff]at h;cases j with
  |zero=>
   simp only[aaY,aak]at hj;subst hj;have:=h.1;simp only[abJ,Bool.not_eq_false',eo,aaA]at this;exact this
  |succ j=>
   simp only[aa9]at hj;have:=BS h.2 j t hj
   rwa [Nat.add_assoc,Nat.add_comm 1 j]at this
theorem BY{R e}:∀{l}{i},rr R e l i=false->∀j t,l[j]? =some (t,false)->aS e (i+j)∉J3 R t
 |[],i,_,j,t,h=>by simp at h
 |r::l,i,h,j,t,hj=>by
  rw[rr,Bool.or_eq_false_iff]at h;cases j with
  |zero=>
   simp only[aaY,aak]at hj;subst hj;have:=h.1;simp only[aai,abJ,eo,abv]at this;exact this
  |succ j=>
   simp only[aa9]at hj;have:=BY h.2 j t hj
   rwa [Nat.add_assoc,Nat.add_comm 1 j]at this
def zK{R e d}(h:lM d R e=0):tj R e d:=by
 unfold lM at h;split at h
 ·cases h
 case isFalse h1=>
 split at h
 ·cases h
 case isFalse h2=>
 refine⟨λi t hi=>?_,λi t hi=>?_⟩
 ·have:=BS (by simpa using h1) i t hi;rwa [aaD]at this
 ·have:=BY (by simpa using h2) i t hi;rwa [aaD]at this
def Bc(x s:Int)(hx:0<=x)(hs:0<=s):0<=(257*x+s).tmod 16777213/\(257*x+s).tmod 16777213<16777213:=by
 rw[Int.tmod_eq_emod_of_nonneg Om];omega
theorem xJ:∀(l:List Int) (x:Int),(∀s∈l,0<=s)->0<=x->x<16777213->0<=l.foldl (λx s=>(257*x+s).tmod 16777213) x/\l.foldl (λx s=>(257*x+s).tmod 16777213) x<16777213
 |[],x,_,h1,h2=>⟨h1,h2⟩
 |s::l,x,hs,h1,h2=>by
  have:=Bc x s h1 (hs s Si);exact xJ l _ (λt ht=>hs t (aao _ ht)) this.1 this.2
def Ft{l}(hs:∀s∈l,0<=s):0<=gT l/\gT l<16777213:=xJ l 1 hs De De
theorem tV:∀{l}{i},db l i=[]->∀s∈l,0<=s
 |[],_,_,s,hs=>by cases hs
 |x::r,i,h,s,hs=>by
  rw[db]at h;split at h
  ·cases h
  ·rcases aap.1 hs with rfl|hs
   ·omega
   ·exact tV h s hs
theorem fQ.tick{R}(w:fQ R){t}(h:0<=t/\t<=999999999):fQ {R with tick:=t}:={w with tk:=h}
section
variable {R:hO}{e:fi}(w:fQ R)
include w
theorem fQ.ML{n}(hn:n∈gD R):gj R n∈R.aG/\(gj R n).name=n:=⟨iC hn,iZ hn⟩
def fQ.G0(s:Int)(hn:aS e 0∈gD R)(hs:-1<=s/\s<=999999999):fQ {R with aG:=nA R e s}:=by
 have hj:=w.ML hn;have hm:List.map kI.name (nA R e s)=gD R:=map_set (d:=wD) hn hj.2;refine {w with n4:=?_,l4:=?_,jb:=?_,pc:=?_}
 ·show qe (List.map kI.name (nA R e s));rw[hm];exact w.n4
 ·show(nA R e s).length<=16;rw[nA,aax];exact w.l4
 ·refine qY (λx hx=>w.jb x hx) ?_;have:=w.jb _ hj.1;refine⟨this.1,?_,?_,qY this.2.2.2 hs⟩
  ·show 1<=(List.set _ _ _).length;rw[aax];exact this.2.1
  ·show(List.set _ _ _).length<=32;rw[aax];exact this.2.2.1
 ·intro x hx;have:=w.pc x hx;exact⟨by show x.zS∈List.map kI.name (nA R e s);rw[hm];exact this.1,this.2⟩
def fQ.act{d:Kd}(he:kH e d)(hk:tj R e d)(hc:bD R e d=0):fQ (dO R e d):=by
 have gn:∀i,i<(aM d).length->eZ (aS e i)=true:=λi hi=>he.nm _ (EX (by rw[he.nl];exact hi))
 have gv:∀i,i<bK d->0<=bM e i/\bM e i<=999999999:=λi hi=>he.vr _ (qQ (by rw[he.vl];exact hi))
 cases d with
 |fO=>exact w
 |line=>
  have f0:aS e 0∉gC R:=hk.fr 0 0 rfl;rw[bD]at hc;split at hc
  ·cases hc
  case isFalse h1=>
  split at hc
  ·cases hc
  case isFalse h2=>
  have h1:=jg h1;have em:gC (dO R e .line)=gC R++[aS e 0]:=ZV;refine {w with n0:=?_,l0:=?_,ln:=?_,sh:=?_,md:=?_}
  ·rw[em];exact w.n0.add (gn 0 De) f0
  ·show(R.lines++[_]).length<=16;rw[ZL,Z6];omega
  ·exact jJ w.ln h1
  ·intro x hx;have:=w.sh x hx;exact⟨by rw[em];exact iu this.1,this.2⟩
  ·intro x hx;obtain⟨h3,h4⟩:=w.md x hx;refine⟨?_,h4⟩;rcases h3 with h3|h3
   ·exact .inl ⟨h3.1,by rw[em];exact iu h3.2⟩
   ·exact .inr h3
 |tape=>
  have f0:aS e 0∉kB R:=hk.fr 0 1 rfl;have v0:=gv 0 De;have v1:=gv 1 De;rw[bD]at hc;split at hc
  ·cases hc
  case isFalse h1=>
  split at hc
  ·cases hc
  case isFalse h2=>
  have em:kB (dO R e .tape)=kB R++[aS e 0]:=ZV;refine {w with n1:=?_,l1:=?_,tp:=?_,sh:=?_}
  ·rw[em];exact w.n1.add (gn 0 De) f0
  ·show(R.aH++[_]).length<=16;rw[ZL,Z6];omega
  ·exact jJ w.tp (by show 0<=bM e 0+bM e 1/\bM e 0+bM e 1<=999999999;omega)
  ·intro x hx;obtain⟨h3,h4,h5,h6⟩:=w.sh x hx;exact⟨h3,h4,h5,λt ht=>by rw[em];exact iu (h6 t ht)⟩
 |hP=>
  have f0:aS e 0∉k5 R:=hk.fr 0 2 rfl;have k1:aS e 1∈gC R:=hk.kn 1 0 rfl;have k2:aS e 2∈kB R:=hk.kn 2 1 rfl;rw[bD]at hc;split at hc
  ·cases hc
  split at hc
  ·cases hc
  split at hc
  ·cases hc
  case isFalse h2=>
  have em:k5 (dO R e .hP)=k5 R++[aS e 0]:=ZV;refine {w with n2:=?_,l2:=?_,sh:=?_}
  ·rw[em];exact w.n2.add (gn 0 De) f0
  ·show(R.aj++[_]).length<=64;rw[ZL,Z6];omega
  ·refine jJ w.sh ⟨k1,Si,Si,λt ht=>?_⟩;rw[Z9]at ht;rw[ht];exact k2
 |copy=>
  have k1:aS e 1∈kB R:=hk.kn 1 1 rfl;have en:∀x,(lC (aS e 0) (aS e 1) x).name=x.name:=λx=>by unfold lC;split<;>rfl
  have el:∀x,(lC (aS e 0) (aS e 1) x).line=x.line:=λx=>by unfold lC;split<;>rfl
  have em:k5 (dO R e .copy)=k5 R:=by
   show List.map _ (List.map _ _)=_;rw[abt];exact List.map_congr_left λx _=>en x
  refine {w with n2:=?_,l2:=?_,sh:=?_}
  ·rw[em];exact w.n2
  ·show(List.map _ _).length<=64;rw[ZU];exact w.l2
  ·intro y hy;obtain⟨x,hx,rfl⟩:=aal.1 (show y∈List.map _ R.aj from hy);obtain⟨h1,h2,h3,h4⟩:=w.sh x hx;rw[el];refine⟨h1,?_⟩;unfold lC;split
   case isFalse=>exact⟨h2,h3,h4⟩
   case isTrue h5=>
    refine⟨Si,?_,jJ h4 k1⟩;refine List.nodup_append.2 ⟨h3,Si,λa ha b hb eq=>?_⟩;rw[Z9]at hb;exact h5.2 (hb▸eq▸ha)
 |accept=>
  have k0:aS e 0∈gC R:=hk.kn 0 0 rfl;have em:gC (dO R e .accept)=gC R:=map_set (d:=AN) k0 (iZ k0);refine {w with n0:=?_,l0:=?_,ln:=?_,sh:=?_,md:=?_}
  ·rw[em];exact w.n0
  ·show(List.set _ _ _).length<=16;rw[aax];exact w.l0
  ·exact qY w.ln (w.ln (du R (aS e 0)) (iC k0))
  ·intro x hx;have:=w.sh x hx;exact⟨by rw[em];exact this.1,this.2⟩
  ·intro x hx;obtain⟨h3,h4⟩:=w.md x hx;refine⟨?_,h4⟩;rcases h3 with h3|h3
   ·exact .inl ⟨h3.1,by rw[em];exact h3.2⟩
   ·exact .inr h3
 |source=>
  have f0:aS e 0∉iS R:=hk.fr 0 3 rfl;have k1:aS e 1∈gC R:=hk.kn 1 0 rfl;rw[bD]at hc;split at hc
  ·cases hc
  case isFalse h2=>
  have em:iS (dO R e .source)=iS R++[aS e 0]:=ZV;refine {w with n3:=?_,l3:=?_,md:=?_,jb:=?_}
  ·exact HH
  ·exact N8
  ·refine jJ (λx hx=>?_) ⟨.inl ⟨rfl,k1⟩,aam _,λt ht=>by cases ht⟩;exact Od
  ·intro x hx;have:=w.jb x hx;exact⟨by rw[em];exact iu this.1,this.2⟩
 |gQ=>
  have f0:aS e 0∉iS R:=hk.fr 0 3 rfl;have k1:aS e 1∈iS R:=hk.kn 1 3 rfl;have hl:e.names.length=2:=he.nl;have Yu:e.names.drop 1=[aS e 1]:=by
   match hn:e.names,hl with
   |[a,b],_=>simp[aS,hn]
  rw[bD]at hc;split at hc
  ·cases hc
  split at hc
  ·cases hc
  split at hc
  ·cases hc
  case isFalse h2=>
  have em:iS (dO R e .gQ)=iS R++[aS e 0]:=ZV;refine {w with n3:=?_,l3:=?_,md:=?_,jb:=?_}
  ·exact HH
  ·exact N8
  ·refine jJ (λx hx=>?_) ?_
   ·exact Od
   ·simp only[Yu];exact⟨.inr Si,Si,λt ht=>by rw[Z9]at ht;rw[ht,em];exact iu k1⟩
  ·intro x hx;have:=w.jb x hx;exact⟨by rw[em];exact iu this.1,this.2⟩
 |merge=>
  have f0:aS e 0∉iS R:=hk.fr 0 3 rfl;have k1:aS e 1∈iS R:=hk.kn 1 3 rfl;have k2:aS e 2∈iS R:=hk.kn 2 3 rfl;have hl:e.names.length=3:=he.nl;have Yu:e.names.drop 1=[aS e 1,aS e 2]:=by
   match hn:e.names,hl with
   |[a,b,c],_=>simp[aS,hn]
  rw[bD]at hc;split at hc
  ·cases hc
  split at hc
  ·cases hc
  split at hc
  ·cases hc
  case isFalse h2=>
  have em:iS (dO R e .merge)=iS R++[aS e 0]:=ZV;refine {w with n3:=?_,l3:=?_,md:=?_,jb:=?_}
  ·exact HH
  ·exact N8
  ·refine jJ (λx hx=>?_) ?_
   ·exact Od
   ·simp only[Yu];refine⟨.inr Si,Si,λt ht=>?_⟩;rw[em];rcases aap.1 ht with ht|ht
    ·rw[ht];exact iu k1
    ·rw[Z9]at ht;rw[ht];exact iu k2
  ·intro x hx;have:=w.jb x hx;exact⟨by rw[em];exact iu this.1,this.2⟩
 |run=>
  have f0:aS e 0∉gD R:=hk.fr 0 4 rfl;have k1:aS e 1∈iS R:=hk.kn 1 3 rfl;rw[bD]at hc;split at hc
  ·cases hc
  split at hc
  ·cases hc
  case isFalse h1=>
  split at hc
  ·cases hc
  case isFalse h2=>
  have h1:=jg h1;have em:gD (dO R e .run)=gD R++[aS e 0]:=ZV;refine {w with n4:=?_,l4:=?_,jb:=?_,pc:=?_}
  ·rw[em];exact w.n4.add (gn 0 De) f0
  ·show(R.aG++[_]).length<=16;rw[ZL,Z6];omega
  ·refine jJ w.jb ⟨k1,?_,?_,λs hs=>?_⟩
   ·show 1<=(List.replicate _ _).length;rw[aaV];omega
   ·show(List.replicate _ _).length<=32;rw[aaV];omega
   ·rw[(List.mem_replicate.1 hs).2];decide
  ·intro x hx;have:=w.pc x hx;exact⟨by rw[em];exact iu this.1,this.2⟩
 |gO=>exact w.G0 _ (hk.kn 0 4 rfl) (by have:=gv 2 De;omega)
 |fail=>exact w.G0 _ (hk.kn 0 4 rfl) De
 |ij=>
  have f0:aS e 0∉j8 R:=hk.fr 0 5 rfl;have k1:aS e 1∈gD R:=hk.kn 1 4 rfl;rw[bD]at hc;split at hc
  ·cases hc
  split at hc
  ·cases hc
  case isFalse h1=>
  split at hc
  ·cases hc
  case isFalse h2=>
  have em:j8 (dO R e .ij)=j8 R++[aS e 0]:=ZV;refine {w with n5:=?_,l5:=?_,pc:=?_}
  ·rw[em];exact w.n5.add (gn 0 De) f0
  ·show(R.aK++[_]).length<=16;rw[ZL,Z6];omega
  ·exact jJ w.pc ⟨k1,Ft (tV (Classical.not_not.1 h1))⟩
 |rel=>
  have k0:aS e 0∈j8 R:=hk.kn 0 5 rfl;have em:j8 (dO R e .rel)=j8 R:=map_set (d:=Iz) k0 (iZ k0);refine {w with n5:=?_,l5:=?_,pc:=?_}
  ·rw[em];exact w.n5
  ·show(List.set _ _ _).length<=16;rw[aax];exact w.l5
  ·exact qY w.pc (w.pc (iQ R (aS e 0)) (iC k0))
def fQ.step{d}(he:kH e d)(hd:d≠.fO)(h:jX R e d=0):fQ (sZ R e d):=by
 unfold jX at h;split at h
 ·cases h
 split at h
 case isTrue h1=>exact absurd h h1
 case isFalse h1=>
 have h1:=Classical.not_not.1 h1;refine(w.act he (zK h1) h).tick (he.vr _ (qQ ?_));rw[he.vl];cases d<;>first|exact absurd rfl hd|decide
end
def de{α:Type}(p:α->Bool)(L:List α):Int:=
 match L.findIdx? p with
 |some i=>(i:Int)
 |none=>-1
def oP{α:Type}(p:α->Bool)(L:List α):decide (0<=de p L)=L.any p:=by
 unfold de;cases hx:L.findIdx? p with
 |none=>
  simp only[List.findIdx?_eq_none_iff]at hx;have:L.any p=false:=by rw[List.any_eq_false];intro x SA;simp[hx x SA]
  rw[this];rfl
 |some i=>
  have h1:=List.findIdx?_isSome (xs:=L) (p:=p);rw[hx]at h1;rw[<-h1];simp
def ak(x:By):List AV:=[.str x]
def cC(x:iH):List AV:=[.str x.name,.i x.want,.bool x.acc]
def eP(x:sQ):List AV:=[.str x.name,.i x.last]
def bt(x:j7×AV):List AV:=[.str x.1.name,.str x.1.line,x.2]
def bf(x:jc×AV):List AV:=[.str x.1.name,.str x.1.gives,.str x.1.line,x.2]
def bO(x:kI×AV):List AV:=[.str x.1.name,.str x.1.mod,x.2]
def dG(x:pI):List AV:=[.str x.name,.str x.zS,.i x.kE,.bool x.rel]
structure RV where
 tick:Int
 lines:List iH
 aH:List sQ
 aj:List (j7×AV)
 aD:List (jc×AV)
 aG:List (kI×AV)
 aK:List pI
 s0:AV
 s1:AV
 s2:AV
 s3:AV
 s4:AV
 s5:AV
def RV.ao(V:RV):hO:=⟨V.tick,V.lines,V.aH,V.aj.map Prod.fst,V.aD.map Prod.fst,V.aG.map Prod.fst,V.aK⟩
def RV.row(V:RV):List AV:=[.i V.tick,V.s0,V.s1,V.s2,V.s3,V.s4,V.s5]
def RV.zero:RV:=⟨0,[],[],[],[],[],[],.af,.af,.af,.af,.af,.af⟩
structure aC(h:ah)(V:RV):Prop where
 i0:aI h V.s0 3 (V.lines.map cC)
 i1:aI h V.s1 2 (V.aH.map eP)
 i2:aI h V.s2 3 (V.aj.map bt)
 i3:aI h V.s3 4 (V.aD.map bf)
 i4:aI h V.s4 3 (V.aG.map bO)
 i5:aI h V.s5 4 (V.aK.map dG)
 e2:∀x∈V.aj,aI h x.2 1 (x.1.aH.map ak)
 e3:∀x∈V.aD,aI h x.2 1 (x.1.bA.map ak)
 e4:∀x∈V.aG,aI h x.2 1 (x.1.bz.map aJ)
theorem aC.ext{h k V}(o:aC h V)(e:Ext h k):aC k V:=
 ⟨o.i0.ext e,o.i1.ext e,o.i2.ext e,o.i3.ext e,o.i4.ext e,o.i5.ext e,λx hx=>(o.e2 x hx).ext e,λx hx=>(o.e3 x hx).ext e,λx hx=>(o.e4 x hx).ext e⟩
theorem aC.zero{h}:aC h RV.zero:=by
 refine⟨.nil,.nil,.nil,.nil,.nil,.nil,?_,?_,?_⟩
 all_goals intro x hx;cases hx
def sB:AV->Option Nat
 |.slice b _ _ _=>some b
 |_=>none
def OO{v b}(h:sB v=some b):∃o n e,v=.slice b o n e:=by
 cases v with
 |slice b' o n e=>cases h;exact⟨o,n,e,rfl⟩
 |_=>cases h
def Fr.bB{N h s es cs}(hs:Fr N h s es cs){b}(hb:sB s=some b):N<=b/\b<h.length:=by
 obtain⟨o,n,e,rfl⟩:=OO hb;exact hs.lt rfl
def Fr.aB{N h k s es cs}(hs:Fr N h s es cs)(hk:∀b,sB s=some b->k[b]? =h[b]?):Fr N k s es cs:=by
 exact z160
def RV.bl(V:RV):List (Option Nat):=[sB V.s0,sB V.s1,sB V.s2,sB V.s3,sB V.s4,sB V.s5]++(V.aj.map λx=>sB x.2)++(V.aD.map λx=>sB x.2)++(V.aG.map λx=>sB x.2)
def lR(l:List (Option Nat)):Prop:=l.Pairwise λx y=>∀b,x=some b->y≠some b
structure cP(N:Nat)(h:ah)(V:RV):Prop where
 i0:Fr N h V.s0 3 (V.lines.map cC)
 i1:Fr N h V.s1 2 (V.aH.map eP)
 i2:Fr N h V.s2 3 (V.aj.map bt)
 i3:Fr N h V.s3 4 (V.aD.map bf)
 i4:Fr N h V.s4 3 (V.aG.map bO)
 i5:Fr N h V.s5 4 (V.aK.map dG)
 e2:∀x∈V.aj,Fr N h x.2 1 (x.1.aH.map ak)
 e3:∀x∈V.aD,Fr N h x.2 1 (x.1.bA.map ak)
 e4:∀x∈V.aG,Fr N h x.2 1 (x.1.bz.map aJ)
 di:lR V.bl
def cP.ok{N h V}(o:cP N h V):aC h V:=
 ⟨o.i0.aO,o.i1.aO,o.i2.aO,o.i3.aO,o.i4.aO,o.i5.aO,λx hx=>(o.e2 x hx).aO,λx hx=>(o.e3 x hx).aO,λx hx=>(o.e4 x hx).aO⟩
theorem cP.app{N h V}(o:cP N h V)(g:ah):cP N (h++g) V:=
 ⟨o.i0.app g,o.i1.app g,o.i2.app g,o.i3.app g,o.i4.app g,o.i5.app g,λx hx=>(o.e2 x hx).app g,λx hx=>(o.e3 x hx).app g,λx hx=>(o.e4 x hx).app g,o.di⟩
def cP.ar{N h k V}(o:cP N h V)(hk:∀b,some b∈V.bl->k[b]? =h[b]?):cP N k V:=by
 have m6:∀x∈[sB V.s0,sB V.s1,sB V.s2,sB V.s3,sB V.s4,sB V.s5],x∈V.bl:=λx hx=>by simp only[RV.bl,ZX];exact .inl (.inl (.inl hx))
 refine⟨o.i0.aB λb hb=>hk b (hb▸m6 _ Si),o.i1.aB λb hb=>hk b (hb▸m6 _ Si),o.i2.aB λb hb=>hk b (hb▸m6 _ Si),o.i3.aB λb hb=>hk b (hb▸m6 _ Si),o.i4.aB λb hb=>hk b (hb▸m6 _ Si),o.i5.aB λb hb=>hk b (hb▸m6 _ Si),
  λx hx=>(o.e2 x hx).aB λb hb=>hk b ?_,λx hx=>(o.e3 x hx).aB λb hb=>hk b ?_,λx hx=>(o.e4 x hx).aB λb hb=>hk b ?_,o.di⟩
 ·exact KW
 ·exact KR
 ·exact z183
structure EV where
 ev:fi
 sn:AV
 sv:AV
def EV.row(x:EV):List AV:=[.i x.ev.num,.str x.ev.kind,x.sn,x.sv,.str x.ev.text]
structure bj(h:ah)(x:EV):Prop where
 n:aI h x.sn 1 (x.ev.names.map ak)
 v:aI h x.sv 1 (x.ev.bQ.map aJ)
theorem bj.ext{h k x}(o:bj h x)(e:Ext h k):bj k x:=⟨o.n.ext e,o.v.ext e⟩
structure eJ(h:ah)(L:List EV)(s:AV):Prop where
 sl:aI h s 5 (L.map EV.row)
 all:∀x∈L,bj h x
theorem eJ.ext{h k L s}(o:eJ h L s)(e:Ext h k):eJ k L s:=⟨o.sl.ext e,λx hx=>(o.all x hx).ext e⟩
end Go.Abs
namespace Go.Abs
inductive Ow (N:Nat) (h:ah):AV->Nat->List (List AV)->Prop
 |nil {es:Nat}:Ow N h .af es []
 |mk {b es:Nat}{cs:List (List AV)}{junk:List AV}(hN:N<=b) (hb:h[b]? =some (.cells (cs.flatten++junk) true true)) (he:∀x∈cs,x.length=es):Ow N h (.slice b 0 cs.length es) es cs
def Ow.aO{N h s es cs}(hs:Ow N h s es cs):aI h s es cs:=by
 cases hs with
 |nil=>exact .nil
 |mk hN hb he=>
  have hl:=fx he;exact .mk hb (by rw[abc,<-hl,List.take_left]) (by rw[ZL];omega) he
def Ow.bB{N h s es cs}(hs:Ow N h s es cs){b}(hb:sB s=some b):N<=b/\b<h.length:=by
 cases hs with
 |nil=>cases hb
 |mk hN hb' he=>cases hb;exact⟨hN,(ZM.1 hb').1⟩
def Ow.aB{N h k s es cs}(hs:Ow N h s es cs)(hk:∀b,sB s=some b->k[b]? =h[b]?):Ow N k s es cs:=by
 exact z160
def Ow.cut{N h s es cs}(hs:Ow N h s es cs){n:Nat}(hn:n<=cs.length){k}:
  ∃s',BF es s none (some (.int k (n:Int)))=some (s',.ar)/\sB s' =sB s/\Ow N h s' es (cs.take n):=by
 cases hs with
 |nil=>
  have:n=0:=by simpa using hn
  subst this;exact⟨.af,by simp only[BF,ku (Z0 0)],rfl,by rw[List.take_nil];exact .nil⟩
 | @mk b _ _ junk hN hb he=>
  refine⟨.slice b 0 n es,?_,rfl,?_⟩
  ·simp only[BF,Z7,ku hn,abT,ach,Nat.sub_zero]
  ·have hl:(cs.take n).length=n:=by rw[aaw];omega
   have hf:cs.flatten++junk=(cs.take n).flatten++((cs.drop n).flatten++junk):=by
    rw[<-ZO,<-abj,aaL]
   rw[hf]at hb;have:=Ow.mk (cs:=cs.take n) hN hb (λx hx=>he x (aaP hx))
   rwa [hl]at this
section
variable {P:Program}{ro:Option Nat->Prop}{ks:List Kt}{ts:TS}{Q:Ex->TS->ah->Prop}
def WR.JF{h s y es cs ys N w d l}(hs:Ow N h s es cs)(hy:aI h y es ys)(hN:N<=h.length)(hes:0<es)(hne:0<ys.length)(fj:(cs.length+ys.length)*w<=2^46)
  (K:∀h',h'.length=h.length+1->Ow N h' (.slice h.length 0 (cs++ys).length es) es (cs++ys)->(∀b,b<h.length->sB s≠some b->h'[b]? =h[b]?)->WP P ro l ks (put ts d (.slice h.length 0 (cs++ys).length es)) h' Q):
  WR P ro (p6 es w s y (λb=>h[b]?) h.length) false d l ks ts h Q:=by
 have Ur:∀x∈cs++ys,x.length=es:=λx hx=>by
  exact z157
 have hk:¬ys.length=0:=Om
 simp only[p6,hy.fL];have mk:∀h1:ah,h1.length=h.length->Ow N (h1++[.cells (cs++ys).flatten true true]) (.slice h.length 0 (cs++ys).length es) es (cs++ys):=by
  intro h1 h1l;refine Ow.mk (junk:=[]) hN ?_ Ur;rw[aaf,<-h1l];exact ba
 cases hs with
 |nil=>
  simp only[ZT,aaD]at fj;simp only[ZW hk,ZY fj];rw[mO];have hK:=K (h++[.cells ys.flatten true true]) Si (mk h rfl) (λb hb _=>ZQ hb);exact hK
 | @mk b _ _ junk hbN hb hre=>
  have hcl:=fx hre;simp only[Z7,ZW hk,ZY fj,hb,aaD];rw[ZY (by rw[ZL];omega),nM];have hbl:b<h.length:=(ZM.1 hb).1;have hc:List.take (cs.length*es) (List.drop 0 (cs.flatten++junk))=cs.flatten:=by rw[abc,<-hcl,List.take_left]
  rw[hc];have hK:=K (h.set b .dead++[.cells (cs++ys).flatten true true]) Si (mk _ Si) (λi hi hne=>by
   have:b≠i:=λe=>hne (by rw[<-e];rfl)
   rw[ZQ (by simpa using hi),Z4 this])
  simp only[abj,ZL]at hK ⊢;exact hK
end
def fh(ex:List (Option Nat))(h:ah):ah:=h.mapIdx λb k=>if some b∈ex then .dead else k
def uO{ex h b}(hb:some b∉ex):(fh ex h)[b]? =h[b]? :=by
 rw[fh,List.getElem?_mapIdx];cases h[b]? with
 |none=>rfl
 |some k=>simp[hb]
def oz{ex h b c mu tl}(hb:(fh ex h)[b]? =some (.cells c mu tl)):some b∉ex/\h[b]? =some (.cells c mu tl):=by
 rw[fh,List.getElem?_mapIdx]at hb;cases hk:h[b]? with
 |none=>rw[hk]at hb;cases hb
 |some k=>
  rw[hk]at hb;simp only[abF,aak]at hb;split at hb
  ·cases hb
  case isFalse h1=>exact⟨h1,by rw[hb]⟩
def gZ(k h:ah):Prop:=∀(b:Nat) (c:List AV) (mu tl:Bool),k[b]? =some (an.cells c mu tl)->h[b]? =some (an.cells c mu tl)
def aI.sub{k h s es cs}(o:aI k s es cs)(e:gZ k h):aI h s es cs:=by
 cases o with
 |nil=>exact .nil
 |mk hb hf ho he=>exact .mk (e _ _ _ _ hb) hf ho he
theorem aC.sub{k h V}(o:aC k V)(e:gZ k h):aC h V:=
 ⟨o.i0.sub e,o.i1.sub e,o.i2.sub e,o.i3.sub e,o.i4.sub e,o.i5.sub e,λx hx=>(o.e2 x hx).sub e,λx hx=>(o.e3 x hx).sub e,λx hx=>(o.e4 x hx).sub e⟩
theorem bj.sub{k h x}(o:bj k x)(e:gZ k h):bj h x:=⟨o.n.sub e,o.v.sub e⟩
theorem gZ.fh(ex:List (Option Nat))(h:ah):gZ (fh ex h) h:=λ_ _ _ _ hb=>(oz hb).2
theorem aI.fh{h s es cs}(o:aI h s es cs){ex}(hx:∀b,sB s=some b->some b∉ex):aI (Go.Abs.fh ex h) s es cs:=by
 cases o with
 |nil=>exact .nil
 |mk hb hf ho he=>exact .mk ((uO (hx _ rfl)).trans hb) hf ho he
def aC.ar{h k V}(o:aC h V)(hk:∀b,some b∈V.bl->k[b]? =h[b]?):aC k V:=by
 have m6:∀x∈[sB V.s0,sB V.s1,sB V.s2,sB V.s3,sB V.s4,sB V.s5],x∈V.bl:=λx hx=>by simp only[RV.bl,ZX];exact .inl (.inl (.inl hx))
 have kp:∀{s:AV}{es:Nat}{cs:List (List AV)},aI h s es cs->(∀b,sB s=some b->k[b]? =h[b]?)->aI k s es cs:=λ{s es cs} hs hb=>by
  cases hs with
  |nil=>exact .nil
  |mk h1 h2 h3 h4=>exact .mk ((hb _ rfl).trans h1) h2 h3 h4
 refine⟨kp o.i0 λb hb=>hk b (hb▸m6 _ Si),kp o.i1 λb hb=>hk b (hb▸m6 _ Si),kp o.i2 λb hb=>hk b (hb▸m6 _ Si),kp o.i3 λb hb=>hk b (hb▸m6 _ Si),kp o.i4 λb hb=>hk b (hb▸m6 _ Si),kp o.i5 λb hb=>hk b (hb▸m6 _ Si),
  λx hx=>kp (o.e2 x hx) λb hb=>hk b ?_,λx hx=>kp (o.e3 x hx) λb hb=>hk b ?_,λx hx=>kp (o.e4 x hx) λb hb=>hk b ?_⟩
 ·exact KW
 ·exact KR
 ·exact z183
structure HV where
 cN:List EV
 fS:List EV
 da:List RV
 se:AV
 sc:AV
 sr:AV
def HV.bP(V:HV):ju:=⟨V.cN.map EV.ev,V.fS.map EV.ev,V.da.map RV.ao⟩
def HV.ex(b:Nat)(V:HV):List (Option Nat):=[some b,sB V.se,sB V.sc,sB V.sr]
structure cg(N:Nat)(h:ah)(b:Nat)(V:HV):Prop where
 hN:N<=b
 hb:h[b]? =some (.b [V.se,V.sc,V.sr])
 oe:Ow N h V.se 5 (V.cN.map EV.row)
 oc:Ow N h V.sc 5 (V.fS.map EV.row)
 og:Ow N h V.sr 7 (V.da.map RV.row)
 di:lR (V.ex b)
 ae:∀x∈V.cN,bj (fh (V.ex b) h) x
 ac:∀x∈V.fS,bj (fh (V.ex b) h) x
 ag:∀x∈V.da,aC (fh (V.ex b) h) x
 lo:∀x∈V.da,∀j,some j∈x.bl->N<=j
def jC{ex ex' h h'}(hk:∀b,b<h.length->some b∉ex->h'[b]? =h[b]?)(he:∀b,b<h.length->some b∈ex'->some b∈ex):gZ (fh ex h) (fh ex' h'):=by
 intro b c mu tl hb;obtain⟨h1,h2⟩:=oz hb;have hlt:b<h.length:=(ZM.1 h2).1;rw[uO λh3=>h1 (he b hlt h3),hk b hlt h1,h2]
def cg.app{N h b V}(o:cg N h b V)(g:ah):cg N (h++g) b V:=by
 have hs:gZ (fh (V.ex b) h) (fh (V.ex b) (h++g)):=jC (λb hb _=>ZQ hb) (λb _ hb=>hb);have hbl:=(ZM.1 o.hb).1;exact⟨o.hN,(ZQ hbl).trans o.hb,o.oe.aB λb hb=>ZQ (o.oe.bB hb).2,o.oc.aB λb hb=>ZQ (o.oc.bB hb).2,o.og.aB λb hb=>ZQ (o.og.bB hb).2,o.di,
  λx hx=>(o.ae x hx).sub hs,λx hx=>(o.ac x hx).sub hs,λx hx=>(o.ag x hx).sub hs,o.lo⟩
end Go.Abs
namespace Go.Abs
def kU:By->Bool
 |[]=>true
 |c::r=>gM c&&r.all kN
def tT(s:By):eZ s=(decide (s≠[])&&decide (s.length<=24)&&kU s):=by
 cases s with
 |nil=>rfl
 |cons c r=>
  have:(r.length<24)=((c::r).length<=24):=by simp;omega
  simp only[eZ,kU,this];simp[Bool.and_assoc]
def AZ{s:By}{k:Nat}(hk:k<s.length):kU (s.take (k+1))=(kU (s.take k)&&(if k=0 then gM s[k]else kN s[k])):=by
 cases s with
 |nil=>simp at hk
 |cons c r=>
  cases k with
  |zero=>simp[kU]
  |succ k=>
   have hk':k<r.length:=by simpa using hk
   simp only[abq,kU,List.getElem_cons_succ];rw[aay,ZS hk',Option.toList_some];rw[abS,abp,List.all_nil,Bool.and_true,Bool.and_assoc,ZW Om]
def AY{s k}(h:kU (s.take k)=false):kU s=false:=by
 cases s with
 |nil=>simp[kU]at h
 |cons c r=>
  cases k with
  |zero=>simp[kU]at h
  |succ k=>
   simp only[abq,kU,Bool.and_eq_false_iff]at h ⊢;rcases h with h|h
   ·exact .inl h
   ·right
    rw[List.all_eq_false]at h ⊢;obtain⟨x,hx,hr⟩:=h;exact⟨x,aaP hx,hr⟩
def dec_lt{s i}(hi:i<s.length)(h:s[i].toNat<128):Utf8.decode ⟨⟨s⟩⟩ i=(s[i].toNat,1):=by
 have hg:(ByteArray.get! ⟨⟨s⟩⟩ i).toNat=s[i].toNat:=by
  simp[ByteArray.get!,hi]
 simp only[Utf8.decode,ach,hg,ZY h]
def Jr{s i}(hi:i<s.length)(h:128<=s[i].toNat):128<=(Utf8.decode ⟨⟨s⟩⟩ i).1:=by
 have hg:(ByteArray.get! ⟨⟨s⟩⟩ i).toNat=s[i].toNat:=by
  simp[ByteArray.get!,hi]
 simp only[Utf8.decode,ach,hg];rw[ZW Om];simp only[Utf8.runeError]
 repeat' split
 all_goals first
  |(simp only;omega)
  |(simp only[aaq,aaA]at *;omega)
section
variable {P:Program}(T:fD P) {h:ah}
include T
def r85(c:Bool)(e:Int):ay P 85 [.bool c,.i e] h (λv _=>v=.i (bW c e)):=by
 refine .of T.mix T.c85 ?_;unfold fn85 gA;simp only[uset];cases c<;>simp only[aQ]<;>rfl
def r94(n lo hi:Int):ay P 94 [.i n,.i lo,.i hi] h (λv _=>v=.i (bG n lo hi)):=by
 refine .of T.mix T.c94 ?_;unfold fn94 gA;simp only[uset];simp+contextual only[aQ,pJ,Z5,aac];refine⟨λh1=>?_,λh1=>?_⟩<;>
 ·refine WF.res T.c85 (r85 T _ _) ?_;rintro _ g rfl;simp only[aQ];simp[bW,bG,h1]
def r74{s l}(hs:aI h s 1 (l.map aJ))(hl:l.length<2^63):ay P 74 [s] h (λv _=>v=.i (bn l)):=by
 refine .of T.mix T.c74 ?_;unfold fn74 gA;simp only[uset];have e1:(l.map aJ).length=l.length:=Si
 simp only[aQ,hs.j9,e1];refine WL.inv T.mix (λn ts h'=>∃k:Nat,k<=l.length/\n=l.length-k/\h' =h/\bn l=bn (l.drop k)/\ts.length=15/\slot ts 5=s/\slot ts 6=.i l.length/\slot ts 7=.i k) l.length
  ⟨0,Om,rfl,rfl,rfl,rfl,rfl,rfl,rfl⟩ ?_
 rintro _ ts _ ⟨k,hk,rfl,rfl,hf,hlen,h5,h6,h7⟩;rw[mh ts 15 hlen];by_cases hlt:k<l.length
 ·have hd:l.drop k=l[k]::l.drop (k+1):=Si
  have e2:(l.map aJ)[k]'Om=[AV.i l[k]]:=Si
  have e3:(k:Int)<l.length:=Om
  simp+contextual (disch:=omega) only[aQ,pJ,h5,h6,h7,e3,Z5,hs.bo,Int.toNat_natCast,hs.Mr _ e2,aZ];refine⟨λh1=>?_,λh1=>⟨l.length-(k+1),Om,k+1,Om,rfl,?_,rfl⟩⟩
  ·rw[hf,hd,bn,ZW h1]
  ·rw[hf,hd,bn,ZY Om]
 ·have e3:¬(k:Int)<l.length:=Om
  have e4:k=l.length:=Om
  simp+contextual (disch:=omega) only[aQ,h5,h6,h7,e3,aac,Z7];rw[hf,e4,aaT];rfl
def r193(c:UInt8):ay P 193 [.int .u8 c.toNat] h (λv _=>v=.bool (gM c)):=by
 refine .of T.mix T.c193 ?_;unfold fn193 gA;simp only[uset];simp+contextual only[aQ,pJ,Z5,aac]
 grind [gM]
def r194(c:UInt8):ay P 194 [.int .u8 c.toNat] h (λv _=>v=.bool (cO c)):=by
 refine .of T.mix T.c194 ?_;unfold fn194 gA;simp only[uset];simp+contextual only[aQ,pJ,Z5,aac]
 grind [cO]
def r102(s:By)(hl:s.length<2^63):ay P 102 [.str s] h (λv _=>v=.bool (eZ s)):=by
 refine .of T.mix T.c102 ?_;unfold fn102 gA;simp only[uset];cases s with
 |nil=>
  simp only[aQ,ZT];simp only[show((0:Nat):Int)=0 from rfl,Z5,aQ];rfl
 |cons c r=>
  have e1:¬(((c::r).length:Nat):Int)=0:=by simp;omega
  simp+contextual only[aQ,pJ,e1,Z5,aac];refine⟨λh1=>?_,λh1=>?_⟩
  ·have:¬r.length<24:=by simp at h1;omega
   simp[eZ,this]
  ·rw[rV];simp only[aQ];refine WF.ce T.c193 (r193 T _) λg=>?_
   have hlt:r.length<24:=by simp at h1;omega
   cases hc:gM c with
   |false=>
    simp only[aQ,aai];simp[eZ,hc]
   |true=>
    simp only[aQ,aad];have key:eZ (c::r)=r.all kN:=by simp[eZ,hc,hlt]
    refine WL.inv T.mix (λn ts h'=>∃k:Nat,k<=r.length/\n=r.length-k/\Ext h h'/\r.all kN=(r.drop k).all kN/\ts.length=42/\slot ts 0=.str (c::r)/\slot ts 3=.i (k+1)) r.length
     ⟨0,Om,rfl,⟨_,rfl⟩,rfl,rfl,rfl,rfl⟩ ?_
    rintro _ ts _ ⟨k,hk,rfl,⟨g',rfl⟩,hf,hlen,h0,h3⟩;rw[mh ts 42 hlen];have hlc:(c::r).length=r.length+1:=rfl;by_cases hlt:k<r.length
    ·have hd:r.drop k=r[k]::r.drop (k+1):=Si
     have e3:(k:Int)+1<((c::r).length:Nat):=Om
     have e4:wS (.str (c::r)) (.i (k+1))=some (.int .u8 r[k].toNat):=cM (s:=c::r) (i:=k+1) Om;simp only[aQ,h0,h3,e3,Z5,e4];refine WF.ce T.c193 (r193 T _) λg1=>?_
     cases hx:gM r[k]with
     |true=>
      simp (disch:=omega) only[aQ,aad,aZ];exact⟨_,Om,k+1,Om,rfl,by rw[hf,hd,abp,kN,hx,aci,aci,abJ],rfl⟩
     |false=>
      simp only[aQ,aai,h0,h3,e4];refine WF.ce T.c194 (r194 T _) λg2=>?_
      cases hy:cO r[k]with
      |true=>
       simp (disch:=omega) only[aQ,aad,aZ];exact⟨_,Om,k+1,Om,rfl,by rw[hf,hd,abp,kN,hx,hy,Bool.or_true,aci,abJ],rfl⟩
      |false=>
       simp+contextual (disch:=omega) only[aQ,pJ,aai,h0,h3,e4,aZ];refine⟨λh9=>?_,λh9=>⟨_,Om,k+1,Om,rfl,?_,rfl⟩⟩
       ·rw[key,hf,hd,abp,kN,hx,hy];simp;omega
       ·rw[hf,hd,abp,kN,hx,hy];simp;omega
    ·have e3:¬(k:Int)+1<((c::r).length:Nat):=Om
     have e4:k=r.length:=Om
     simp only[aQ,h0,h3,e3,aac,Z7];rw[key,hf,e4,aaT];rfl
def r132(s:By):ay P 132 [.str s] h (λv _=>v=.bool (eZ s)):=by
 refine .of T.mix T.c132 ?_;unfold fn132 gA;simp only[uset];simp only[aQ,aR];refine WL.inv T.mix (λn ts h'=>∃k:Nat,k<=s.length/\n=s.length-k/\h' =h++[.iter s k]/\kU (s.take k)=true/\ts.length=54/\slot ts 0=.str s/\slot ts 8=.ptr h.length 0) s.length
  ⟨0,Om,rfl,rfl,rfl,rfl,rfl,rfl⟩ ?_
 rintro _ ts _ ⟨k,hk,rfl,rfl,hf,hlen,h0,h8⟩;rw[mh ts 54 hlen];by_cases hlt:k<s.length
 ·have Tn:=AZ hlt;rw[hf,abJ]at Tn;obtain⟨c,w,UU,hcw⟩:∃c w,Utf8.decode ⟨⟨s⟩⟩ k=(c,w)/\(c=s[k].toNat/\w=1\/128<=c/\128<=s[k].toNat):=by
   by_cases hc:s[k].toNat<128
   ·exact⟨_,_,dec_lt hlt hc,.inl ⟨rfl,rfl⟩⟩
   ·exact z212
  have Uc:(if k=0 then gM s[k]else kN s[k])=false->AV.bool false=AV.bool (eZ s):=λhb=>by
   rw[hb]at Tn;rw[tT,AY Tn,Bool.and_false]
  have Yp:∀w',c=s[k].toNat/\w' =1->(if k=0 then gM s[k]else kN s[k])=true->∃m,m<s.length-k/\∃k_1,k_1<=s.length/\m=s.length-k_1/\h++[an.iter s (k+w')]=h++[an.iter s k_1]/\kU (List.take k_1 s)=true/\True:=λw' hw hb=>by
   rw[hb]at Tn;exact⟨_,Om,k+1,Om,rfl,by rw[hw.2],Tn,trivial⟩
  have hl:gM s[k]=(decide (65<=s[k].toNat)&&decide (s[k].toNat<=90)||decide (97<=s[k].toNat)&&decide (s[k].toNat<=122)):=rfl;have hr:kN s[k]=(gM s[k]||(decide (48<=s[k].toNat)&&decide (s[k].toNat<=57))||s[k].toNat==95):=rfl;have h0':((k:Int)=0)=(k=0):=Si
  by_cases a1:(65:Int)<=c<;>by_cases a2:(c:Int)<=90<;>by_cases a3:(97:Int)<=c<;>by_cases a4:(c:Int)<=122<;>first|(exfalso;omega)|skip
  all_goals by_cases a5:(48:Int)<=c<;>by_cases a6:(c:Int)<=57<;>by_cases a7:(c:Int)=95<;>first|(exfalso;omega)|skip
  all_goals first|have b7:=abn a7|have b7:=acp a7
  all_goals simp only[aQ,aR,h0,h8,eV,hlt,Z7,UU,a1,a2,a3,a4,a5,a6,b7,Z5,aac,aad,aai]
  all_goals first
   |exact Yp _ Om (by grind)
   |(by_cases hk0:(k:Int)=0<;>simp only[aQ,aR,hk0,Z5,aac,aad,aai]<;>first
     |exact Uc (by grind)
     |exact Yp _ Om (by grind))
   |exact Uc (by grind)
 ·simp only[aQ,aR,h0,h8,eV,hlt,Z3,Z7];have e4:k=s.length:=Om
  rw[e4,aaj]at hf;by_cases he:s=[]<;>simp only[aQ,he,Z5,aac,ne_eq,not_true_eq_false,not_false_eq_true]
  ·rfl
  ·rw[tT,hf];simp[he];omega
end
end Go.Abs
namespace Go.Abs
def eS{α:Type}{f:α->By}{L:List α}{n:By}(h:n∈L.map f):de (λx=>decide (f x=n)) L=(aW (L.map f) n:Int):=by
 have e:aW (L.map f) n=L.findIdx λx=>decide (f x=n):=by
  rw[aW,List.findIdx_map];rfl
 have hlt:=cL h;rw[e,ZU]at hlt;rw[e,de,List.findIdx?_eq_guard_findIdx_lt];simp[Option.guard,hlt]
def gk{α:Type}{f:α->By}{L:List α}{n:By}:decide (0<=de (λx=>decide (f x=n)) L)=decide (n∈L.map f):=by
 rw[oP];rw[Bool.eq_iff_iff];simp[abx]
section
variable {P:Program}(T:fD P) {h:ah}
include T
def r230{α:Type}{row L s f}(hs:aI h s 3 (L.map row))(hl:L.length<2^63)(p:α->Bool)
  (hf:∀x,x∈L->∀k,Ext h k->bH P f [.agg (row x)] k (λv _=>v=.bool (p x))):ay P 230 [s,f] h (λv _=>v=.i (de p L)):=by
 refine .of T.mix T.c230 ?_;unfold fn230 gA;exact z1
def r232{α:Type}{row L s f}(hs:aI h s 2 (L.map row))(hl:L.length<2^63)(p:α->Bool)
  (hf:∀x,x∈L->∀k,Ext h k->bH P f [.agg (row x)] k (λv _=>v=.bool (p x))):ay P 232 [s,f] h (λv _=>v=.i (de p L)):=by
 refine .of T.mix T.c232 ?_;unfold fn232 gA;exact z1
def r228{α:Type}{row L s f}(hs:aI h s 3 (L.map row))(hl:L.length<2^63)(p:α->Bool)
  (hf:∀x,x∈L->∀k,Ext h k->bH P f [.agg (row x)] k (λv _=>v=.bool (p x))):ay P 228 [s,f] h (λv _=>v=.i (de p L)):=by
 refine .of T.mix T.c228 ?_;unfold fn228 gA;exact z1
def r234{α:Type}{row L s f}(hs:aI h s 4 (L.map row))(hl:L.length<2^63)(p:α->Bool)
  (hf:∀x,x∈L->∀k,Ext h k->bH P f [.agg (row x)] k (λv _=>v=.bool (p x))):ay P 234 [s,f] h (λv _=>v=.i (de p L)):=by
 refine .of T.mix T.c234 ?_;unfold fn234 gA;exact z1
def r236{α:Type}{row L s f}(hs:aI h s 3 (L.map row))(hl:L.length<2^63)(p:α->Bool)
  (hf:∀x,x∈L->∀k,Ext h k->bH P f [.agg (row x)] k (λv _=>v=.bool (p x))):ay P 236 [s,f] h (λv _=>v=.i (de p L)):=by
 refine .of T.mix T.c236 ?_;unfold fn236 gA;exact z1
def r238{α:Type}{row L s f}(hs:aI h s 4 (L.map row))(hl:L.length<2^63)(p:α->Bool)
  (hf:∀x,x∈L->∀k,Ext h k->bH P f [.agg (row x)] k (λv _=>v=.bool (p x))):ay P 238 [s,f] h (λv _=>v=.i (de p L)):=by
 refine .of T.mix T.c238 ?_;unfold fn238 gA;exact z1
def r246{α:Type}{row:α->List AV}{L:List α}{s f:AV}(hs:aI h s 3 (L.map row))(hl:L.length<2^63)(p:α->Bool)
  (hf:∀x,x∈L->∀k,Ext h k->bH P f [.agg (row x)] k (λv _=>v=.bool (p x))):ay P 246 [s,f] h (λv _=>v=.bool (L.any p)):=by
 refine .of T.mix T.c246 ?_;unfold fn246 gA;refine Wn ?_;refine WF.ce T.c230 (r230 T hs hl p hf) λg=>?_
 exact Ws @oP Tv
def r243{α:Type}{row:α->List AV}{L:List α}{s f:AV}(hs:aI h s 3 (L.map row))(hl:L.length<2^63)(p:α->Bool)
  (hf:∀x,x∈L->∀k,Ext h k->bH P f [.agg (row x)] k (λv _=>v=.bool (p x))):ay P 243 [s,f] h (λv _=>v=.bool (L.any p)):=by
 refine .of T.mix T.c243 ?_;unfold fn243 gA;refine Wn ?_;refine WF.ce T.c228 (r228 T hs hl p hf) λg=>?_
 exact Ws @oP Tv
def r268{α:Type}{row:α->List AV}{L:List α}{s f:AV}(hs:aI h s 4 (L.map row))(hl:L.length<2^63)(p:α->Bool)
  (hf:∀x,x∈L->∀k,Ext h k->bH P f [.agg (row x)] k (λv _=>v=.bool (p x))):ay P 268 [s,f] h (λv _=>v=.bool (L.any p)):=by
 refine .of T.mix T.c268 ?_;unfold fn268 gA;refine Wn ?_;refine WF.ce T.c238 (r238 T hs hl p hf) λg=>?_
 exact Ws @oP Tv
def r123(x:iH):ay P 123 [.agg (cC x)] h (λv _=>v=.str x.name):=by
 refine .of T.mix T.c123 ?_;unfold fn123 gA cC;exact Wn Tv
def r231(x:iH){b n}(hb:h[b]? =some (.b [.str n])):ay P 231 [.agg (cC x),.ptr b 0] h (λv _=>v=.bool (decide (x.name=n))):=by
 refine .of T.mix T.c231 ?_;unfold fn231 gA;have hlt:=(ZM.1 hb).1;have hld:∀g:ah,aq none (.ptr b 0) (λz=>(h++g)[z]?)=dK none 0 (.b [.str n]):=λg=>az (by rw[dx _ hlt];exact hb)
 have TV:∀g g':ah,aq none (.ptr b 0) (λz=>(h++g++g')[z]?)=dK none 0 (.b [.str n]):=λg g'=>az (by rw[ZO,dx _ hlt];exact hb)
 unfold cC;refine Ws (A3 @hld @TV @kW) ?_;refine WF.val (bH.AP T.m123 T.c123 (r123 T x)) ?_;rintro _ g1 rfl;exact Av
def r142{L s}(hs:aI h s 3 (L.map cC))(hl:L.length<2^63)(n:By):ay P 142 [s,.str n] h (λv _=>v=.i (de (λx=>decide (x.name=n)) L)):=by
 refine .of T.mix T.c142 ?_;unfold fn142 gA;refine Wn ?_;refine WF.ce T.c230 (r230 T (hs.ext (by repeat first|exact Ext.refl _|refine Ext.app _ ?_)) hl (λx=>decide (x.name=n)) (λx hx k e=>bH.of (a:=[]) (c:=[.ptr h.length 0]) T.c231 (r231 T x (e.some ba)))) λg1=>?_
 exact Wn Tv
def r322(x:sQ):ay P 322 [.agg (eP x)] h (λv _=>v=.str x.name):=by
 refine .of T.mix T.c322 ?_;unfold fn322 gA eP;exact Wn Tv
def r233(x:sQ){b n}(hb:h[b]? =some (.b [.str n])):ay P 233 [.agg (eP x),.ptr b 0] h (λv _=>v=.bool (decide (x.name=n))):=by
 refine .of T.mix T.c233 ?_;unfold fn233 gA;have hlt:=(ZM.1 hb).1;have hld:∀g:ah,aq none (.ptr b 0) (λz=>(h++g)[z]?)=dK none 0 (.b [.str n]):=λg=>az (by rw[dx _ hlt];exact hb)
 have TV:∀g g':ah,aq none (.ptr b 0) (λz=>(h++g++g')[z]?)=dK none 0 (.b [.str n]):=λg g'=>az (by rw[ZO,dx _ hlt];exact hb)
 unfold eP;refine Ws (A3 @hld @TV @kW) ?_;refine WF.val (bH.AP T.m322 T.c322 (r322 T x)) ?_;rintro _ g1 rfl;exact Av
def r143{L s}(hs:aI h s 2 (L.map eP))(hl:L.length<2^63)(n:By):ay P 143 [s,.str n] h (λv _=>v=.i (de (λx=>decide (x.name=n)) L)):=by
 refine .of T.mix T.c143 ?_;unfold fn143 gA;refine Wn ?_;refine WF.ce T.c232 (r232 T (hs.ext (by repeat first|exact Ext.refl _|refine Ext.app _ ?_)) hl (λx=>decide (x.name=n)) (λx hx k e=>bH.of (a:=[]) (c:=[.ptr h.length 0]) T.c233 (r233 T x (e.some ba)))) λg1=>?_
 exact Wn Tv
def r140(x:j7×AV)(ho:x.2.one=true):ay P 140 [.agg (bt x)] h (λv _=>v=.str x.1.name):=by
 refine .of T.mix T.c140 ?_;unfold fn140 gA bt;exact Ws @ho Tv
def r229(x:j7×AV)(ho:x.2.one=true){b n}(hb:h[b]? =some (.b [.str n])):ay P 229 [.agg (bt x),.ptr b 0] h (λv _=>v=.bool (decide (x.1.name=n))):=by
 refine .of T.mix T.c229 ?_;unfold fn229 gA;have hlt:=(ZM.1 hb).1;have hld:∀g:ah,aq none (.ptr b 0) (λz=>(h++g)[z]?)=dK none 0 (.b [.str n]):=λg=>az (by rw[dx _ hlt];exact hb)
 have TV:∀g g':ah,aq none (.ptr b 0) (λz=>(h++g++g')[z]?)=dK none 0 (.b [.str n]):=λg g'=>az (by rw[ZO,dx _ hlt];exact hb)
 unfold bt;refine Ws (A4 @hld @TV @ho @kW) ?_;refine WF.val (bH.AP T.m140 T.c140 (r140 T x ho)) ?_;rintro _ g1 rfl;exact Av
def r136{L s}(hs:aI h s 3 (L.map bt))(ho:∀x∈L,x.2.one=true)(hl:L.length<2^63)(n:By):ay P 136 [s,.str n] h (λv _=>v=.i (de (λx=>decide (x.1.name=n)) L)):=by
 refine .of T.mix T.c136 ?_;unfold fn136 gA;refine Wn ?_;refine WF.ce T.c228 (r228 T (hs.ext (by repeat first|exact Ext.refl _|refine Ext.app _ ?_)) hl (λx=>decide (x.1.name=n)) (λx hx k e=>bH.of (a:=[]) (c:=[.ptr h.length 0]) T.c229 (r229 T x (ho x hx) (e.some ba)))) λg1=>?_
 exact Wn Tv
def r120(x:jc×AV)(ho:x.2.one=true):ay P 120 [.agg (bf x)] h (λv _=>v=.str x.1.name):=by
 refine .of T.mix T.c120 ?_;unfold fn120 gA bf;exact Ws @ho Tv
def r235(x:jc×AV)(ho:x.2.one=true){b n}(hb:h[b]? =some (.b [.str n])):ay P 235 [.agg (bf x),.ptr b 0] h (λv _=>v=.bool (decide (x.1.name=n))):=by
 refine .of T.mix T.c235 ?_;unfold fn235 gA;have hlt:=(ZM.1 hb).1;have hld:∀g:ah,aq none (.ptr b 0) (λz=>(h++g)[z]?)=dK none 0 (.b [.str n]):=λg=>az (by rw[dx _ hlt];exact hb)
 have TV:∀g g':ah,aq none (.ptr b 0) (λz=>(h++g++g')[z]?)=dK none 0 (.b [.str n]):=λg g'=>az (by rw[ZO,dx _ hlt];exact hb)
 unfold bf;refine Ws (A4 @hld @TV @ho @kW) ?_;refine WF.val (bH.AP T.m120 T.c120 (r120 T x ho)) ?_;rintro _ g1 rfl;exact Av
def r144{L s}(hs:aI h s 4 (L.map bf))(ho:∀x∈L,x.2.one=true)(hl:L.length<2^63)(n:By):ay P 144 [s,.str n] h (λv _=>v=.i (de (λx=>decide (x.1.name=n)) L)):=by
 refine .of T.mix T.c144 ?_;unfold fn144 gA;refine Wn ?_;refine WF.ce T.c234 (r234 T (hs.ext (by repeat first|exact Ext.refl _|refine Ext.app _ ?_)) hl (λx=>decide (x.1.name=n)) (λx hx k e=>bH.of (a:=[]) (c:=[.ptr h.length 0]) T.c235 (r235 T x (ho x hx) (e.some ba)))) λg1=>?_
 exact Wn Tv
def r324(x:kI×AV)(ho:x.2.one=true):ay P 324 [.agg (bO x)] h (λv _=>v=.str x.1.name):=by
 refine .of T.mix T.c324 ?_;unfold fn324 gA bO;exact Ws @ho Tv
def r237(x:kI×AV)(ho:x.2.one=true){b n}(hb:h[b]? =some (.b [.str n])):ay P 237 [.agg (bO x),.ptr b 0] h (λv _=>v=.bool (decide (x.1.name=n))):=by
 refine .of T.mix T.c237 ?_;unfold fn237 gA;have hlt:=(ZM.1 hb).1;have hld:∀g:ah,aq none (.ptr b 0) (λz=>(h++g)[z]?)=dK none 0 (.b [.str n]):=λg=>az (by rw[dx _ hlt];exact hb)
 have TV:∀g g':ah,aq none (.ptr b 0) (λz=>(h++g++g')[z]?)=dK none 0 (.b [.str n]):=λg g'=>az (by rw[ZO,dx _ hlt];exact hb)
 unfold bO;refine Ws (A4 @hld @TV @ho @kW) ?_;refine WF.val (bH.AP T.m324 T.c324 (r324 T x ho)) ?_;rintro _ g1 rfl;exact Av
def r145{L s}(hs:aI h s 3 (L.map bO))(ho:∀x∈L,x.2.one=true)(hl:L.length<2^63)(n:By):ay P 145 [s,.str n] h (λv _=>v=.i (de (λx=>decide (x.1.name=n)) L)):=by
 refine .of T.mix T.c145 ?_;unfold fn145 gA;refine Wn ?_;refine WF.ce T.c236 (r236 T (hs.ext (by repeat first|exact Ext.refl _|refine Ext.app _ ?_)) hl (λx=>decide (x.1.name=n)) (λx hx k e=>bH.of (a:=[]) (c:=[.ptr h.length 0]) T.c237 (r237 T x (ho x hx) (e.some ba)))) λg1=>?_
 exact Wn Tv
def r323(x:pI):ay P 323 [.agg (dG x)] h (λv _=>v=.str x.name):=by
 refine .of T.mix T.c323 ?_;unfold fn323 gA dG;exact Wn Tv
def r239(x:pI){b n}(hb:h[b]? =some (.b [.str n])):ay P 239 [.agg (dG x),.ptr b 0] h (λv _=>v=.bool (decide (x.name=n))):=by
 refine .of T.mix T.c239 ?_;unfold fn239 gA;have hlt:=(ZM.1 hb).1;have hld:∀g:ah,aq none (.ptr b 0) (λz=>(h++g)[z]?)=dK none 0 (.b [.str n]):=λg=>az (by rw[dx _ hlt];exact hb)
 have TV:∀g g':ah,aq none (.ptr b 0) (λz=>(h++g++g')[z]?)=dK none 0 (.b [.str n]):=λg g'=>az (by rw[ZO,dx _ hlt];exact hb)
 unfold dG;refine Ws (A3 @hld @TV @kW) ?_;refine WF.val (bH.AP T.m323 T.c323 (r323 T x)) ?_;rintro _ g1 rfl;exact Av
def r146{L s}(hs:aI h s 4 (L.map dG))(hl:L.length<2^63)(n:By):ay P 146 [s,.str n] h (λv _=>v=.i (de (λx=>decide (x.name=n)) L)):=by
 refine .of T.mix T.c146 ?_;unfold fn146 gA;refine Wn ?_;refine WF.ce T.c238 (r238 T (hs.ext (by repeat first|exact Ext.refl _|refine Ext.app _ ?_)) hl (λx=>decide (x.name=n)) (λx hx k e=>bH.of (a:=[]) (c:=[.ptr h.length 0]) T.c239 (r239 T x (e.some ba)))) λg1=>?_
 exact Wn Tv
end
def aI.Pv{h s es cs}(hs:aI h s es cs):(s=.af/\cs=[])\/(∀neg:Bool,uW neg (mS .EY s .af)=some (.bool neg)):=by
 cases hs with
 |nil=>exact .inl ⟨rfl,rfl⟩
 |mk hb hf ho he=>right;intro neg;cases neg<;>rfl
def CS:uW false (mS .EY .af .af)=some (.bool true):=rfl
attribute [local irreducible] WP WC WE WB WR WF WL WG fR
section
variable {P:Program}(T:fD P) {h:ah}
include T
def r177{s cs}(hs:aI h s 1 cs)(hl:cs.length<=2^40):ay P 177 [s] h (λv h'=>Fr h.length h' v 1 cs):=by
 refine .of T.mix T.c177 ?_;unfold fn177 gA;exact On
def r178{s cs}(hs:aI h s 1 cs)(hl:cs.length<=2^40):ay P 178 [s] h (λv h'=>Fr h.length h' v 1 cs):=by
 refine .of T.mix T.c178 ?_;unfold fn178 gA;exact On
def r179{s cs}(hs:aI h s 2 cs)(hl:cs.length<=2^40):ay P 179 [s] h (λv h'=>Fr h.length h' v 2 cs):=by
 refine .of T.mix T.c179 ?_;unfold fn179 gA;exact On
def r181(x:j7×AV)(hx:aI h x.2 1 (x.1.aH.map ak))(hl:x.1.aH.length<=2^40):ay P 181 [.agg (bt x)] h (λv h'=>∃s',v=.agg (bt (x.1,s'))/\Fr h.length h' s' 1 (x.1.aH.map ak)):=by
 refine .of T.mix T.c181 ?_;obtain⟨ts,Sv⟩:∃ts,ts=aU 8 [.agg (bt x)]:=⟨_,rfl⟩;have hlen:ts.length=8:=by rw[Sv];rfl
 have t0:slot ts 0=.agg (bt x):=by rw[Sv];rfl
 unfold fn181 gA;show WC P bL _ [] (aU 8 [.agg (bt x)]) h _;rw[<-Sv];clear Sv;have o1:=hx.one;unfold bt at t0 ⊢;exact Rd
def r183(x:jc×AV)(hx:aI h x.2 1 (x.1.bA.map ak))(hl:x.1.bA.length<=2^40):ay P 183 [.agg (bf x)] h (λv h'=>∃s',v=.agg (bf (x.1,s'))/\Fr h.length h' s' 1 (x.1.bA.map ak)):=by
 refine .of T.mix T.c183 ?_;obtain⟨ts,Sv⟩:∃ts,ts=aU 8 [.agg (bf x)]:=⟨_,rfl⟩;have hlen:ts.length=8:=by rw[Sv];rfl
 have t0:slot ts 0=.agg (bf x):=by rw[Sv];rfl
 unfold fn183 gA;show WC P bL _ [] (aU 8 [.agg (bf x)]) h _;rw[<-Sv];clear Sv;have o1:=hx.one;unfold bf at t0 ⊢;exact Rd
def r185(x:kI×AV)(hx:aI h x.2 1 (x.1.bz.map aJ))(hl:x.1.bz.length<=2^40):ay P 185 [.agg (bO x)] h (λv h'=>∃s',v=.agg (bO (x.1,s'))/\Fr h.length h' s' 1 (x.1.bz.map aJ)):=by
 refine .of T.mix T.c185 ?_;obtain⟨ts,Sv⟩:∃ts,ts=aU 8 [.agg (bO x)]:=⟨_,rfl⟩;have hlen:ts.length=8:=by rw[Sv];rfl
 have t0:slot ts 0=.agg (bO x):=by rw[Sv];rfl
 unfold fn185 gA;show WC P bL _ [] (aU 8 [.agg (bO x)]) h _;rw[<-Sv];clear Sv;have o1:=hx.one;unfold bO at t0 ⊢;refine Rs (A2 t0 @o1) ?_;refine WF.res T.c178 (r178 T (hx.ext Xx) (by simp;omega)) ?_;rintro s' g1 hf;have o2:=hf.aO.one;refine Rs (A3 t0 @o1 @o2) ?_;exact⟨s',rfl,(Fr.swap hf Si).low Si⟩
set_option maxRecDepth 10000 in
def r91(x:EV)(hx:bj h x)(hl:x.ev.names.length<=2^40/\x.ev.bQ.length<=2^40):ay P 91 [.agg x.row] h (λv h'=>∃x':EV,x'.ev=x.ev/\v=.agg x'.row/\Fr h.length h' x'.sn 1 (x.ev.names.map ak)/\Fr h.length h' x'.sv 1 (x.ev.bQ.map aJ)):=by
 refine .of T.mix T.c91 ?_;obtain⟨ts,Sv⟩:∃ts,ts=aU 12 [.agg x.row]:=⟨_,rfl⟩;have hlen:ts.length=12:=by rw[Sv];rfl
 have t0:slot ts 0=.agg x.row:=by rw[Sv];rfl
 unfold fn91;show WC P bL _ [] (aU 12 [.agg x.row]) h _;rw[<-Sv];clear Sv;have o1:=hx.n.one;have o2:=hx.v.one;unfold EV.row at t0 ⊢;refine Rs (A3 t0 @o1 @o2) ?_;refine WF.res T.c177 (r177 T (hx.n.ext Xx) (by simp;omega)) ?_;rintro s1 g1 V6;have o3:=V6.aO.one;refine Rs (A4 t0 @o1 @o2 @o3) ?_;refine WF.res T.c178 (r178 T (hx.v.ext Xx) (by simp;omega)) ?_;rintro s2 g2 Vf;have o4:=Vf.aO.one;refine Rs (A5 t0 @o1 @o2 @o3 @o4) ?_;refine⟨⟨x.ev,s1,s2⟩,rfl,rfl,?_,?_⟩
 ·exact((Fr.swap V6 Si).app _).low Si
 ·exact(Fr.swap Vf Si).low Si
def r130{L:List (By)}{s f:AV}(hs:aI h s 1 (L.map ak))(hl:L.length<=2^40)(F:(By)->Int)(hf:∀x,x∈L->∀k,Ext h k->bH P f [.str x] k (λv _=>v=.i (F x))):
  ay P 130 [s,f] h (λv h'=>Fr h.length h' v 1 ((L.map F).map aJ)):=by
 refine .of T.mix T.c130 ?_;unfold fn130 gA;refine Ws hs.aL ?_;refine WL.inv T.mix (λn ts h'=>∃(k:Nat) (out:AV),k<=L.length/\n=L.length-k/\Ext h h'/\Fr h.length h' out 1 (((L.take k).map F).map aJ)/\ts.length=22/\slot ts 1=f/\slot ts 5=out/\slot ts 8=s/\slot ts 9=.i L.length/\slot ts 10=.i k) L.length
  ⟨0,.af,Om,rfl,Ext.refl h,.nil,rfl,rfl,rfl,rfl,rfl,rfl⟩ ?_
 rintro _ ts _ ⟨k,out,hk,rfl,⟨g,rfl⟩,hfr,hlen,t1,t5,t8,t9,t10⟩;rw[mh ts 22 hlen];by_cases hlt:k<L.length
 ·have e3:(k:Int)<L.length:=Om
  have hvk:=hf L[k] Si;have XF:∀{kk:ah},Ext h kk->aq none (cF s 1 k) (λb=>kk[b]?)=some (.str L[k],.ar):=λ{kk} e=>hs.gR hlt rfl e
  simp only[aQ,aR,aX,aY,reduceAdd,reduceMul,reduceLeDiff,reduceEqDiff,t1,t5,t8,t9,t10,e3,Z5,hs.dA hlt,XF];refine WF.val (hvk _ (by repeat first|exact Ext.refl _|refine Ext.app _ ?_)) ?_;rintro _ g1 rfl;refine Wn ?_;refine WR.fP (h0:=h) (cs:=((L.take k).map F).map aJ) (ys:=[aJ (F L[k])]) (((hfr.app _).app _)) (Fr.push (N:=0) (aam _) [aJ (F L[k])] (by simp[aJ])).aO De Si (by simp;omega) (by simp only[tf]) ?_;intro g' SI hff hkp;have hrow:((L.take k).map F).map aJ++[aJ (F L[k])]=((L.take (k+1)).map F).map aJ:=by rw[aay,ZS hlt,ZV,ZV];rfl
  exact z6
 ·exact z5
def r92{L:List (Int)}{s f:AV}(hs:aI h s 1 (L.map aJ))(hl:L.length<=2^40)(F:(Int)->Int)(hf:∀x,x∈L->∀k,Ext h k->bH P f [.i x] k (λv _=>v=.i (F x))):
  ay P 92 [s,f] h (λv h'=>Fr h.length h' v 1 ((L.map F).map aJ)):=by
 refine .of T.mix T.c92 ?_;unfold fn92 Ly;refine Ws hs.aL ?_;refine WL.inv T.mix (λn ts h'=>∃(k:Nat) (out:AV),k<=L.length/\n=L.length-k/\Ext h h'/\Fr h.length h' out 1 (((L.take k).map F).map aJ)/\ts.length=22/\slot ts 1=f/\slot ts 5=out/\slot ts 8=s/\slot ts 9=.i L.length/\slot ts 10=.i k) L.length
  ⟨0,.af,Om,rfl,Ext.refl h,.nil,rfl,rfl,rfl,rfl,rfl,rfl⟩ ?_
 rintro _ ts _ ⟨k,out,hk,rfl,⟨g,rfl⟩,hfr,hlen,t1,t5,t8,t9,t10⟩;rw[mh ts 22 hlen];by_cases hlt:k<L.length
 ·have e3:(k:Int)<L.length:=Om
  have hvk:=hf L[k] Si;have XF:∀{kk:ah},Ext h kk->aq none (cF s 1 k) (λb=>kk[b]?)=some (.i L[k],.ar):=λ{kk} e=>hs.gR hlt rfl e
  simp only[aQ,aR,aX,aY,reduceAdd,reduceMul,reduceLeDiff,reduceEqDiff,t1,t5,t8,t9,t10,e3,Z5,hs.dA hlt,XF];refine WF.val (hvk _ (by repeat first|exact Ext.refl _|refine Ext.app _ ?_)) ?_;rintro _ g1 rfl;refine Wn ?_;refine WR.fP (h0:=h) (cs:=((L.take k).map F).map aJ) (ys:=[aJ (F L[k])]) (((hfr.app _).app _)) (Fr.push (N:=0) (aam _) [aJ (F L[k])] (by simp[aJ])).aO De Si (by simp;omega) (by simp only[tf]) ?_;intro g' SI hff hkp;have hrow:((L.take k).map F).map aJ++[aJ (F L[k])]=((L.take (k+1)).map F).map aJ:=by rw[aay,ZS hlt,ZV,ZV];rfl
  exact z6
 ·exact z5
def r199{L:List (Int)}{s f:AV}(hs:aI h s 1 (L.map aJ))(hl:L.length<=2^40)(F:(Int)->By)(hf:∀x,x∈L->∀k,Ext h k->bH P f [.i x] k (λv _=>v=.str (F x))):
  ay P 199 [s,f] h (λv h'=>Fr h.length h' v 1 ((L.map F).map ak)):=by
 refine .of T.mix T.c199 ?_;unfold fn199 gA;refine Ws hs.aL ?_;refine WL.inv T.mix (λn ts h'=>∃(k:Nat) (out:AV),k<=L.length/\n=L.length-k/\Ext h h'/\Fr h.length h' out 1 (((L.take k).map F).map ak)/\ts.length=22/\slot ts 1=f/\slot ts 5=out/\slot ts 8=s/\slot ts 9=.i L.length/\slot ts 10=.i k) L.length
  ⟨0,.af,Om,rfl,Ext.refl h,.nil,rfl,rfl,rfl,rfl,rfl,rfl⟩ ?_
 rintro _ ts _ ⟨k,out,hk,rfl,⟨g,rfl⟩,hfr,hlen,t1,t5,t8,t9,t10⟩;rw[mh ts 22 hlen];by_cases hlt:k<L.length
 ·have e3:(k:Int)<L.length:=Om
  have hvk:=hf L[k] Si;have XF:∀{kk:ah},Ext h kk->aq none (cF s 1 k) (λb=>kk[b]?)=some (.i L[k],.ar):=λ{kk} e=>hs.gR hlt rfl e
  simp only[aQ,aR,aX,aY,reduceAdd,reduceMul,reduceLeDiff,reduceEqDiff,t1,t5,t8,t9,t10,e3,Z5,hs.dA hlt,XF];refine WF.val (hvk _ (by repeat first|exact Ext.refl _|refine Ext.app _ ?_)) ?_;rintro _ g1 rfl;refine Wn ?_;refine WR.fP (h0:=h) (cs:=((L.take k).map F).map ak) (ys:=[ak (F L[k])]) (((hfr.app _).app _)) (Fr.push (N:=0) (aam _) [ak (F L[k])] (by simp[ak])).aO De Si (by simp;omega) (by simp only[tf]) ?_;intro g' SI hff hkp;have hrow:((L.take k).map F).map ak++[ak (F L[k])]=((L.take (k+1)).map F).map ak:=by rw[aay,ZS hlt,ZV,ZV];rfl
  exact z6
 ·exact z5
def r137{L:List (j7×AV)}{s f:AV}(hs:aI h s 3 (L.map bt))(ho:∀x∈L,x.2.one=true)(hl:L.length<=2^40)(F:(j7×AV)->By)(hf:∀x,x∈L->∀k,Ext h k->bH P f [.agg (bt x)] k (λv _=>v=.str (F x))):
  ay P 137 [s,f] h (λv h'=>Fr h.length h' v 1 ((L.map F).map ak)):=by
 refine .of T.mix T.c137 ?_;unfold fn137 gA;refine Ws hs.aL ?_;refine WL.inv T.mix (λn ts h'=>∃(k:Nat) (out:AV),k<=L.length/\n=L.length-k/\Ext h h'/\Fr h.length h' out 1 (((L.take k).map F).map ak)/\ts.length=22/\slot ts 1=f/\slot ts 5=out/\slot ts 8=s/\slot ts 9=.i L.length/\slot ts 10=.i k) L.length
  ⟨0,.af,Om,rfl,Ext.refl h,.nil,rfl,rfl,rfl,rfl,rfl,rfl⟩ ?_
 rintro _ ts _ ⟨k,out,hk,rfl,⟨g,rfl⟩,hfr,hlen,t1,t5,t8,t9,t10⟩;rw[mh ts 22 hlen];by_cases hlt:k<L.length
 ·have e3:(k:Int)<L.length:=Om
  have hvk:=hf L[k] Si;simp only[aQ,aR,aX,aY,reduceAdd,reduceMul,reduceLeDiff,reduceEqDiff,t1,t5,t8,t9,t10,e3,Z5,hs.dA hlt,hs.kR hlt,bt,ho L[k] Si];exact z4
 ·exact z5
def r121{L:List (iH)}{s f:AV}(hs:aI h s 3 (L.map cC))(hl:L.length<=2^40)(F:(iH)->By)(hf:∀x,x∈L->∀k,Ext h k->bH P f [.agg (cC x)] k (λv _=>v=.str (F x))):
  ay P 121 [s,f] h (λv h'=>Fr h.length h' v 1 ((L.map F).map ak)):=by
 refine .of T.mix T.c121 ?_;unfold fn121 gA;refine Ws hs.aL ?_;refine WL.inv T.mix (λn ts h'=>∃(k:Nat) (out:AV),k<=L.length/\n=L.length-k/\Ext h h'/\Fr h.length h' out 1 (((L.take k).map F).map ak)/\ts.length=22/\slot ts 1=f/\slot ts 5=out/\slot ts 8=s/\slot ts 9=.i L.length/\slot ts 10=.i k) L.length
  ⟨0,.af,Om,rfl,Ext.refl h,.nil,rfl,rfl,rfl,rfl,rfl,rfl⟩ ?_
 rintro _ ts _ ⟨k,out,hk,rfl,⟨g,rfl⟩,hfr,hlen,t1,t5,t8,t9,t10⟩;rw[mh ts 22 hlen];by_cases hlt:k<L.length
 ·have e3:(k:Int)<L.length:=Om
  have hvk:=hf L[k] Si;simp only[aQ,aR,aX,aY,reduceAdd,reduceMul,reduceLeDiff,reduceEqDiff,t1,t5,t8,t9,t10,e3,Z5,hs.dA hlt,hs.kR hlt,cC];exact z4
 ·exact z5
def r117{L:List (jc×AV)}{s f:AV}(hs:aI h s 4 (L.map bf))(ho:∀x∈L,x.2.one=true)(hl:L.length<=2^40)(F:(jc×AV)->By)(hf:∀x,x∈L->∀k,Ext h k->bH P f [.agg (bf x)] k (λv _=>v=.str (F x))):
  ay P 117 [s,f] h (λv h'=>Fr h.length h' v 1 ((L.map F).map ak)):=by
 refine .of T.mix T.c117 ?_;unfold fn117 gA;refine Ws hs.aL ?_;refine WL.inv T.mix (λn ts h'=>∃(k:Nat) (out:AV),k<=L.length/\n=L.length-k/\Ext h h'/\Fr h.length h' out 1 (((L.take k).map F).map ak)/\ts.length=22/\slot ts 1=f/\slot ts 5=out/\slot ts 8=s/\slot ts 9=.i L.length/\slot ts 10=.i k) L.length
  ⟨0,.af,Om,rfl,Ext.refl h,.nil,rfl,rfl,rfl,rfl,rfl,rfl⟩ ?_
 rintro _ ts _ ⟨k,out,hk,rfl,⟨g,rfl⟩,hfr,hlen,t1,t5,t8,t9,t10⟩;rw[mh ts 22 hlen];by_cases hlt:k<L.length
 ·have e3:(k:Int)<L.length:=Om
  have hvk:=hf L[k] Si;simp only[aQ,aR,aX,aY,reduceAdd,reduceMul,reduceLeDiff,reduceEqDiff,t1,t5,t8,t9,t10,e3,Z5,hs.dA hlt,hs.kR hlt,bf,ho L[k] Si];exact z4
 ·exact z5
def r115{L:List (EV)}{s f:AV}(hs:aI h s 5 (L.map EV.row))(ho:∀x∈L,x.sn.one=true/\x.sv.one=true)(hl:L.length<=2^40)(F:(EV)->By)(hf:∀x,x∈L->∀k,Ext h k->bH P f [.agg (EV.row x)] k (λv _=>v=.str (F x))):
  ay P 115 [s,f] h (λv h'=>Fr h.length h' v 1 ((L.map F).map ak)):=by
 refine .of T.mix T.c115 ?_;unfold fn115 gA;refine Ws hs.aL ?_;refine WL.inv T.mix (λn ts h'=>∃(k:Nat) (out:AV),k<=L.length/\n=L.length-k/\Ext h h'/\Fr h.length h' out 1 (((L.take k).map F).map ak)/\ts.length=22/\slot ts 1=f/\slot ts 5=out/\slot ts 8=s/\slot ts 9=.i L.length/\slot ts 10=.i k) L.length
  ⟨0,.af,Om,rfl,Ext.refl h,.nil,rfl,rfl,rfl,rfl,rfl,rfl⟩ ?_
 rintro _ ts _ ⟨k,out,hk,rfl,⟨g,rfl⟩,hfr,hlen,t1,t5,t8,t9,t10⟩;rw[mh ts 22 hlen];by_cases hlt:k<L.length
 ·have e3:(k:Int)<L.length:=Om
  have hvk:=hf L[k] Si;simp only[aQ,aR,aX,aY,reduceAdd,reduceMul,reduceLeDiff,reduceEqDiff,t1,t5,t8,t9,t10,e3,Z5,hs.dA hlt,hs.kR hlt,EV.row,(ho L[k] Si).1,(ho L[k] Si).2];exact z4
 ·exact z5
set_option maxRecDepth 10000 in
def r138{L:List (j7×AV)}{s f:AV}(hs:aI h s 3 (L.map bt))(ho:∀x∈L,x.2.one=true)(hl:L.length<=2^38)(p:(j7×AV)->Bool)(hf:∀x,x∈L->∀k,Ext h k->bH P f [.agg (bt x)] k (λv _=>v=.bool (p x))):
  ay P 138 [s,f] h (λv h'=>Fr h.length h' v 3 ((L.filter p).map bt)):=by
 refine .of T.mix T.c138 ?_;unfold fn138 gA;refine Ws hs.aL ?_;refine WL.inv T.mix (λn ts h'=>∃(k:Nat) (out:AV),k<=L.length/\n=L.length-k/\Ext h h'/\Fr h.length h' out 3 (((L.take k).filter p).map bt)/\ts.length=23/\slot ts 1=f/\slot ts 5=out/\slot ts 8=s/\slot ts 9=.i L.length/\slot ts 10=.i k) L.length
  ⟨0,.af,Om,rfl,Ext.refl h,.nil,rfl,rfl,rfl,rfl,rfl,rfl⟩ ?_
 rintro _ ts _ ⟨k,out,hk,rfl,⟨g,rfl⟩,hfr,hlen,t1,t5,t8,t9,t10⟩;rw[mh ts 23 hlen];by_cases hlt:k<L.length
 ·have e3:(k:Int)<L.length:=Om
  have hvk:=hf L[k] Si;have SC:(L.take (k+1)).filter p=(L.take k).filter p++(if p L[k]=true then [L[k]]else []):=by
   exact Oe
  have Tc:((L.take k).filter p).length<=L.length:=aaz (aav _ _) (by rw[aaw];omega);simp only[aQ,aR,aX,aY,reduceAdd,reduceMul,reduceLeDiff,reduceEqDiff,t1,t5,t8,t9,t10,e3,Z5,hs.dA hlt,hs.kR hlt,bt,ho L[k] Si];refine WF.val (hvk _ (by repeat first|exact Ext.refl _|refine Ext.app _ ?_)) ?_;rintro _ g1 rfl;cases hp:p L[k]with
  |true=>
   rw[hp,ZY rfl]at SC;simp only[aQ,aR,aX,aY,reduceAdd,reduceMul,reduceLeDiff,reduceEqDiff,ho L[k] Si];refine WR.fP (h0:=h) (cs:=((L.take k).filter p).map bt) (ys:=[bt L[k]]) (((hfr.app _).app _).app _) (Fr.push (N:=0) (aam _) [bt L[k]] (by simp[bt])).aO De Si (by simp only[ZU,ZP,ZT];omega) (by simp only[tf]) ?_;intro g' SI hff hkp;have hrow:((L.take k).filter p).map bt++[bt L[k]]=((L.take (k+1)).filter p).map bt:=by rw[SC,ZV];rfl
   exact z6
  |false=>
   exact z37
 ·exact z5
set_option maxRecDepth 10000 in
def r216{L:List (iH)}{s f:AV}(hs:aI h s 3 (L.map cC))(hl:L.length<=2^38)(p:(iH)->Bool)(hf:∀x,x∈L->∀k,Ext h k->bH P f [.agg (cC x)] k (λv _=>v=.bool (p x))):
  ay P 216 [s,f] h (λv h'=>Fr h.length h' v 3 ((L.filter p).map cC)):=by
 refine .of T.mix T.c216 ?_;unfold fn216 gA;refine Ws hs.aL ?_;refine WL.inv T.mix (λn ts h'=>∃(k:Nat) (out:AV),k<=L.length/\n=L.length-k/\Ext h h'/\Fr h.length h' out 3 (((L.take k).filter p).map cC)/\ts.length=23/\slot ts 1=f/\slot ts 5=out/\slot ts 8=s/\slot ts 9=.i L.length/\slot ts 10=.i k) L.length
  ⟨0,.af,Om,rfl,Ext.refl h,.nil,rfl,rfl,rfl,rfl,rfl,rfl⟩ ?_
 rintro _ ts _ ⟨k,out,hk,rfl,⟨g,rfl⟩,hfr,hlen,t1,t5,t8,t9,t10⟩;rw[mh ts 23 hlen];by_cases hlt:k<L.length
 ·have e3:(k:Int)<L.length:=Om
  have hvk:=hf L[k] Si;have SC:(L.take (k+1)).filter p=(L.take k).filter p++(if p L[k]=true then [L[k]]else []):=by
   exact Oe
  have Tc:((L.take k).filter p).length<=L.length:=aaz (aav _ _) (by rw[aaw];omega);simp only[aQ,aR,aX,aY,reduceAdd,reduceMul,reduceLeDiff,reduceEqDiff,t1,t5,t8,t9,t10,e3,Z5,hs.dA hlt,hs.kR hlt,cC];refine WF.val (hvk _ (by repeat first|exact Ext.refl _|refine Ext.app _ ?_)) ?_;rintro _ g1 rfl;cases hp:p L[k]with
  |true=>
   rw[hp,ZY rfl]at SC;refine Wn ?_;refine WR.fP (h0:=h) (cs:=((L.take k).filter p).map cC) (ys:=[cC L[k]]) (((hfr.app _).app _).app _) (Fr.push (N:=0) (aam _) [cC L[k]] (by simp[cC])).aO De Si (by simp only[ZU,ZP,ZT];omega) (by simp only[tf]) ?_;intro g' SI hff hkp;have hrow:((L.take k).filter p).map cC++[cC L[k]]=((L.take (k+1)).filter p).map cC:=by rw[SC,ZV];rfl
   exact z6
  |false=>
   exact z37
 ·exact z5
set_option maxRecDepth 10000 in
def r88{L:List (EV)}{s f:AV}(hs:aI h s 5 (L.map EV.row))(ho:∀x∈L,x.sn.one=true/\x.sv.one=true)(hl:L.length<=2^38)(p:(EV)->Bool)(hf:∀x,x∈L->∀k,Ext h k->bH P f [.agg (EV.row x)] k (λv _=>v=.bool (p x))):
  ay P 88 [s,f] h (λv h'=>Fr h.length h' v 5 ((L.filter p).map EV.row)):=by
 refine .of T.mix T.c88 ?_;unfold fn88 gA;refine Ws hs.aL ?_;refine WL.inv T.mix (λn ts h'=>∃(k:Nat) (out:AV),k<=L.length/\n=L.length-k/\Ext h h'/\Fr h.length h' out 5 (((L.take k).filter p).map EV.row)/\ts.length=23/\slot ts 1=f/\slot ts 5=out/\slot ts 8=s/\slot ts 9=.i L.length/\slot ts 10=.i k) L.length
  ⟨0,.af,Om,rfl,Ext.refl h,.nil,rfl,rfl,rfl,rfl,rfl,rfl⟩ ?_
 rintro _ ts _ ⟨k,out,hk,rfl,⟨g,rfl⟩,hfr,hlen,t1,t5,t8,t9,t10⟩;rw[mh ts 23 hlen];by_cases hlt:k<L.length
 ·have e3:(k:Int)<L.length:=Om
  have hvk:=hf L[k] Si;have SC:(L.take (k+1)).filter p=(L.take k).filter p++(if p L[k]=true then [L[k]]else []):=by
   exact Oe
  have Tc:((L.take k).filter p).length<=L.length:=aaz (aav _ _) (by rw[aaw];omega);simp only[aQ,aR,aX,aY,reduceAdd,reduceMul,reduceLeDiff,reduceEqDiff,t1,t5,t8,t9,t10,e3,Z5,hs.dA hlt,hs.kR hlt,EV.row,(ho L[k] Si).1,(ho L[k] Si).2];refine WF.val (hvk _ (by repeat first|exact Ext.refl _|refine Ext.app _ ?_)) ?_;rintro _ g1 rfl;cases hp:p L[k]with
  |true=>
   rw[hp,ZY rfl]at SC;simp only[aQ,aR,aX,aY,reduceAdd,reduceMul,reduceLeDiff,reduceEqDiff,(ho L[k] Si).1,(ho L[k] Si).2];refine WR.fP (h0:=h) (cs:=((L.take k).filter p).map EV.row) (ys:=[EV.row L[k]]) (((hfr.app _).app _).app _) (Fr.push (N:=0) (aam _) [EV.row L[k]] (by simp[EV.row])).aO De Si (by simp only[ZU,ZP,ZT];omega) (by simp only[tf]) ?_;intro g' SI hff hkp;have hrow:((L.take k).filter p).map EV.row++[EV.row L[k]]=((L.take (k+1)).filter p).map EV.row:=by rw[SC,ZV];rfl
   exact z6
  |false=>
   exact z37
 ·exact z5
end
section
variable {P:Program}(T:fD P) {h:ah}
include T
set_option maxRecDepth 10000 in
def r180{L:List (j7×AV)}{s:AV}(hs:aI h s 3 (L.map bt))(he:∀x∈L,aI h x.2 1 (x.1.aH.map ak))(hl:L.length<=2^30)(hle:∀x∈L,x.1.aH.length<=2^40):
  ay P 180 [s,.func (.func 181) [] []] h (λv h'=>∃L':List (j7×AV),L'.map Prod.fst=L.map Prod.fst/\Fr h.length h' v 3 (L'.map bt)/\(∀x∈L',Fr h.length h' x.2 1 (x.1.aH.map ak))/\lR (sB v::L'.map λx=>sB x.2)):=by
 refine .of T.mix T.c180 ?_;unfold fn180 gA;refine Ws hs.aL ?_;refine WL.inv T.mix (λn ts h'=>∃(k:Nat) (out:AV) (L':List (j7×AV)),k<=L.length/\n=L.length-k/\Ext h h'/\L'.map Prod.fst=(L.take k).map Prod.fst/\Fr h.length h' out 3 (L'.map bt)/\(∀x∈L',Fr h.length h' x.2 1 (x.1.aH.map ak))/\lR (sB out::L'.map λx=>sB x.2)/\
   ts.length=22/\slot ts 1=.func (.func 181) [] []/\slot ts 5=out/\slot ts 8=s/\slot ts 9=.i L.length/\slot ts 10=.i k) L.length
  ⟨0,.af,[],Om,rfl,Ext.refl h,rfl,.nil,(λx hx=>by cases hx),abu _ _,rfl,rfl,rfl,rfl,rfl,rfl⟩ ?_
 rintro _ ts _ ⟨k,out,L',hk,rfl,⟨g,rfl⟩,hm,hfr,hin,Tt,hlen,t1,t5,t8,t9,t10⟩;rw[mh ts 22 hlen];have VC:L'.length=k:=by have:=aan List.length hm;simp at this;omega
 by_cases hlt:k<L.length
 ·have e3:(k:Int)<L.length:=Om
  have Yd:=he L[k] Si;have Uf:=hle L[k] Si;have ox:=Yd.one;have fw:∀{kk:ah},Ext h kk->aq (some 3) (cF s 3 k) (λb=>kk[b]?)=some (.agg (bt L[k]),.ar):=λ{kk} e=>hs.kR hlt e
  unfold bt at fw;simp only[aQ,aR,aX,aY,reduceAdd,reduceMul,reduceLeDiff,reduceEqDiff,t1,t5,t8,t9,t10,e3,Z5,hs.dA hlt,fw,ox];have hown:=λkk (e:Ext h kk)=>r181 T (h:=kk) L[k] (Yd.ext e) Uf
  unfold bt at hown;refine WF.res T.c181 (hown _ (by repeat first|exact Ext.refl _|refine Ext.app _ ?_)) ?_;rintro _ g1 ⟨s',rfl,Zy⟩;have os:=Zy.aO.one;refine Ws @os ?_;refine WR.fP (h0:=h) (cs:=L'.map bt) (ys:=[bt (L[k].1,s')]) ((((hfr.app _).app _).app _)) (Fr.push (N:=0) (aam _) [bt (L[k].1,s')] (by simp[bt])).aO De Si (by simp only[ZU,ZP,ZT];omega) (by simp only[tf]) ?_;intro g' SI hff hkp;have hrow:L'.map bt++[bt (L[k].1,s')]=(L'++[(L[k].1,s')]).map bt:=by rw[ZV];rfl
  exact z2
 ·exact Oi
set_option maxRecDepth 10000 in
def r182{L:List (jc×AV)}{s:AV}(hs:aI h s 4 (L.map bf))(he:∀x∈L,aI h x.2 1 (x.1.bA.map ak))(hl:L.length<=2^30)(hle:∀x∈L,x.1.bA.length<=2^40):
  ay P 182 [s,.func (.func 183) [] []] h (λv h'=>∃L':List (jc×AV),L'.map Prod.fst=L.map Prod.fst/\Fr h.length h' v 4 (L'.map bf)/\(∀x∈L',Fr h.length h' x.2 1 (x.1.bA.map ak))/\lR (sB v::L'.map λx=>sB x.2)):=by
 refine .of T.mix T.c182 ?_;unfold fn182 gA;refine Ws hs.aL ?_;refine WL.inv T.mix (λn ts h'=>∃(k:Nat) (out:AV) (L':List (jc×AV)),k<=L.length/\n=L.length-k/\Ext h h'/\L'.map Prod.fst=(L.take k).map Prod.fst/\Fr h.length h' out 4 (L'.map bf)/\(∀x∈L',Fr h.length h' x.2 1 (x.1.bA.map ak))/\lR (sB out::L'.map λx=>sB x.2)/\
   ts.length=22/\slot ts 1=.func (.func 183) [] []/\slot ts 5=out/\slot ts 8=s/\slot ts 9=.i L.length/\slot ts 10=.i k) L.length
  ⟨0,.af,[],Om,rfl,Ext.refl h,rfl,.nil,(λx hx=>by cases hx),abu _ _,rfl,rfl,rfl,rfl,rfl,rfl⟩ ?_
 rintro _ ts _ ⟨k,out,L',hk,rfl,⟨g,rfl⟩,hm,hfr,hin,Tt,hlen,t1,t5,t8,t9,t10⟩;rw[mh ts 22 hlen];have VC:L'.length=k:=by have:=aan List.length hm;simp at this;omega
 by_cases hlt:k<L.length
 ·have e3:(k:Int)<L.length:=Om
  have Yd:=he L[k] Si;have Uf:=hle L[k] Si;have ox:=Yd.one;have fw:∀{kk:ah},Ext h kk->aq (some 4) (cF s 4 k) (λb=>kk[b]?)=some (.agg (bf L[k]),.ar):=λ{kk} e=>hs.kR hlt e
  unfold bf at fw;simp only[aQ,aR,aX,aY,reduceAdd,reduceMul,reduceLeDiff,reduceEqDiff,t1,t5,t8,t9,t10,e3,Z5,hs.dA hlt,fw,ox];have hown:=λkk (e:Ext h kk)=>r183 T (h:=kk) L[k] (Yd.ext e) Uf
  unfold bf at hown;refine WF.res T.c183 (hown _ (by repeat first|exact Ext.refl _|refine Ext.app _ ?_)) ?_;rintro _ g1 ⟨s',rfl,Zy⟩;have os:=Zy.aO.one;refine Ws @os ?_;refine WR.fP (h0:=h) (cs:=L'.map bf) (ys:=[bf (L[k].1,s')]) ((((hfr.app _).app _).app _)) (Fr.push (N:=0) (aam _) [bf (L[k].1,s')] (by simp[bf])).aO De Si (by simp only[ZU,ZP,ZT];omega) (by simp only[tf]) ?_;intro g' SI hff hkp;have hrow:L'.map bf++[bf (L[k].1,s')]=(L'++[(L[k].1,s')]).map bf:=by rw[ZV];rfl
  exact z2
 ·exact Oi
set_option maxRecDepth 10000 in
def r184{L:List (kI×AV)}{s:AV}(hs:aI h s 3 (L.map bO))(he:∀x∈L,aI h x.2 1 (x.1.bz.map aJ))(hl:L.length<=2^30)(hle:∀x∈L,x.1.bz.length<=2^40):
  ay P 184 [s,.func (.func 185) [] []] h (λv h'=>∃L':List (kI×AV),L'.map Prod.fst=L.map Prod.fst/\Fr h.length h' v 3 (L'.map bO)/\(∀x∈L',Fr h.length h' x.2 1 (x.1.bz.map aJ))/\lR (sB v::L'.map λx=>sB x.2)):=by
 refine .of T.mix T.c184 ?_;unfold fn184 gA;refine Ws hs.aL ?_;refine WL.inv T.mix (λn ts h'=>∃(k:Nat) (out:AV) (L':List (kI×AV)),k<=L.length/\n=L.length-k/\Ext h h'/\L'.map Prod.fst=(L.take k).map Prod.fst/\Fr h.length h' out 3 (L'.map bO)/\(∀x∈L',Fr h.length h' x.2 1 (x.1.bz.map aJ))/\lR (sB out::L'.map λx=>sB x.2)/\
   ts.length=22/\slot ts 1=.func (.func 185) [] []/\slot ts 5=out/\slot ts 8=s/\slot ts 9=.i L.length/\slot ts 10=.i k) L.length
  ⟨0,.af,[],Om,rfl,Ext.refl h,rfl,.nil,(λx hx=>by cases hx),abu _ _,rfl,rfl,rfl,rfl,rfl,rfl⟩ ?_
 rintro _ ts _ ⟨k,out,L',hk,rfl,⟨g,rfl⟩,hm,hfr,hin,Tt,hlen,t1,t5,t8,t9,t10⟩;rw[mh ts 22 hlen];have VC:L'.length=k:=by have:=aan List.length hm;simp at this;omega
 by_cases hlt:k<L.length
 ·have e3:(k:Int)<L.length:=Om
  have Yd:=he L[k] Si;have Uf:=hle L[k] Si;have ox:=Yd.one;have fw:∀{kk:ah},Ext h kk->aq (some 3) (cF s 3 k) (λb=>kk[b]?)=some (.agg (bO L[k]),.ar):=λ{kk} e=>hs.kR hlt e
  unfold bO at fw;simp only[aQ,aR,aX,aY,reduceAdd,reduceMul,reduceLeDiff,reduceEqDiff,t1,t5,t8,t9,t10,e3,Z5,hs.dA hlt,fw,ox];have hown:=λkk (e:Ext h kk)=>r185 T (h:=kk) L[k] (Yd.ext e) Uf
  unfold bO at hown;refine WF.res T.c185 (hown _ (by repeat first|exact Ext.refl _|refine Ext.app _ ?_)) ?_;rintro _ g1 ⟨s',rfl,Zy⟩;have os:=Zy.aO.one;refine Ws @os ?_;refine WR.fP (h0:=h) (cs:=L'.map bO) (ys:=[bO (L[k].1,s')]) ((((hfr.app _).app _).app _)) (Fr.push (N:=0) (aam _) [bO (L[k].1,s')] (by simp[bO])).aO De Si (by simp only[ZU,ZP,ZT];omega) (by simp only[tf]) ?_;intro g' SI hff hkp;have hrow:L'.map bO++[bO (L[k].1,s')]=(L'++[(L[k].1,s')]).map bO:=by rw[ZV];rfl
  exact z2
 ·exact Oi
end
theorem aC.row{h V}(o:aC h V):V.row.all AV.one=true:=by
 simp only[RV.row,DP,DO,CM,o.i0.one,o.i1.one,o.i2.one,o.i3.one,o.i4.one,o.i5.one,Bool.and_self]
def aC.box{h V}(o:aC h V){N}:nK (.agg V.row) N=some (.ptr N 0,.push (.cells V.row true false)):=by
 have:(AV.agg V.row).cells=V.row:=rfl;simp only[nK,this,o.row,Z7]
def rG{V:RV}:V.row[0]? =some (.int .i64 V.tick):=rfl
def gG{V:RV}:V.row[1]? =some (V.s0):=rfl
def lT{V:RV}:V.row[2]? =some (V.s1):=rfl
def fG{V:RV}:V.row[3]? =some (V.s2):=rfl
def gF{V:RV}:V.row[4]? =some (V.s3):=rfl
def gq{V:RV}:V.row[5]? =some (V.s4):=rfl
def gE{V:RV}:V.row[6]? =some (V.s5):=rfl
def aE{V:RV}{mu tl:Bool}:dK (some 7) 0 (.cells V.row mu tl)=some (.agg V.row,.ar):=rfl
def lR.app{l m}(hl:lR l)(hm:lR m)(h:∀x∈l,∀y∈m,∀b,x=some b->y≠some b):lR (l++m):=aa1.2 ⟨hl,hm,h⟩
def lR.one{x}:lR [x]:=abu _ _
theorem lR.perm{l m}(hl:lR l)(h:l.Perm m):lR m:=List.Pairwise.perm hl h λ{x y} hxy b hy hx=>hxy b hx hy
def my{n z}:eC n z=(List.replicate n z).flatten:=by
 induction n with
 |zero=>rfl
 |succ n ih=>rw[BK,abr,aa0,ih]
def El{h X:ah}{A B B':an}{b:Nat}(hb:h.length+2<=b):(h++([A]++([B']++X)))[b]? =(h++([A]++([B]++X)))[b]? :=by
 have e:∀C:an,(h++([A]++([C]++X)))[b]? =X[b-h.length-1-1]? :=λC=>by
  rw[Z1 Om,Z1 (by simp only[Z6];omega),Z1 (by simp only[Z6];omega)];rfl
 rw[e,e]
theorem cP.low{N M h V}(o:cP N h V)(hM:M<=N):cP M h V:=
 ⟨o.i0.low hM,o.i1.low hM,o.i2.low hM,o.i3.low hM,o.i4.low hM,o.i5.low hM,λx hx=>(o.e2 x hx).low hM,λx hx=>(o.e3 x hx).low hM,λx hx=>(o.e4 x hx).low hM,o.di⟩
def cP.eO{N h V}(o:cP N h V){b}(hb:some b∈V.bl):N<=b/\b<h.length:=by
 simp only[RV.bl,ZX,aap,aal,aaI,abm]at hb;rcases hb with((hb|⟨x,hx,hb⟩)|⟨x,hx,hb⟩)|⟨x,hx,hb⟩
 ·rcases hb with hb|hb|hb|hb|hb|hb
  ·exact o.i0.bB hb.symm
  ·exact o.i1.bB hb.symm
  ·exact o.i2.bB hb.symm
  ·exact o.i3.bB hb.symm
  ·exact o.i4.bB hb.symm
  ·exact o.i5.bB hb.symm
 ·exact(o.e2 x hx).bB hb
 ·exact(o.e3 x hx).bB hb
 ·exact(o.e4 x hx).bB hb
theorem rK:∀{l m:List (By)},l.Nodup->(∀x∈l,x∈m)->l.length<=m.length
 |[],_,_,_=>aam _
 |x::l,m,hn,hs=>by
  have h1:=acm.1 hn;have hx:=hs x Si;have:=rK (m:=m.erase x) h1.2 λy hy=>(List.mem_erase_of_ne (λ(e:y=x)=>h1.1 (by rw[<-e];exact hy))).2 (hs y (aao _ hy))
  rw[List.length_erase_of_mem hx]at this;have hp:=List.length_pos_of_mem hx;simp only[ZP];omega
inductive Lay:Nat->Nat->List (Option Nat)->Prop
 |nil {a:Nat}:Lay a a []
 |cons {a b c:Nat}{l m:List (Option Nat)}(hab:a<=b) (hl:lR l) (hin:∀x,some x∈l->a<=x/\x<b) (r:Lay b c m):Lay a c (l++m)
def Lay.le{a c l}(h:Lay a c l):a<=c:=by
 induction h with
 |nil=>exact Z0 _
 |cons hab _ _ _ ih=>omega
def Lay.mem{a c l}(h:Lay a c l):∀x,some x∈l->a<=x/\x<c:=by
 induction h with
 |nil=>intro x hx;cases hx
 |cons hab _ hin r ih=>
  intro x hx;have:=r.le;rcases ZX.1 hx with hx|hx
  ·have:=hin x hx;omega
  ·have:=ih x hx;omega
def Lay.Sa{a c l}(h:Lay a c l):lR l:=by
 induction h with
 |nil=>exact List.Pairwise.nil
 |cons hab hl hin r ih=>
  refine hl.app ih λx hx y hy b hb Vs=>?_
  subst hb;have h1:=hin b hx;rw[Vs]at hy;have h2:=r.mem b hy;omega
def M4{N h s es cs}(hs:Fr N h s es cs):∀x,some x∈[sB s]->N<=x/\x<h.length:=by
 intro x hx;rw[Z9]at hx;exact hs.bB hx.symm
set_option maxRecDepth 10000
section
variable {P:Program}(T:fD P) {h:ah}
include T
def r96{V:RV}(o:aC h V)(w:fQ V.ao):ay P 96 [.agg V.row] h (λv h'=>∃V':RV,V'.ao=V.ao/\v=.agg V'.row/\cP h.length h' V'):=by
 refine .of T.mix T.c96 ?_;obtain⟨ts,Sv⟩:∃ts,ts=aU 38 [.agg V.row]:=⟨_,rfl⟩;have hlen:ts.length=38:=by rw[Sv];rfl
 have t0:slot ts 0=.agg V.row:=by rw[Sv];rfl
 unfold fn96;show WC P bL _ [] (aU 38 [.agg V.row]) h _;rw[<-Sv];clear Sv;have Su:=@aC.box _ _ o;have n0:V.lines.length<=16:=w.l0;have n5:V.aK.length<=16:=w.l5;have n1:V.aH.length<=16:=w.l1;have n2:V.aj.length<=64:=by have:=w.l2;simpa [RV.ao]using this
 have n3:V.aD.length<=32:=by have:=w.l3;simpa [RV.ao]using this
 have n4:V.aG.length<=16:=by have:=w.l4;simpa [RV.ao]using this
 have mk0:∀{N:Nat},tU 3 32 [AV.str [],.int .i64 0,.bool false] (.int .i64 (V.lines.length:Int)) (.int .i64 (V.lines.length:Int)) N=some (.slice N 0 V.lines.length 3,.push (.cells (eC V.lines.length [AV.str [],.int .i64 0,.bool false]) true true)):=oA Om Om;have mk5:∀{N:Nat},tU 4 48 [AV.str [],.str [],.int .i64 0,.bool false] (.int .i64 (V.aK.length:Int)) (.int .i64 (V.aK.length:Int)) N=some (.slice N 0 V.aK.length 4,.push (.cells (eC V.aK.length [AV.str [],.str [],.int .i64 0,.bool false]) true true)):=oA Om Om;refine Rs (A8 t0 @Su @gG @gE o.i0.aL o.i5.aL @mk0 @mk5) ?_
 have z0:(eC V.lines.length [AV.str [],.int .i64 0,.bool false])=(List.replicate V.lines.length [AV.str [],.int .i64 0,.bool false]).flatten:=my;have z5:(eC V.aK.length [AV.str [],.str [],.int .i64 0,.bool false])=(List.replicate V.aK.length [AV.str [],.str [],.int .i64 0,.bool false]).flatten:=my;obtain⟨B,hB⟩:∃B,B=an.cells [AV.int .i64 0,.af,.af,.af,.af,.af,.af] true false:=⟨_,rfl⟩;rw[<-hB];have f0:Fr (h++[an.cells V.row true false]++[B]).length (h++[an.cells V.row true false]++[B]++([an.cells (eC V.lines.length [AV.str [],.int .i64 0,.bool false]) true true]++[an.cells (eC V.aK.length [AV.str [],.str [],.int .i64 0,.bool false]) true true])) (.slice (h++[an.cells V.row true false]++[B]).length 0 V.lines.length 3) 3 (List.replicate V.lines.length [AV.str [],.int .i64 0,.bool false]):=by
  rw[<-ZO];exact(Fr.BM (Z0 _) rfl).app _
 have f5:Fr (h++[an.cells V.row true false]++[B]).length (h++[an.cells V.row true false]++[B]++([an.cells (eC V.lines.length [AV.str [],.int .i64 0,.bool false]) true true]++[an.cells (eC V.aK.length [AV.str [],.str [],.int .i64 0,.bool false]) true true])) (.slice (h++[an.cells V.row true false]++[B]++[an.cells (eC V.lines.length [AV.str [],.int .i64 0,.bool false]) true true]).length 0 V.aK.length 4) 4 (List.replicate V.aK.length [AV.str [],.str [],.int .i64 0,.bool false]):=by
  rw[<-ZO];exact Fr.BM Si rfl
 obtain⟨Z,hZ⟩:∃Z,Z=([an.cells (eC V.lines.length [AV.str [],.int .i64 0,.bool false]) true true]++[an.cells (eC V.aK.length [AV.str [],.str [],.int .i64 0,.bool false]) true true]):=⟨_,rfl⟩;have hZl:Z.length=2:=by rw[hZ];rfl
 have el5:(h++[an.cells V.row true false]++[B]++[an.cells (eC V.lines.length [AV.str [],.int .i64 0,.bool false]) true true]).length=(h++[an.cells V.row true false]++[B]).length+1:=Si
 rw[ZO (h++[an.cells V.row true false]++[B]),<-hZ];rw[<-hZ,el5]at f5;rw[<-hZ]at f0;rw[el5];clear hZ;refine WR.Nj (h0:=h++[an.cells V.row true false]++[B]) (g:=Z) (Sq t0) (Sq t0) f0 (o.i0.ext Xx) Si ?_;intro g1 _ Xv hf0 hk0;have Xy:=f5.aB (k:=h++[an.cells V.row true false]++[B]++g1) λb hb=>hk0 b λb0 o n e he=>by cases he;cases hb;omega
 refine Rs (A2 t0 @gE) ?_;refine WR.Nj (h0:=h++[an.cells V.row true false]++[B]) (g:=g1) (Sq t0) (Sq t0) Xy (o.i5.ext Xx) Si ?_;intro g2 _ hl2 hf5' hk5;have hf0':=hf0.aB (k:=h++[an.cells V.row true false]++[B]++g2) λb hb=>hk5 b λb0 o n e he=>by cases he;cases hb;omega
 have WT:g2.length=2:=Om
 refine Rs (A3 t0 @rG @lT) ?_;refine WF.res T.c179 (r179 T (o.i1.ext Xx) (by simp;omega)) ?_;rintro s1 c1 q1;refine Rs (A2 t0 @fG) ?_;refine WF.res T.c180 (r180 T (o.i2.ext Xx) (λx hx=>(o.e2 x hx).ext Xx) Om (λx hx=>?_)) ?_
 ·have:=(w.sh x.1 (aah hx)).2.2;have hle:=rK this.1 (λt ht=>this.2 t ht);have Xv:(kB V.ao).length=V.aH.length:=by simp[kB,RV.ao]
  omega
 rintro s2 c2 ⟨L2,m2,q2,q2e,q2d⟩;refine Rs (A2 t0 @gF) ?_;refine WF.res T.c182 (r182 T (o.i3.ext Xx) (λx hx=>(o.e3 x hx).ext Xx) Om (λx hx=>by have:=(w.md x.1 (aah hx)).2.1;omega)) ?_;rintro s3 c3 ⟨L3,m3,q3,q3e,q3d⟩;refine Rs (A2 t0 @gq) ?_;refine WF.res T.c184 (r184 T (o.i4.ext Xx) (λx hx=>(o.e4 x hx).ext Xx) Om (λx hx=>by have:=(w.jb x.1 (aah hx)).2.2.1;omega)) ?_;rintro s4 c4 ⟨L4,m4,q4,q4e,q4d⟩;refine Rs (A6 t0 q1.aO.one q2.aO.one q3.aO.one q4.aO.one @hB) ?_;refine⟨⟨V.tick,V.lines,V.aH,L2,L3,L4,V.aK,.slice (h++[an.cells V.row true false]++[B]).length 0 V.lines.length 3,s1,s2,s3,s4,.slice ((h++[an.cells V.row true false]++[B]).length+1) 0 V.aK.length 4⟩,?_,?_,?_⟩
 ·simp only[RV.ao,m2,m3,m4]
 ·rw[<-hB];rfl
 obtain⟨H,hH⟩:∃H,H=h++[an.cells V.row true false]++[B]:=⟨_,rfl⟩;have Wd:h.length<=H.length:=by rw[hH];simp
 rw[<-hH]at hf0' hf5' q1 q2 q2e q3 q3e q4 q4e;have own:cP H.length (H++g2++c1++c2++c3++c4) ⟨V.tick,V.lines,V.aH,L2,L3,L4,V.aK,.slice H.length 0 V.lines.length 3,s1,s2,s3,s4,.slice (H.length+1) 0 V.aK.length 4⟩:=by
  have n0:V.lines.length=(V.lines.map cC).length:=Si
  have n5:V.aK.length=(V.aK.map dG).length:=Si
  refine⟨(((hf0'.app _).app _).app _).app _,?_,?_,?_,?_,(((hf5'.app _).app _).app _).app _,?_,?_,?_,?_⟩
  ·exact(((q1.app _).app _).app _).low Si
  ·exact((q2.app _).app _).low (by simp only[ZL];omega)
  ·exact(q3.app _).low (by simp only[ZL];omega)
  ·exact q4.low (by simp only[ZL];omega)
  ·exactλx hx=>(((q2e x hx).app _).app _).low (by simp only[ZL];omega)
  ·exactλx hx=>((q3e x hx).app _).low (by simp only[ZL];omega)
  ·exactλx hx=>(q4e x hx).low (by simp only[ZL];omega)
  ·have lay:Lay H.length (H++g2++c1++c2++c3++c4).length ([some H.length]++([some (H.length+1)]++([sB s1]++((sB s2::L2.map λx=>sB x.2)++((sB s3::L3.map λx=>sB x.2)++((sB s4::L4.map λx=>sB x.2)++[])))))):=by
    refine .cons (b:=H.length+1) Om .one (λx hx=>by simp at hx;omega) ?_;refine .cons (b:=(H++g2).length) (by simp only[ZL];omega) .one (λx hx=>by simp at hx;simp only[ZL];omega) ?_;refine .cons (b:=(H++g2++c1).length) (by simp only[ZL];omega) .one (M4 q1) ?_;refine .cons (b:=(H++g2++c1++c2).length) (by simp only[ZL];omega) q2d (λx hx=>?_) ?_
    ·rcases aap.1 hx with hx|hx
     ·exact q2.bB hx.symm
     ·obtain⟨y,hy,VF⟩:=aal.1 hx;exact(q2e y hy).bB VF
    refine .cons (b:=(H++g2++c1++c2++c3).length) (by simp only[ZL];omega) q3d (λx hx=>?_) ?_
    ·rcases aap.1 hx with hx|hx
     ·exact q3.bB hx.symm
     ·obtain⟨y,hy,VF⟩:=aal.1 hx;exact(q3e y hy).bB VF
    refine .cons (b:=(H++g2++c1++c2++c3++c4).length) (by simp only[ZL];omega) q4d (λx hx=>?_) .nil;rcases aap.1 hx with hx|hx
    ·exact q4.bB hx.symm
    ·obtain⟨y,hy,VF⟩:=aal.1 hx;exact(q4e y hy).bB VF
   refine lay.Sa.perm (List.perm_iff_count.2 λa=>?_);simp only[RV.bl,sB,List.count_append,List.count_cons,List.count_nil,aaD,ach]
   ac_rfl
 rw[hH]at own Wd;refine(own.low Wd).ar λb hb=>?_
 have hbN:=(own.eO hb).1;simp only[ZO];exact El (by simpa using hbN)
end
def aC.jT{h V}(o:aC h V):(∀x∈V.aj,x.2.one=true)/\(∀x∈V.aD,x.2.one=true)/\(∀x∈V.aG,x.2.one=true):=
 ⟨λx hx=>(o.e2 x hx).one,λx hx=>(o.e3 x hx).one,λx hx=>(o.e4 x hx).one⟩
structure fp(V:RV):Prop where
 l0:V.lines.length<2^30
 l1:V.aH.length<2^30
 l2:V.aj.length<2^30
 l3:V.aD.length<2^30
 l4:V.aG.length<2^30
 l5:V.aK.length<2^30
def fQ.len{V}(w:fQ V.ao):fp V:=by
 have h0:=w.l0;have h1:=w.l1;have h2:=w.l2;have h3:=w.l3;have h4:=w.l4;have h5:=w.l5;simp only[RV.ao,ZU]at h0 h1 h2 h3 h4 h5;exact⟨Om,Om,Om,Om,Om,Om⟩
def jh{V:RV}:k5 V.ao=V.aj.map λx=>x.1.name:=by simp[k5,RV.ao,ab8]
def ji{V:RV}:iS V.ao=V.aD.map λx=>x.1.name:=by simp[iS,RV.ao,ab8]
def gK{V:RV}:gD V.ao=V.aG.map λx=>x.1.name:=by simp[gD,RV.ao,ab8]
section
variable {P:Program}(T:fD P) {h:ah}
include T
def r205{V}(o:aC h V)(l:fp V){n}(hn:n∈gC V.ao):ay P 205 [.agg V.row,.str n] h (λv _=>v=.agg (cC (du V.ao n))):=by
 refine .fo 13 T.mix T.c205 ?_;intro ts hlen t0 t1;unfold fn205 gA;have Su:=@aC.box _ _ o;have hlt:aW (gC V.ao) n<V.lines.length:=by have:=cL hn;simpa [gC,RV.ao]using this
 have ei:de (λx:iH=>decide (x.name=n)) V.lines=(aW (gC V.ao) n:Int):=eS (f:=iH.name) hn;have ix:aV 3 V.s0 (.i (aW (gC V.ao) n:Int))=some (cF V.s0 3 (aW (gC V.ao) n),.ar):=o.i0.dA hlt;have ld:∀{k:ah},Ext h k->aq (some 3) (cF V.s0 3 (aW (gC V.ao) n)) (λb=>k[b]?)=some (.agg (cC (V.lines[aW (gC V.ao) n])),.ar):=λ{k} e=>o.i0.kR hlt e
 have sp:du V.ao n=V.lines[aW (gC V.ao) n]:=cS hn;rw[sp];unfold cC at ld ⊢;refine Rs (A4 t0 t1 @Su @gG) ?_;refine WF.ce T.c142 (r142 T (o.i0.ext Xx) (by have:=l.l0;omega) n) λg1=>?_
 exact z130
def r134{V}(o:aC h V)(l:fp V){n}(hn:n∈kB V.ao):ay P 134 [.agg V.row,.str n] h (λv _=>v=.agg (eP (kh V.ao n))):=by
 refine .fo 13 T.mix T.c134 ?_;intro ts hlen t0 t1;unfold fn134 gA;have Su:=@aC.box _ _ o;have hlt:aW (kB V.ao) n<V.aH.length:=by have:=cL hn;simpa [kB,RV.ao]using this
 have ei:de (λx:sQ=>decide (x.name=n)) V.aH=(aW (kB V.ao) n:Int):=eS (f:=sQ.name) hn;have ix:aV 2 V.s1 (.i (aW (kB V.ao) n:Int))=some (cF V.s1 2 (aW (kB V.ao) n),.ar):=o.i1.dA hlt;have ld:∀{k:ah},Ext h k->aq (some 2) (cF V.s1 2 (aW (kB V.ao) n)) (λb=>k[b]?)=some (.agg (eP (V.aH[aW (kB V.ao) n])),.ar):=λ{k} e=>o.i1.kR hlt e
 have sp:kh V.ao n=V.aH[aW (kB V.ao) n]:=cS hn;rw[sp];unfold eP at ld ⊢;refine Rs (A4 t0 t1 @Su @lT) ?_;refine WF.ce T.c143 (r143 T (o.i1.ext Xx) (by have:=l.l1;omega) n) λg1=>?_
 exact z130
def r77{V:RV}(o:aC h V)(l:fp V){n:By}(hn:n∈k5 V.ao):ay P 77 [.agg V.row,.str n] h (λv _=>∃x∈V.aj,x.1=nW V.ao n/\v=.agg (bt x)):=by
 refine .fo 13 T.mix T.c77 ?_;intro ts hlen t0 t1;unfold fn77 gA;have Su:=@aC.box _ _ o;have hlt:aW (k5 V.ao) n<V.aj.length:=by have:=cL hn;simpa [k5,RV.ao]using this
 have ei:de (λx:j7×AV=>decide (x.1.name=n)) V.aj=(aW (k5 V.ao) n:Int):=(eS (f:=λx:j7×AV=>x.1.name) (by rw[<-jh];exact hn)).trans (by rw[jh]);have ix:aV 3 V.s2 (.i (aW (k5 V.ao) n:Int))=some (cF V.s2 3 (aW (k5 V.ao) n),.ar):=o.i2.dA hlt;have ld:∀{k:ah},Ext h k->aq (some 3) (cF V.s2 3 (aW (k5 V.ao) n)) (λb=>k[b]?)=some (.agg (bt (V.aj[aW (k5 V.ao) n])),.ar):=λ{k} e=>o.i2.kR hlt e
 have sp:(V.aj[aW (k5 V.ao) n]).1=nW V.ao n:=by
  have:=cS (f:=j7.name) (l:=V.ao.aj) (n:=n) (d:=CP) hn;rw[show nW V.ao n=_ from this];exact Ed
 have on:=o.jT.1 (V.aj[aW (k5 V.ao) n]) (ZZ _);have Ua:V.aj[aW (k5 V.ao) n]∈V.aj:=ZZ _;generalize V.aj[aW (k5 V.ao) n]=x at *;unfold bt at ld ⊢;refine Rs (A4 t0 t1 @Su @fG) ?_;refine WF.ce T.c136 (r136 T (o.i2.ext Xx) o.jT.1 (by have:=l.l2;omega) n) λg1=>?_
 exact HK
def r245{V:RV}(o:aC h V)(l:fp V){n:By}(hn:n∈iS V.ao):ay P 245 [.agg V.row,.str n] h (λv _=>∃x∈V.aD,x.1=iK V.ao n/\v=.agg (bf x)):=by
 refine .fo 13 T.mix T.c245 ?_;intro ts hlen t0 t1;unfold fn245 gA;have Su:=@aC.box _ _ o;have hlt:aW (iS V.ao) n<V.aD.length:=by have:=cL hn;simpa [iS,RV.ao]using this
 have ei:de (λx:jc×AV=>decide (x.1.name=n)) V.aD=(aW (iS V.ao) n:Int):=(eS (f:=λx:jc×AV=>x.1.name) (by rw[<-ji];exact hn)).trans (by rw[ji]);have ix:aV 4 V.s3 (.i (aW (iS V.ao) n:Int))=some (cF V.s3 4 (aW (iS V.ao) n),.ar):=o.i3.dA hlt;have ld:∀{k:ah},Ext h k->aq (some 4) (cF V.s3 4 (aW (iS V.ao) n)) (λb=>k[b]?)=some (.agg (bf (V.aD[aW (iS V.ao) n])),.ar):=λ{k} e=>o.i3.kR hlt e
 have sp:(V.aD[aW (iS V.ao) n]).1=iK V.ao n:=by
  have:=cS (f:=jc.name) (l:=V.ao.aD) (n:=n) (d:=CQ) hn;rw[show iK V.ao n=_ from this];exact Ed
 have on:=o.jT.2.1 (V.aD[aW (iS V.ao) n]) (ZZ _);have Ua:V.aD[aW (iS V.ao) n]∈V.aD:=ZZ _;generalize V.aD[aW (iS V.ao) n]=x at *;unfold bf at ld ⊢;refine Rs (A4 t0 t1 @Su @gF) ?_;refine WF.ce T.c144 (r144 T (o.i3.ext Xx) o.jT.2.1 (by have:=l.l3;omega) n) λg1=>?_
 exact HK
def r124{V:RV}(o:aC h V)(l:fp V){n:By}(hn:n∈gD V.ao):ay P 124 [.agg V.row,.str n] h (λv _=>∃x∈V.aG,x.1=gj V.ao n/\v=.agg (bO x)):=by
 refine .fo 13 T.mix T.c124 ?_;intro ts hlen t0 t1;unfold fn124 gA;have Su:=@aC.box _ _ o;have hlt:aW (gD V.ao) n<V.aG.length:=by have:=cL hn;simpa [gD,RV.ao]using this
 have ei:de (λx:kI×AV=>decide (x.1.name=n)) V.aG=(aW (gD V.ao) n:Int):=(eS (f:=λx:kI×AV=>x.1.name) (by rw[<-gK];exact hn)).trans (by rw[gK]);have ix:aV 3 V.s4 (.i (aW (gD V.ao) n:Int))=some (cF V.s4 3 (aW (gD V.ao) n),.ar):=o.i4.dA hlt;have ld:∀{k:ah},Ext h k->aq (some 3) (cF V.s4 3 (aW (gD V.ao) n)) (λb=>k[b]?)=some (.agg (bO (V.aG[aW (gD V.ao) n])),.ar):=λ{k} e=>o.i4.kR hlt e
 have sp:(V.aG[aW (gD V.ao) n]).1=gj V.ao n:=by
  have:=cS (f:=kI.name) (l:=V.ao.aG) (n:=n) (d:=wD) hn;rw[show gj V.ao n=_ from this];exact Ed
 have on:=o.jT.2.2 (V.aG[aW (gD V.ao) n]) (ZZ _);have Ua:V.aG[aW (gD V.ao) n]∈V.aG:=ZZ _;generalize V.aG[aW (gD V.ao) n]=x at *;unfold bO at ld ⊢;refine Rs (A4 t0 t1 @Su @gq) ?_;refine WF.ce T.c145 (r145 T (o.i4.ext Xx) o.jT.2.2 (by have:=l.l4;omega) n) λg1=>?_
 exact HK
def r218{V}(o:aC h V)(l:fp V){n}(hn:n∈j8 V.ao):ay P 218 [.agg V.row,.str n] h (λv _=>v=.agg (dG (iQ V.ao n))):=by
 refine .fo 13 T.mix T.c218 ?_;intro ts hlen t0 t1;unfold fn218 gA;have Su:=@aC.box _ _ o;have hlt:aW (j8 V.ao) n<V.aK.length:=by have:=cL hn;simpa [j8,RV.ao]using this
 have ei:de (λx:pI=>decide (x.name=n)) V.aK=(aW (j8 V.ao) n:Int):=eS (f:=pI.name) hn;have ix:aV 4 V.s5 (.i (aW (j8 V.ao) n:Int))=some (cF V.s5 4 (aW (j8 V.ao) n),.ar):=o.i5.dA hlt;have ld:∀{k:ah},Ext h k->aq (some 4) (cF V.s5 4 (aW (j8 V.ao) n)) (λb=>k[b]?)=some (.agg (dG (V.aK[aW (j8 V.ao) n])),.ar):=λ{k} e=>o.i5.kR hlt e
 have sp:iQ V.ao n=V.aK[aW (j8 V.ao) n]:=cS hn;rw[sp];unfold dG at ld ⊢;refine Rs (A4 t0 t1 @Su @gE) ?_;refine WF.ce T.c146 (r146 T (o.i5.ext Xx) (by have:=l.l5;omega) n) λg1=>?_
 exact z130
def MW{V}(o:aC h V)(l:fp V)(n:By):ay P 86 [.agg V.row,.i 0,.str n] h (λv _=>v=.bool (eo V.ao 0 n)):=by
 refine .nT 47 T.mix T.c86 ?_;intro ts hlen t0 t1 t2;unfold fn86;have Su:=@aC.box _ _ o;have eh:eo V.ao 0 n=decide (0<=de (λx=>decide (x.name=n)) V.lines):=(gk (f:=iH.name)).symm;rw[eh]
 skip
 refine Rs (A7 t0 t1 t2 @Su @gG @Z5 @aac) ?_;refine WF.ce T.c142 (r142 T (o.i0.ext Xx) (by have:=l.l0;omega) n) λg1=>?_
 exact GN
def MV{V}(o:aC h V)(l:fp V)(n:By):ay P 86 [.agg V.row,.i 1,.str n] h (λv _=>v=.bool (eo V.ao 1 n)):=by
 refine .nT 47 T.mix T.c86 ?_;intro ts hlen t0 t1 t2;unfold fn86;have Su:=@aC.box _ _ o;have eh:eo V.ao 1 n=decide (0<=de (λx=>decide (x.name=n)) V.aH):=(gk (f:=sQ.name)).symm;rw[eh]
 skip
 have d0:((1:Int)=0)=False:=abn De;refine Rs (A8 t0 t1 t2 @Su @lT @Z5 @aac @d0) ?_;refine WF.ce T.c143 (r143 T (o.i1.ext Xx) (by have:=l.l1;omega) n) λg1=>?_
 exact GN
def MU{V:RV}(o:aC h V)(l:fp V)(n:By):ay P 86 [.agg V.row,.i 2,.str n] h (λv _=>v=.bool (eo V.ao 2 n)):=by
 refine .nT 47 T.mix T.c86 ?_;intro ts hlen t0 t1 t2;unfold fn86;have Su:=@aC.box _ _ o;have eh:eo V.ao 2 n=decide (0<=de (λx=>decide (x.1.name=n)) V.aj):=by
  rw[gk (f:=λx:j7×AV=>x.1.name),<-jh];rfl
 rw[eh]
 skip
 have d0:((2:Int)=0)=False:=abn De;have d1:((2:Int)=1)=False:=abn De;refine Rs (A9 t0 t1 t2 @Su @fG @Z5 @aac @d0 @d1) ?_;refine WF.ce T.c136 (r136 T (o.i2.ext Xx) o.jT.1 (by have:=l.l2;omega) n) λg1=>?_
 exact GN
def MT{V:RV}(o:aC h V)(l:fp V)(n:By):ay P 86 [.agg V.row,.i 3,.str n] h (λv _=>v=.bool (eo V.ao 3 n)):=by
 refine .nT 47 T.mix T.c86 ?_;intro ts hlen t0 t1 t2;unfold fn86;have Su:=@aC.box _ _ o;have eh:eo V.ao 3 n=decide (0<=de (λx=>decide (x.1.name=n)) V.aD):=by
  rw[gk (f:=λx:jc×AV=>x.1.name),<-ji];rfl
 rw[eh]
 skip
 have d0:((3:Int)=0)=False:=abn De;have d1:((3:Int)=1)=False:=abn De;have d2:((3:Int)=2)=False:=abn De;refine Rs (kJ t0 t1 t2 @Su @gF @Z5 @aac @d0 @d1 @d2) ?_;refine WF.ce T.c144 (r144 T (o.i3.ext Xx) o.jT.2.1 (by have:=l.l3;omega) n) λg1=>?_
 exact GN
def MS{V:RV}(o:aC h V)(l:fp V)(n:By):ay P 86 [.agg V.row,.i 4,.str n] h (λv _=>v=.bool (eo V.ao 4 n)):=by
 refine .nT 47 T.mix T.c86 ?_;intro ts hlen t0 t1 t2;unfold fn86;have Su:=@aC.box _ _ o;have eh:eo V.ao 4 n=decide (0<=de (λx=>decide (x.1.name=n)) V.aG):=by
  rw[gk (f:=λx:kI×AV=>x.1.name),<-gK];rfl
 rw[eh]
 skip
 have d0:((4:Int)=0)=False:=abn De;have d1:((4:Int)=1)=False:=abn De;have d2:((4:Int)=2)=False:=abn De;have d3:((4:Int)=3)=False:=abn De;refine Rs (mQ t0 t1 t2 @Su @gq @Z5 @aac @d0 @d1 @d2 @d3) ?_;refine WF.ce T.c145 (r145 T (o.i4.ext Xx) o.jT.2.2 (by have:=l.l4;omega) n) λg1=>?_
 exact GN
def MR{V}(o:aC h V)(l:fp V)(n:By):ay P 86 [.agg V.row,.i 5,.str n] h (λv _=>v=.bool (eo V.ao 5 n)):=by
 refine .nT 47 T.mix T.c86 ?_;intro ts hlen t0 t1 t2;unfold fn86;have Su:=@aC.box _ _ o;have eh:eo V.ao 5 n=decide (0<=de (λx=>decide (x.name=n)) V.aK):=(gk (f:=pI.name)).symm;rw[eh]
 skip
 have d0:((5:Int)=0)=False:=abn De;have d1:((5:Int)=1)=False:=abn De;have d2:((5:Int)=2)=False:=abn De;have d3:((5:Int)=3)=False:=abn De;have d4:((5:Int)=4)=False:=abn De;refine Rs (pG t0 t1 t2 @Su @gE @Z5 @aac @d0 @d1 @d2 @d3 @d4) ?_;refine WF.ce T.c146 (r146 T (o.i5.ext Xx) (by have:=l.l5;omega) n) λg1=>?_
 exact GN
def r86{V:RV}(o:aC h V)(l:fp V){t:Nat}(ht:t<6)(n:By):ay P 86 [.agg V.row,.i t,.str n] h (λv _=>v=.bool (eo V.ao t n)):=by
 match t,ht with
 | 0,_=>exact MW T o l n
 | 1,_=>exact MV T o l n
 | 2,_=>exact MU T o l n
 | 3,_=>exact MT T o l n
 | 4,_=>exact MS T o l n
 | 5,_=>exact MR T o l n
def r135(x:sQ)(t:Int):ay P 135 [.agg (eP x),.i t] h (λv _=>v=.bool (decide (t<=x.last))):=by
 refine .of T.mix T.c135 ?_;unfold fn135 gA eP;exact Wn Tv
def r76{V}(o:aC h V)(l:fp V){x}(hx:aI h x.2 1 (x.1.aH.map ak))(hl:x.1.aH.length<2^30)(hk:∀n∈x.1.aH,n∈kB V.ao)(t:Int):
  ay P 76 [.agg V.row,.agg (bt x),.i t] h (λv _=>v=.bool (fU V.ao x.1 t)):=by
 refine .nT 24 T.mix T.c76 ?_;intro ts hlen t0 t1 t2;unfold fn76 gA;have Su:=@aC.box _ _ o;have ox:=hx.one;unfold bt at t1;refine Rs (A6 t0 t1 t2 @Su @ox hx.aL) ?_;refine WL.inv T.mix (λn ts h'=>∃k:Nat,k<=x.1.aH.length/\n=x.1.aH.length-k/\Ext (h++[an.b V.row]) h'/\fU V.ao x.1 t=(x.1.aH.drop k).any (ki V.ao t)/\
   ts.length=24/\slot ts 2=.i t/\slot ts 3=.ptr h.length 0/\slot ts 7=.bool false/\slot ts 11=x.2/\slot ts 12=.i x.1.aH.length/\slot ts 13=.i k) x.1.aH.length
  ⟨0,Om,rfl,Xx,rfl,Sn,(Sq t2),(Sq t0),(Sq t0),(Sq t0),(Sq t0),(Sh t0)⟩ ?_
 rintro _ ts _ ⟨k,hk',rfl,⟨g,rfl⟩,hs,hlen,t2,t3,t7,t11,t12,t13⟩;by_cases hlt:k<x.1.aH.length
 ·have hd:x.1.aH.drop k=x.1.aH[k]::x.1.aH.drop (k+1):=Si
  have e3:=eF hlt;have ix:=hx.dA (kk:=.i64) hlt;have ld:∀{k':ah},Ext h k'->aq none (cF x.2 1 k) (λb=>k'[b]?)=some (.str x.1.aH[k],.ar):=λ{k'} e=>hx.gR hlt rfl e
  refine Rs (kJ t2 t3 t7 t11 t12 t13 e3 ix @ld @aE) ?_;refine WF.ce T.c134 (r134 T (o.ext Xx) l (hk _ (ZZ hlt))) λg1=>?_
  refine Rs (A6 t2 t3 t7 t11 t12 t13) ?_;refine WF.ce T.c135 (r135 T _ t) λg2=>?_
  have hr:decide (t<=(kh V.ao x.1.aH[k]).last)=ki V.ao t x.1.aH[k]:=rfl;rw[hr];rw[hd,ab9]at hs;cases TH:ki V.ao t x.1.aH[k]with
  |true=>
   rw[TH,aci]at hs;rw[hs];exact Rs (A6 t2 t3 t7 t11 t12 t13) Tv
  |false=>
   rw[TH,abZ]at hs;have e5:=wrapN (n:=k) Om;refine Rs (A7 t2 t3 t7 t11 t12 t13 e5) ?_;exact⟨_,Om,k+1,Om,rfl,hs,rfl⟩
 ·have e3:=fq hlt;have e4:k=x.1.aH.length:=Om
  rw[e4,aaT]at hs;rw[hs];refine Rs (A7 t2 t3 t7 t11 t12 t13 e3) ?_;rfl
end
structure N6(V:RV):Prop where
 sh:∀x∈V.aj,(∀n∈x.1.aH,n∈kB V.ao)/\x.1.aH.length<2^30
def fQ.yL{V}(w:fQ V.ao):N6 V:=by
 refine⟨λx hx=>?_⟩;have:=(w.sh x.1 (aah hx)).2.2;have hle:=rK this.1 (λt ht=>this.2 t ht);have h1:=w.l1;have Xv:(kB V.ao).length=V.ao.aH.length:=by simp[kB]
 exact⟨this.2,Om⟩
section
variable {P:Program}(T:fD P) {h:ah}
include T
def r139{V}(o:aC h V)(l:fp V)(ir:N6 V){x}(hm:x∈V.aj){t b c}(hb:h[b]? =some (.b V.row))(hc:h[c]? =some (.b [.i t])):
  ay P 139 [.agg (bt x),.ptr b 0,.ptr c 0] h (λv _=>v=.bool (!fU V.ao x.1 t)):=by
 refine .nT 10 T.mix T.c139 ?_;intro ts hlen t0 t1 t2;unfold fn139 gA;have ox:=(o.e2 x hm).one;have lb:∀{k:ah}{n:Option Nat}{a:Nat},Ext h k->aq n (.ptr b a) (λz=>k[z]?)=dK n a (.b V.row):=λe=>az (e.some hb)
 have lc:∀{k:ah}{n:Option Nat}{a:Nat},Ext h k->aq n (.ptr c a) (λz=>k[z]?)=dK n a (.b [.i t]):=λe=>az (e.some hc)
 have hsf:=λ(k:ah) (e:Ext h k)=>r76 T (o.ext e) l ((o.e2 x hm).ext e) (ir.sh x hm).2 (ir.sh x hm).1 t
 unfold bt at t0 hsf;refine Rs (A7 t0 t1 t2 @ox @lb @lc @aE) ?_;refine WF.ce T.c76 (hsf _ Xx) λg1=>?_
 exact GN
def r80{V}(o:aC h V)(l:fp V)(ir:N6 V)(t:Int):ay P 80 [.agg V.row,.i t] h (λv h'=>aI h' v 1 ((jB V.ao t).map ak)):=by
 refine .fo 10 T.mix T.c80 ?_;intro ts hlen t0 t1;unfold fn80 gA;have Su:=@aC.box _ _ o;refine Rs (A4 t0 t1 @Su @fG) ?_;have hm:∀x,x∈V.aj->∀k,Ext (h++[an.b V.row]++[an.b [AV.i t]]) k->bH P (.func (.func 139) [] [.ptr h.length 0,.ptr (h++[an.b V.row]).length 0]) [.agg (bt x)] k (λv _=>v=.bool (!fU V.ao x.1 t)):=λx hx k e=>
  bH.of (a:=[]) T.c139 (r139 T (o.ext (Ext.trans Xx e)) l ir hx (e.some vd) (e.some ba))
 refine WF.res T.c138 (r138 T (o.i2.ext Xx) o.jT.1 (by have:=l.l2;omega) (λx=>!fU V.ao x.1 t) hm) ?_;rintro s1 g1 hf;refine Rs (A2 t0 t1) ?_;have Tc:(V.aj.filter λx=>!fU V.ao x.1 t).length<=V.aj.length:=aav _ _;refine WF.res T.c137 (r137 T hf.aO (λx hx=>o.jT.1 x ((aa3.1 hx).1)) (by have:=l.l2;omega) (λx=>x.1.name) (λx hx k e=>bH.of (a:=[]) (c:=[]) T.c140 (r140 T x (o.jT.1 x ((aa3.1 hx).1))))) ?_;rintro s2 g2 Vf;have eu:jB V.ao t=(V.aj.filter λx=>!fU V.ao x.1 t).map λx=>x.1.name:=by
  exact Kp
 rw[eu];have:=Vf.aO;refine Rs (A2 t0 t1) ?_;exact this
def r255{x}(ox:x.2.one=true){n b}(hb:h[b]? =some (.b [.str n])):ay P 255 [.agg (bt x),.ptr b 0] h (λv _=>v=.bool (decide (x.1.line=n))):=by
 refine .fo 8 T.mix T.c255 ?_;intro ts hlen t0 t1;unfold fn255 gA;have lb:∀{k:ah}{n':Option Nat}{a:Nat},Ext h k->aq n' (.ptr b a) (λz=>k[z]?)=dK n' a (.b [.str n]):=λe=>az (e.some hb)
 unfold bt at t0;exact Rs (A4 t0 t1 @ox @lb) Tv
def r206{V}(o:aC h V)(l:fp V)(n:By):ay P 206 [.agg V.row,.str n] h (λv h'=>aI h' v 3 ((V.aj.filter λx=>decide (x.1.line=n)).map bt)):=by
 refine .fo 9 T.mix T.c206 ?_;intro ts hlen t0 t1;unfold fn206 gA;have Su:=@aC.box _ _ o;refine Rs (A4 t0 t1 @Su @fG) ?_;refine WF.res T.c138 (r138 T (o.i2.ext Xx) o.jT.1 (by have:=l.l2;omega) (λx=>decide (x.1.line=n)) (λx hx k e=>bH.of (a:=[]) (c:=[.ptr (h++[an.b V.row]).length 0]) T.c255 (r255 T (o.jT.1 x hx) (e.some ba)))) ?_;rintro s1 g1 hf;have:=hf.aO;refine Rs (A2 t0 t1) ?_;exact this
def r269{x n b}(hb:h[b]? =some (.b [.str n])):ay P 269 [.agg (dG x),.ptr b 0] h (λv _=>v=.bool (decide (x.zS=n))):=by
 refine .fo 8 T.mix T.c269 ?_;intro ts hlen t0 t1;unfold fn269 GO;have lb:∀{k:ah}{n':Option Nat}{a:Nat},Ext h k->aq n' (.ptr b a) (λz=>k[z]?)=dK n' a (.b [.str n]):=λe=>az (e.some hb)
 unfold dG at t0;exact Rs (A3 t0 t1 @lb) Tv
def r251{V}(o:aC h V)(l:fp V)(n:By):ay P 251 [.agg V.row,.str n] h (λv _=>v=.bool (qE V.ao n)):=by
 refine .fo 9 T.mix T.c251 ?_;intro ts hlen t0 t1;unfold fn251 gA;have Su:=@aC.box _ _ o;refine Rs (A4 t0 t1 @Su @gE) ?_;refine WF.ce T.c268 (r268 T (o.i5.ext Xx) (by have:=l.l5;omega) (λx=>decide (x.zS=n)) (λx hx k e=>bH.of (a:=[]) (c:=[.ptr (h++[an.b V.row]).length 0]) T.c269 (r269 T (e.some ba)))) λg1=>?_
 refine Rs (A2 t0 t1) ?_;rfl
end
end Go.Abs
namespace Go.Abs
def WF.Lu{P ro ks ts h h' Q fv args d l v}(H:fM P fv args h v h')(K:WP P ro l ks (put ts d v) h' Q):WF P ro false fv args d l ks ts h Q:=
 ⟨v,h',H,λhq=>absurd hq Si,K⟩
structure IterM(P:Program)(f:FuncId)(a c:List AV)(L:List (List AV))(pre:ah->Prop):Prop where
 run:∀(l:Nat) (h:ah) (J:Nat->Nat->ah->Prop) (D:ah->Prop),(∀m i k,J m i k->pre k)->(∀m i k g,J m i k->J m i (k++g))->
  (∀m i (hi:i<L.length) k,J m i k->∃b k',fM P (.func (.yield l) [] []) L[i] k (.bool b) k'/\(∀x,l<x->x<m->k'[x]? =k[x]?)/\(if b=true then J m (i+1) k' else D k'))->
  (∀m k,J m L.length k->D k)->l+1=h.length->pre h->(∀g,J (h++g).length 0 (h++g))->dE P f (a++[.func (.yield l) [] []]++c) h (λ_ k=>D k)
section
variable {P:Program}{ks:List Kt}{ts:TS}{h:ah}{Q:Ex->TS->ah->Prop}
def WC.iterM(hmix:P.follows .mixedOrders=true){f A a c L pre g ps asg body}(hA:bU P f=some A)
  (hg:val ts g=.func (.func f) a c) (hi:IterM P f a c L pre) (hps:∀x∈L,x.length=ps.length) (I:Nat->Nat->ah->ah->Prop) (Fin:Ex->ah->ah->Prop)
  (h0:∀g,I (h.length+1+g.length) 0 h g) (hcl:∀m i h' g g2,I m i h' g->I m i h' (g++g2)) (hp0:∀X,pre (h++[X])) (hpre:∀m i h' g X,h'.length=h.length->I m i h' g->pre (h'++[X]++g))
  (step:∀m i (hi:i<L.length) h' g (R B:an),h'.length=h.length->I m i h' g->
   WC P C7 asg [] (setArgs ts ps L[i]) (h'++[R]++g) λe1 VV h2=>e1=.normal/\∃h1 g1,h2=h1++[R]++g1/\h1.length=h.length/\
    WC P C7 body [] VV (h1++[B]++g1) λe2 _ h4=>∃h3 g3,h4=h3++[B]++g3/\h3.length=h.length/\(∀x,x+h.length+1<m->g3[x]? =g[x]?)/\(if e2=.normal then I m (i+1) h3 g3 else Fin e2 h3 g3))
  (done:∀e h' g,h'.length=h.length->(if e=.normal then ∃m,I m L.length h' g else Fin e h' g)->WE P bL e ks ts (h'++[an.dead]++g) Q):WC P bL (.gx g ps asg body) ks ts h Q:=by
 let J:Nat->Nat->ah->Prop:=λm i k=>∃h' g,k=h'++[.loop .ready .normal ts ps asg body]++g/\h'.length=h.length/\I m i h' g
 let D:ah->Prop:=λk=>∃e h' g st,k=h'++[.loop st e ts ps asg body]++g/\h'.length=h.length/\st≠.busy/\(if e=.normal then ∃m,I m L.length h' g else Fin e h' g)
 obtain⟨v,h2,hs,e,h',g',st,rfl,hl,bP,Ub⟩:=hi.run h.length (h++[.loop .ready .normal ts ps asg body]) J D
  (λm i k hJ=>by obtain⟨h',g,rfl,h1,h2⟩:=hJ;exact hpre m i h' g _ h1 h2)
  (λm i k g2 hJ=>by obtain⟨h',g,rfl,h1,h2⟩:=hJ;exact⟨h',g++g2,by rw[ZO],h1,hcl _ _ _ _ _ h2⟩)
  (λm i hi k hJ=>by
   obtain⟨h',g,rfl,h1,h2⟩:=hJ;obtain⟨e1,VV,k2,q1,rfl,h3,g3,rfl,h4,q2⟩:=W.sound hmix (step m i hi h' g (.loop .ready .normal ts ps asg body) (.loop .busy .normal ts ps asg body) h1 h2);obtain⟨e2,ts3,k3,q3,h5,g5,rfl,h6,q5,q4⟩:=W.sound hmix q2;have hy:fM P (.func (.yield h.length) [] []) L[i] (h'++[.loop .ready .normal ts ps asg body]++g) (.bool (decide (e2=.normal))) (List.set (h5++[an.loop .busy .normal ts ps asg body]++g5) h.length (an.loop (if e2=.normal then .ready else .done) e2 ts ps asg body)):=
    fM.yield (nG h1) (hps _ (ZZ hi)) (λr=>q1 (some r) ⟨r,rfl⟩) (nG h4) (λr=>by rw[rR h4];exact q3 (some r) ⟨r,rfl⟩) (nG h6)
   rw[rR h6]at hy;refine⟨decide (e2=.normal),_,hy,?_,?_⟩
   ·intro x hx Ty;rw[Z1 (by simp;omega),Z1 (by simp;omega)];have:=q5 (x-h.length-1) Om;simp only[ZL,ZP,ZT,h6,h1,aaD,Nat.sub_sub]at this ⊢;exact this
   by_cases he:e2=.normal
   ·exact z146
   ·rw[ZW he]at q4;simp only[he,aac,aaC,Z3];exact⟨e2,h5,g5,.done,rfl,h6,Si,by rw[ZW he];exact q4⟩)
  (λm k hJ=>by obtain⟨h',g,rfl,h1,h2⟩:=hJ;exact⟨.normal,h',g,.ready,rfl,h1,Si,by rw[ZY rfl];exact⟨m,h2⟩⟩)
  Si (hp0 _) (λg=>⟨h,g,rfl,rfl,by have:=h0 g;simpa only[ZL,ZP,ZT,aaD]using this⟩)
 exact Rh
end
def WC.G6{P ro c ts h Q Q'}(H:WC P ro c [] ts h Q)(hq:∀e ts' h',Q e ts' h'->Q' e ts' h'):WC P ro c [] ts h Q':=W.mono H hq
def qX{A B:ah}{K K':an}{b:Nat}(h:b≠A.length):(A++[K]++B)[b]? =(A++[K']++B)[b]? :=by
 by_cases h1:b<A.length
 ·rw[ZO,ZO,ZQ h1,ZQ h1]
 ·exact Oc
def JD{A B:ah}{K:an}:(A++[K]++B)[A.length]? =some K:=by
 exact KT
def dQ(x:By×Bool):AV×AV:=(.str x.1,.bool x.2)
def gY:List (By×Bool)->By->Bool
 |[],_=>false
 |(a,b)::r,w=>if w=a then b else gY r w
def sC:List (By×Bool)->By->Bool->List (By×Bool)
 |[],w,b=>[(w,b)]
 |(a,c)::r,w,b=>if w=a then(w,b)::r else(a,c)::sC r w b
theorem sF:∀{M}{w w'}{b},gY (sC M w b) w' =if w' =w then b else gY M w'
 |[],w,w',b=>by rw[sC,gY];rfl
 |(a,c)::r,w,w',b=>by
  rw[sC];by_cases h1:w=a
  ·subst h1;rw[ZY rfl,gY,gY];by_cases h2:w' =w
   ·rw[ZY h2,ZY h2]
   ·rw[ZW h2,ZW h2,ZW h2]
  ·rw[ZW h1,gY,gY,sF];by_cases h2:w' =a
   ·subst h2;rw[ZY rfl,ZW (abe h1),ZY rfl]
   ·rw[ZW h2,ZW h2]
theorem uh:∀{M}{w},∃o:Option AV,jW .s (.str w) (M.map dQ)=some o/\(o=some (.bool (gY M w))\/(o=none/\gY M w=false))
 |[],w=>⟨none,rfl,.inr ⟨rfl,rfl⟩⟩
 |(a,c)::r,w=>by
  by_cases h1:w=a
  ·subst h1;refine⟨some (.bool c),?_,.inl ?_⟩
   ·simp only[aaJ,dQ,jW,dJ,BEq.rfl]
   ·rw[gY,ZY rfl]
  ·obtain⟨o,h2,h3⟩:=uh (M:=r) (w:=w);have hb:(w==a)=false:=by simp[h1]
   refine⟨o,?_,?_⟩
   ·simp only[aaJ,dQ,jW,dJ,hb];exact h2
   ·rw[gY,ZW h1];exact h3
theorem vI:∀{M}{w}{b},pK .s (.str w) (.bool b) (M.map dQ)=some ((sC M w b).map dQ)
 |[],w,b=>rfl
 |(a,c)::r,w,b=>by
  by_cases h1:w=a
  ·subst h1;rw[sC,ZY rfl];simp only[aaJ,dQ,pK,dJ,BEq.rfl]
  ·have hb:(w==a)=false:=by simp[h1]
   have:=vI (M:=r) (w:=w) (b:=b);rw[sC,ZW h1];show(match some (w==a)with|some true=>some ((AV.str w,AV.bool b)::r.map dQ)|some false=>(pK .s (.str w) (.bool b) (r.map dQ)).map ((AV.str a,AV.bool c)::·)|none=>none)=_;rw[hb,this];rfl
def uN(kk:CK)(m k x:AV)(G:Nat->Option an):Option (AV×jv):=
 match m with
 |.map r=>
  match G r with
  |some (.bu es)=>
   match pK kk k x es with
   |some es'=>some (aA,.set r (.bu es'))
   |none=>none
  |_=>none
 |_=>none
def uM{kk r k x G es es'}(hb:G r=some (.bu es))(hu:pK kk k x es=some es'):uN kk (.map r) k x G=some (aA,.set r (.bu es')):=by
 simp only[uN,hb,hu]
def jR{kk m k x ρ G N}:stepT (.gy kk m k x) ρ G N=uN kk (ρ m) (ρ k) (ρ x) G:=rfl
def jj(kk:CK)(z:AV)(ok:Bool)(m k:AV)(G:Nat->Option an):Option (AV×jv):=
 match m with
 |.dF=>some (if ok then .dz [z,.bool false]else z,.ar)
 |.map r=>
  match G r with
  |some (.bu es)=>
   match jW kk k es with
   |some (some v)=>some (if ok then .dz [v,.bool true]else v,.ar)
   |some none=>some (if ok then .dz [z,.bool false]else z,.ar)
   |none=>none
  |_=>none
 |_=>none
def bX{kk z ok m k ρ G N}:stepT (.look kk z ok m k) ρ G N=jj kk z ok (ρ m) (ρ k) G:=rfl
def lX(z:AV)(ok:Bool):Option AV->Option (AV×jv)
 |some v=>some (if ok then .dz [v,.bool true]else v,.ar)
 |none=>some (if ok then .dz [z,.bool false]else z,.ar)
def rP{kk z ok r k G es o}(hb:G r=some (.bu es))(hu:jW kk k es=some o):
  jj kk z ok (.map r) k G=lX z ok o:=by
 simp only[jj,hb,hu];cases o<;>rfl
def pR{r w G M}(hb:G r=some (.bu (M.map dQ))):jj .s (.bool false) false (.map r) (.str w) G=some (.bool (gY M w),.ar):=by
 obtain⟨o,h1,h2⟩:=uh (M:=M) (w:=w);rw[rP hb h1];rcases h2 with rfl|⟨rfl,h2⟩
 ·rfl
 ·rw[h2];rfl
def rM{r w b G M}(hb:G r=some (.bu (M.map dQ))):uN .s (.map r) (.str w) (.bool b) G=some (aA,.set r (.bu ((sC M w b).map dQ))):=uM hb vI
def ai.tl:ai->ai
 |.seq _ b=>b
 |c=>c
def ai.hd:ai->ai
 |.seq a _=>a
 |c=>c
def ai.dr:Nat->ai->ai
 | 0,c=>c
 |n+1,c=>c.tl.dr n
def ai.IZ:ai->ai
 |.block _ a=>a
 |.loop a=>a
 |c=>c
def ai.EL:ai->ai
 |.gx _ _ a _=>a
 |c=>c
def ai.D6:ai->ai
 |.gx _ _ _ b=>b
 |c=>c
def Fr.swap'{N A B g s es cs}(hs:Fr N (A++g) s es cs)(hA:A.length=N)(hB:B.length=N):Fr N (B++g) s es cs:=by
 subst hA;exact hs.swap hB
set_option maxRecDepth 10000
attribute [local irreducible] WP WC WE WB WR WF WL WG fR
def Mo:ai:=((fn214).body.tl).hd
def IA:ai:=Mo.tl.IZ
def Px:ai:=(fn214).body.tl.tl
def Mn:(fn214).body=.seq ((fn214).body.hd) (.seq (.seq Mo.hd (.block 0 (.gx (.t 16) [17,18] IA.EL IA.D6))) Px):=rfl
section
variable {P:Program}(T:fD P) {h:ah}
include T
def CU{x:jc×AV}{Hm:List (By×Bool)->ah}{mb bb xb:Nat}(a1:∀M,(Hm M)[mb]? =some (.bu (M.map dQ)))(a2:∀M,(Hm M)[bb]? =some (.b [.map mb]))(a3:∀M,(Hm M)[xb]? =some (.b (bf x)))
  (a4:∀M K:List (By×Bool),(Hm M).set mb (.bu (K.map dQ))=Hm K) (a5:∀M,aI (Hm M) x.2 1 (x.1.bA.map ak)) (hl:x.1.bA.length<2^30) {ts:TS}(hlen:ts.length=56) (t4:slot ts 4=.ptr bb 0) (t6:slot ts 6=.ptr xb 0)
  {M:List (By×Bool)}{S:List (By)}(hM:∀w,gY M w=decide (w∈S)):
  WC P C7 IA.D6 [] ts (Hm M) λe _ h4=>e=.normal/\∃M',h4=Hm M'/\∀w,gY M' w=decide (w∈(if x.1.name∈S then S++x.1.bA else S)):=by
 have l2:∀{M n o},aq n (.ptr bb o) (λz=>(Hm M)[z]?)=dK n o (.b [.map mb]):=λ{M _ _}=>az (a2 M)
 have l3:∀{M n o},aq n (.ptr xb o) (λz=>(Hm M)[z]?)=dK n o (.b [.str x.1.name,.str x.1.gives,.str x.1.line,x.2]):=λ{M _ _}=>az (a3 M)
 have lk:∀{M w},jj .s (.bool false) false (.map mb) (.str w) (λz=>(Hm M)[z]?)=some (.bool (gY M w),.ar):=λ{M _}=>pR (a1 M)
 have mp:∀{M w b},uN .s (.map mb) (.str w) (.bool b) (λz=>(Hm M)[z]?)=some (aA,.set mb (.bu ((sC M w b).map dQ))):=λ{M _ _}=>rM (a1 M)
 have Vc:=λM G=>(a5 M).aL G
 unfold IA Mo fn214 gA;simp only[ai.tl,ai.hd,ai.IZ,ai.D6]
 repeat (first|simp (config:={maxSteps:=1000000}) only[aQ,aR,aX,aY,reduceAdd,reduceMul,reduceLeDiff,reduceEqDiff,bd,hlen,Z3,Z7,t4,t6,l2,l3,Vc M]|simp (config:={maxSteps:=1000000}) (disch:=first|(simp only[ZL,ZP,ZT]<;>omega)|rfl|omega|fail) only[eD,aQ,aR,aX,aY,reduceAdd,reduceMul,reduceLeDiff,reduceEqDiff,bd,hlen,Z3,Z7,t4,t6,l2,l3,Vc M])
 refine WL.inv T.mix (λn ts h'=>∃(k:Nat) (M':List (By×Bool)),k<=x.1.bA.length/\n=x.1.bA.length-k/\h' =Hm M'/\(∀w,gY M' w=decide (w∈S\/(x.1.name∈S/\w∈x.1.bA.take k)))/\
   ts.length=56/\slot ts 4=.ptr bb 0/\slot ts 6=.ptr xb 0/\slot ts 20=x.2/\slot ts 21=.i x.1.bA.length/\slot ts 22=.i k) x.1.bA.length
  ⟨0,M,Om,rfl,rfl,λw=>by rw[hM];simp,Sn,(Sq t4),(Sq t6),(Sq t6),(Sq t6),gf⟩ ?_
 clear t4 t6 hlen hM;clear M ts;rintro _ ts _ ⟨k,M,hk',rfl,rfl,hM,hlen,t4,t6,t20,t21,t22⟩;by_cases hlt:k<x.1.bA.length
 ·have e3:=eF hlt;have ix:=(a5 M).dA (kk:=.i64) hlt;have ld:aq none (cF x.2 1 k) (λb=>(Hm M)[b]?)=some (.str x.1.bA[k],.ar):=(a5 M).gR hlt rfl (Ext.refl _);have e5:=wrapN (n:=k) Om;have hnew:∀w,gY (sC M x.1.bA[k] (gY M x.1.bA[k]||gY M x.1.name)) w=decide (w∈S\/(x.1.name∈S/\w∈x.1.bA.take (k+1))):=by
   intro w;rw[sF];have ht:x.1.bA.take (k+1)=x.1.bA.take k++[x.1.bA[k]]:=by rw[aay,ZS hlt];rfl
   rw[ht];by_cases hw:w=x.1.bA[k]
   ·rw[ZY hw,hM,hM,hw,<-Bool.decide_or,abB,ZX,Z9];constructor
    ·rintro((h1|h1)|(h1|h1))
     ·exact .inl h1
     ·exact .inr ⟨h1.1,.inl h1.2⟩
     ·exact .inr ⟨h1,.inr rfl⟩
     ·exact .inr ⟨h1.1,.inr rfl⟩
    ·rintro(h1|h1)
     ·exact .inl (.inl h1)
     ·exact .inr (.inl h1.1)
   ·rw[ZW hw,hM,abB,ZX,Z9];simp only[hw,abm]
  cases hb:gY M x.1.bA[k]with
  |true=>
   rw[hb,aci]at hnew;exact Q8
  |false=>
   rw[hb,abZ]at hnew;exact Q8
 ·have e3:=fq hlt;have e4:k=x.1.bA.length:=Om
  rw[e4,aaj]at hM;refine Rs (A6 t4 t6 t20 t21 t22 e3) ?_;refine⟨M,rfl,λw=>?_⟩;rw[hM,abB];by_cases hx:x.1.name∈S<;>simp[hx]
end
def Pu:jc×AV:=(CQ,.af)
def uo(X:List (jc×AV)):List (List AV):=(List.range X.length).map λj=>[.i ((X.length-1-j:Nat):Int),.agg (bf (X.getD (X.length-1-j) Pu))]
def jP{X}:(uo X).length=X.length:=by simp[uo]
def um{X j}(hj:j<(uo X).length):(uo X)[j]=[.i ((X.length-1-j:Nat):Int),.agg (bf (X[X.length-1-j]'(by rw[jP]at hj;omega)))]:=by
 have h1:X.length-1-j<X.length:=by rw[jP]at hj;omega
 simp only[uo,aaW,List.getElem_range,aar,ZS h1,ab0]
structure qL(V:RV)(m:By)(cm cr:Nat)(k:ah):Prop where
 m:k[cm]? =some (.b [.str m])
 r:k[cr]? =some (.b V.row)
 o:aC k V
theorem qL.ext{V m cm cr k k'}(p:qL V m cm cr k)(e:Ext k k'):qL V m cm cr k':=⟨e.some p.m,e.some p.r,p.o.ext e⟩
def jw(V:RV)(m:By):List (jc×AV):=V.aD.filter λx=>decide (x.1.name∈cX m V.ao.aD.reverse)
def AO{m:By}{l:List jc}{i:Nat}(hi:i<l.length):cX m (l.take (i+1))=(if l[i].name∈cX m (l.take i)then cX m (l.take i)++l[i].bA else cX m (l.take i)):=by
 rw[aay,ZS hi,cX,List.foldl_append];rfl
def A1{α:Type}{p:α->Bool}{l:List α}{k:Nat}(hk:k<l.length)(hp:p l[k]=true):∃h:((l.take k).filter p).length<(l.filter p).length,(l.filter p)[((l.take k).filter p).length]=l[k]:=by
 have e:l.filter p=(l.take k).filter p++(l[k]:: (l.drop (k+1)).filter p):=by
  conv=>lhs;rw[<-aaL k l,abb hk,abf,abA,ZY hp]
 have h:((l.take k).filter p).length<(l.filter p).length:=by rw[e];simp
 refine⟨h,?_⟩;have:(l.filter p)[((l.take k).filter p).length]? =some l[k]:=by rw[e,Z1 (Z0 _)];simp
 exact(ZM.1 this).2
def Dc{α:Type}{p:α->Bool}{l:List α}{k:Nat}(hk:k<l.length):((l.take (k+1)).filter p).length=if p l[k]=true then((l.take k).filter p).length+1 else((l.take k).filter p).length:=by
 rw[aay,ZS hk,abf,ZL];cases h:p l[k]<;>simp[h]
def Dv{N}:nK .dF N=some (.ptr N 0,.push (.b [.dF])):=rfl
def LC{r N}:kG 1 0 (.map r) N (.b [.dF])=some (aA,.set N (.b [.map r])):=rfl
section
variable {P:Program}(T:fD P) {h:ah}
include T
def r215{s}(o:s.one=true):ay P 215 [s] h (λv h'=>v=.func (.func 259) [] [.ptr h.length 0]/\h' =h++[.b [s]]):=by
 refine .of T.mix T.c215 ?_;unfold fn215 gA;exact Ws @o Tv
def AX{b s X}(hl:X.length<2^30):
  Iter P 259 [] [.ptr b 0] (uo X) (λk=>k[b]? =some (.b [s])/\aI k s 4 (X.map bf)):=by
 refine⟨λl h1 J Dn hpre happ Tn UC h0=>dE.of T.mix T.c259 ?_⟩;obtain⟨ts,Sv⟩:∃ts,ts=aU 19 ([]++[.func (.yield l) [] []]++[.ptr b 0]):=⟨_,rfl⟩;have hlen:ts.length=19:=by rw[Sv];rfl
 have t0:slot ts 0=.func (.yield l) [] []:=by rw[Sv];rfl
 have t1:slot ts 1=.ptr b 0:=by rw[Sv];rfl
 unfold fn259 gA;show WC P bL _ [] (aU 19 ([]++[.func (.yield l) [] []]++[.ptr b 0])) h1 _;rw[<-Sv];clear Sv;have p0:=hpre 0 h1 h0;have l0:∀{n o},aq n (.ptr b o) (λz=>h1[z]?)=dK n o (.b [s]):=λ{_ _}=>az p0.1
 have e0:IntKind.i64.wrap ((X.length:Int)-1)=(X.length:Int)-1-(0:Nat):=by rw[aZ Om Om];omega
 refine Rs (A5 t0 t1 @l0 p0.2.aL e0) ?_;refine WL.inv T.mix (λn ts h'=>∃k:Nat,k<=X.length/\n=X.length-k/\J k h'/\ts.length=19/\slot ts 0=.func (.yield l) [] []/\slot ts 1=.ptr b 0/\slot ts 3=.i ((X.length:Int)-1-k)) X.length
  ⟨0,Om,rfl,h0,Sn,(Sq t0),(Sq t1),(Sq t0)⟩ ?_
 clear t0 t1 hlen l0 p0;clear ts;rintro _ ts h' ⟨k,hk,rfl,hJ,hlen,t0,t1,t3⟩;obtain⟨p1,p2⟩:=hpre _ _ hJ;have l0:∀{n o},aq n (.ptr b o) (λz=>h'[z]?)=dK n o (.b [s]):=λ{_ _}=>az p1
 by_cases hlt:k<X.length
 ·have hj:X.length-1-k<X.length:=Om
  have ei:(X.length:Int)-1-k=((X.length-1-k:Nat):Int):=Om
  have e3:decide ((0:Int)<=((X.length-1-k:Nat):Int))=true:=ZR Om;have ix:=p2.dA (kk:=.i64) hj;have ld:aq (some 4) (cF s 4 (X.length-1-k)) (λb=>h'[b]?)=some (.agg (bf X[X.length-1-k]),.ar):=p2.kR hj (Ext.refl _);have hwk:IntKind.i64.wrap (((X.length-1-k:Nat):Int)-1)=(X.length:Int)-1-((k+1:Nat):Int):=by rw[aZ Om Om];omega
  rw[ei]at t3;refine Rs (A7 t0 t1 t3 @l0 e3 ix @ld) ?_;obtain⟨bb,k',q1,q2⟩:=Tn k (by rw[jP];exact hlt) h' hJ;rw[um]at q1;refine WF.Lu q1 ?_;cases bb with
  |true=>
   refine Rs (A5 t0 t1 t3 @aad @hwk) ?_;exact⟨_,Om,k+1,Om,rfl,q2,rfl⟩
  |false=>
   refine Rs (A4 t0 t1 t3 @aai) ?_;exact q2
 ·have e3:decide ((0:Int)<=(X.length:Int)-1-k)=false:=ZN Om;have e4:k=X.length:=Om
  refine Rs (A4 t0 t1 t3 e3) ?_;refine UC h' ?_;rw[jP,<-e4];exact hJ
def r119{V}(o:aC h V)(m:By):ay P 119 [.agg V.row,.str m] h (λv h'=>v=.func (.func 214) [] [.ptr (h.length+1) 0,.ptr h.length 0]/\qL V m (h.length+1) h.length h'):=by
 refine .fo 6 T.mix T.c119 ?_;intro ts hlen t0 t1;unfold fn119 gA;have Su:=@aC.box _ _ o;have hl2:(h++[an.b V.row]).length=h.length+1:=Si
 refine Rs (A3 t0 t1 @Su) ?_;rw[hl2];refine⟨rfl,?_,vd,o.ext Xx⟩;rw[<-hl2];exact ba
def rW{V:RV}(l:fp V)(hin:∀x∈V.aD,x.1.bA.length<2^30)(m:By)(cm cr:Nat):
  IterM P 214 [] [.ptr cm 0,.ptr cr 0] ((jw V m).map λx=>[.agg (bf x)]) (qL V m cm cr):=by
 refine⟨λlp h J Dn hpre happ Tn UC hlp p0 h0=>dE.of T.mix T.c214 ?_⟩;obtain⟨ts,Sv⟩:∃ts,ts=aU 56 ([]++[.func (.yield lp) [] []]++[.ptr cm 0,.ptr cr 0]):=⟨_,rfl⟩;have hlen:ts.length=56:=by rw[Sv];rfl
 have t0:slot ts 0=.func (.yield lp) [] []:=by rw[Sv];rfl
 have t1:slot ts 1=.ptr cm 0:=by rw[Sv];rfl
 have t2:slot ts 2=.ptr cr 0:=by rw[Sv];rfl
 show WC P bL (fn214).body [] (aU 56 ([]++[.func (.yield lp) [] []]++[.ptr cm 0,.ptr cr 0])) h _;rw[<-Sv,Mn];clear Sv;obtain⟨RR,TC⟩:∃RR,RR=Px:=⟨_,rfl⟩;obtain⟨RA,Yx⟩:∃RA,RA=IA.EL:=⟨_,rfl⟩;obtain⟨RB,Yw⟩:∃RB,RB=IA.D6:=⟨_,rfl⟩;rw[<-TC,<-Yx,<-Yw];unfold Mo fn214 gA;simp only[ai.tl,ai.hd];have lm:=@fw _ _ _ p0.m;have lr:=@fw _ _ _ p0.r;have u0:uN .s (.map h.length) (.str m) (.bool true) (λz=>(h++[an.bu []])[z]?)=some (aA,.set h.length (.bu ([(m,true)].map dQ))):=rM (M:=[]) ba;refine Rs (kJ t0 t1 t2 @lm @lr @jR @u0 @gF @Dv @LC) ?_;refine WF.res T.c215 (r215 T p0.o.i3.one) ?_;rintro _ g1 ⟨rfl,hg⟩;have hg:=abC hg
 subst hg;refine Rs (A3 t0 t1 t2) ?_;have hlV:V.ao.aD.length=V.aD.length:=by simp[RV.ao]
 refine WC.iter T.mix T.c259 (a:=[]) (c:=[.ptr (h++[an.bu (List.map dQ [(m,true)])]++[an.b [AV.map h.length]]).length 0]) (Sq t0) (AX T (s:=V.s3) (X:=V.aD) (by have:=l.l3;omega)) (λy hy=>by obtain⟨z,_,rfl⟩:=aal.1 hy;rfl)
  (λi h' g=>∃M:List (By×Bool),h' =h++[an.bu (M.map dQ)]++[an.b [AV.map h.length]]++[an.b [V.s3]]/\∀w,gY M w=decide (w∈cX m (V.ao.aD.reverse.take i))) (λ_ _ _=>False)
  ⟨[(m,true)],rfl,λw=>?_⟩ (λi h' g g' hI=>hI) (λi h' g X hl hI=>?_) (λi hi h' g R B SI hI=>?_) (λe h' g hl hI=>?_)
 ·show(if w=m then true else false)=decide (w∈[m]);by_cases hw:w=m<;>simp[hw]
 ·obtain⟨M,rfl,_⟩:=hI;refine⟨?_,p0.o.i3.ext Xx⟩;have e:(h++[an.bu (List.map dQ [(m,true)])]++[an.b [AV.map h.length]]).length=(h++[an.bu (M.map dQ)]++[an.b [AV.map h.length]]).length:=Si
  rw[e];exact Bo
 ·obtain⟨M,rfl,hM⟩:=hI;have hi':i<V.aD.length:=by rw[<-jP];exact hi
  have hj:V.aD.length-1-i<V.aD.length:=Om
  rw[um,Yx];have Ty:V.aD[V.aD.length-1-i]∈V.aD:=ZZ _;have hxr:V.ao.aD.reverse[i]'(by rw[abH];omega)=(V.aD[V.aD.length-1-i]).1:=by
   rw[List.getElem_reverse];simp only[RV.ao,aaW,ZU]
  have hns:=AO (m:=m) (l:=V.ao.aD.reverse) (i:=i) (by rw[abH];omega);rw[hxr]at hns;generalize V.aD[V.aD.length-1-i]=x at *;have ox:=p0.o.jT.2.1 x Ty;unfold IA Mo fn214 gA;simp only[ai.tl,ai.hd,ai.IZ,ai.EL,setArgs,bf];refine Rs (A4 t0 t1 t2 @ox) ?_;refine⟨_,g++[an.b [AV.str x.1.name,.str x.1.gives,.str x.1.line,x.2]],by rw[<-ZO],SI,?_⟩;have xin:=p0.o.e3 x Ty;rw[Yw];refine WC.G6 (CU T (x:=x) (mb:=h.length) (bb:=(h++[an.bu (List.map dQ [(m,true)])]).length) (xb:=(h++[an.bu (List.map dQ M)]++[an.b [AV.map h.length]]++[an.b [V.s3]]++[R]++g).length)
   (Hm:=λM=>h++[an.bu (List.map dQ M)]++[an.b [AV.map h.length]]++[an.b [V.s3]]++[B]++(g++[an.b (bf x)]))
   (λM=>vc) (λM=>?_) (λM'=>?_) (λM K=>?_) (λM=>xin.ext Xx) (hin x Ty) ?_ (Sq t0) (Sq t0) hM) ?_
  ·have eL:(h++[an.bu (List.map dQ [(m,true)])]).length=(h++[an.bu (List.map dQ M)]).length:=Si
   rw[eL];exact th
  ·have eL:(h++[an.bu (List.map dQ M)]++[an.b [AV.map h.length]]++[an.b [V.s3]]++[B]++g).length=(h++[an.bu (List.map dQ M')]++[an.b [AV.map h.length]]++[an.b [V.s3]]++[B]++g).length:=Si
   rw[<-ZO];have eR:(h++[an.bu (List.map dQ M)]++[an.b [AV.map h.length]]++[an.b [V.s3]]++[R]++g).length=(h++[an.bu (List.map dQ M')]++[an.b [AV.map h.length]]++[an.b [V.s3]]++[B]++g).length:=Si
   rw[eR];exact ba
  ·exact B3
  ·simp only[bd,hlen]
  ·rintro e _ _ ⟨rfl,M',rfl,hM'⟩;refine⟨_,_,rfl,Si,?_⟩;rw[ZY rfl];exact⟨M',rfl,λw=>by rw[hM',hns]⟩
 ·by_cases Ti:e=.normal
  case neg=>rw[ZW Ti]at hI;exact hI.elim
  subst Ti;rw[ZY rfl]at hI;obtain⟨M,rfl,hM⟩:=hI;have hM:∀w,gY M w=decide (w∈cX m V.ao.aD.reverse):=λw=>by
   rw[hM,aau (by rw[abH,jP,hlV];exact Z0 _)]
  rw[TC];obtain⟨K0,XA⟩:∃K0,K0=h++[an.bu (M.map dQ)]++[an.b [AV.map h.length]]++[an.b [V.s3]]++[an.dead]++g:=⟨_,rfl⟩;have eK:Ext h K0:=by rw[XA];exact Xx
  have k1:K0[h.length]? =some (.bu (M.map dQ)):=by rw[XA];exact vc
  have k2:K0[(h++[an.bu (List.map dQ [(m,true)])]).length]? =some (.b [AV.map h.length]):=by
   have eL:(h++[an.bu (List.map dQ [(m,true)])]).length=(h++[an.bu (List.map dQ M)]).length:=Si
   rw[XA,eL];exact th
  have hJ0:J K0.length 0 K0:=by
   obtain⟨g',SX⟩:=eK;have:=h0 g'
   rwa [<-SX]at this
  have XO:(h++[an.bu (List.map dQ [(m,true)])]).length<K0.length:=by rw[XA];simp only[ZL,ZP,ZT];omega
  have hbb:(h++[an.bu (List.map dQ [(m,true)])]).length=h.length+1:=Si
  rw[<-XA];generalize K0.length=mm at hJ0 XO;have lr0:∀{n o},aq n (.ptr cr o) (λz=>K0[z]?)=dK n o (.b V.row):=λ{_ _}=>az (eK.some p0.r)
  have hlm3:=λG=>p0.o.i3.aL G
  unfold Px fn214 gA;simp only[ai.tl];refine Rs (A6 t0 t1 t2 @lr0 @gF @hlm3) ?_;rw[hbb]at k2 XO;refine WL.inv T.mix (λn ts h'=>∃k:Nat,k<=V.aD.length/\n=V.aD.length-k/\J mm ((V.aD.take k).filter λx=>decide (x.1.name∈cX m V.ao.aD.reverse)).length h'/\h'[h.length]? =some (.bu (M.map dQ))/\h'[h.length+1]? =some (.b [AV.map h.length])/\
    ts.length=56/\slot ts 0=.func (.yield lp) [] []/\slot ts 4=.ptr (h.length+1) 0/\slot ts 39=V.s3/\slot ts 40=.i V.aD.length/\slot ts 41=.i k) V.aD.length
   ⟨0,Om,rfl,hJ0,k1,k2,Sn,(Sq t0),(Sq (A2 t0 @hbb)),(Sq t0),(Sq t0),gf⟩ ?_
  clear t0 t1 t2 hlen lr lm u0 lr0 hJ0 k1 k2 hlm3;clear ts;rintro _ ts h' ⟨k,hk,rfl,hJ,k1,k2,hlen,t0,t4,t39,t40,t41⟩;by_cases hlt:k<V.aD.length
  ·have p1:=hpre _ _ _ hJ;have Ty:V.aD[k]∈V.aD:=ZZ _;have ix:=p1.o.i3.dA (kk:=.i64) hlt;have ld:aq (some 4) (cF V.s3 4 k) (λb=>h'[b]?)=some (.agg (bf V.aD[k]),.ar):=p1.o.i3.kR hlt (Ext.refl _);have ox:=p1.o.jT.2.1 _ Ty;have e3:=eF hlt;have e5:IntKind.i64.wrap ((k:Int)+1)=((k+1:Nat):Int):=wrapN (by have:=l.l3;omega);have l2:∀{z n o},Ext h' z->aq n (.ptr (h.length+1) o) (λb=>z[b]?)=dK n o (.b [AV.map h.length]):=λ{_ _ _} e=>az (e.some k2)
   have lk:∀{C w},jj .s (.bool false) false (.map h.length) (.str w) (λz=>(h'++[C])[z]?)=some (.bool (gY M w),.ar):=λ{C _}=>pR ((Ext.app [C] (Ext.refl h')).some k1)
   have hf:=A1 (p:=λx:jc×AV=>decide (x.1.name∈cX m V.ao.aD.reverse)) hlt;have hs:=Dc (p:=λx:jc×AV=>decide (x.1.name∈cX m V.ao.aD.reverse)) hlt;have hMx:=hM V.aD[k].1.name;generalize V.aD[k]=x at *;unfold bf at ld;cases hb:gY M x.1.name with
   |true=>
    rw[hb]at hMx;obtain⟨V6,Vf⟩:=hf hMx.symm;refine Rs (D5 t0 t4 t39 t40 t41 ix @ld @ox e3 @l2 @bX @lk @hb) ?_;obtain⟨bb,k',q1,q2,q3⟩:=Tn mm _ (by rw[ZU];exact V6) _ (happ _ _ _ [an.b [AV.str x.1.name,.str x.1.gives,.str x.1.line,x.2]] hJ);rw[aaW]at q1;have hf2':(jw V m)[((V.aD.take k).filter λx=>decide (x.1.name∈cX m V.ao.aD.reverse)).length]'V6=x:=Vf;have q1:fM P (.func (.yield lp) [] []) [AV.agg (bf x)] (h'++[an.b [AV.str x.1.name,.str x.1.gives,.str x.1.line,x.2]]) (.bool bb) k':=by
     refine Eq.mp ?_ q1;congr 1;exact aan (λy=>[AV.agg (bf y)]) hf2'
    unfold bf at q1;refine WF.Lu q1 ?_;cases bb with
    |true=>
     refine Rs (A7 t0 t4 t39 t40 t41 @aad e5) ?_;have hlt1:=(ZM.1 k1).1;have TK:=(ZM.1 k2).1;refine⟨_,Om,k+1,Om,rfl,?_,?_,?_,rfl⟩
     ·rw[hs,<-hMx,ZY rfl];exact q3
     ·rw[q2 _ Om Om,ZQ hlt1];exact k1
     ·rw[q2 _ Om Om,ZQ TK];exact k2
    |false=>
     refine Rs (A6 t0 t4 t39 t40 t41 @aai) ?_;exact q3
   |false=>
    rw[hb]at hMx;refine Rs (za t0 t4 t39 t40 t41 ix @ld @ox e3 @l2 @bX @lk @hb e5) ?_;have hlt1:=(ZM.1 k1).1;have TK:=(ZM.1 k2).1;refine⟨_,Om,k+1,Om,rfl,?_,?_,?_,rfl⟩
    ·rw[hs,<-hMx,ZW De];exact happ _ _ _ _ hJ
    ·rw[ZQ hlt1];exact k1
    ·rw[ZQ TK];exact k2
  ·have e3:=fq hlt;have e4:k=V.aD.length:=Om
   rw[e4,aaj]at hJ;refine Rs (A6 t0 t4 t39 t40 t41 e3) ?_;refine UC mm h' ?_;rw[ZU];exact hJ
end
def Ei:ai:=((fn122).body.tl.tl).hd
def LL:ai:=Ei.tl.IZ
def OH:ai:=(fn122).body.tl.tl.tl
def LJ:(fn122).body=.seq ((fn122).body.hd) (.seq ((fn122).body.tl.hd) (.seq (.seq Ei.hd (.block 0 (.gx (.t 10) [11] LL.EL LL.D6))) OH)):=rfl
def HU{r N}:kG 1 0 (.map r) N (.b [.dF])=some (aA,.set N (.b [.map r])):=rfl
def pQ{V m}:(jw V m).map Prod.fst=mY V.ao m:=by
 rw[jw,mY];show _=List.filter _ (List.map Prod.fst V.aD);rw[abQ];rfl
section
variable {P:Program}(T:fD P) {h:ah}
include T
def r217{x b c M}(hb:h[b]? =some (.b [.map c]))(hc:h[c]? =some (.bu (M.map dQ))):ay P 217 [.agg (cC x),.ptr b 0] h (λv _=>v=.bool (gY M x.name)):=by
 refine .fo 8 T.mix T.c217 ?_;intro ts hlen t0 t1;unfold fn217 gA;have lb:∀{k:ah}{n':Option Nat}{a:Nat},Ext h k->aq n' (.ptr b a) (λz=>k[z]?)=dK n' a (.b [.map c]):=λe=>az (e.some hb)
 have lk:∀{C w},jj .s (.bool false) false (.map c) (.str w) (λz=>(h++[C])[z]?)=some (.bool (gY M w),.ar):=λ{C _}=>pR ((Ext.app [C] (Ext.refl h)).some hc)
 unfold cC at t0;exact Rs (A5 t0 t1 @lb @bX @lk) Tv
def r122{V}(o:aC h V)(l:fp V)(hin:∀x∈V.aD,x.1.bA.length<2^30)(m:By):ay P 122 [.agg V.row,.str m] h (λv h'=>aI h' v 3 ((iT V.ao m).map cC)):=by
 refine .of T.mix T.c122 ?_;obtain⟨ts,Sv⟩:∃ts,ts=aU 19 [.agg V.row,.str m]:=⟨_,rfl⟩;have hlen:ts.length=19:=by rw[Sv];rfl
 have t0:slot ts 0=.agg V.row:=by rw[Sv];rfl
 have t1:slot ts 1=.str m:=by rw[Sv];rfl
 show WC P bL (fn122).body [] (aU 19 [.agg V.row,.str m]) h _;rw[<-Sv,LJ];clear Sv;obtain⟨RR,TC⟩:∃RR,RR=OH:=⟨_,rfl⟩;obtain⟨RA,Yx⟩:∃RA,RA=LL.EL:=⟨_,rfl⟩;obtain⟨RB,Yw⟩:∃RB,RB=LL.D6:=⟨_,rfl⟩;rw[<-TC,<-Yx,<-Yw];unfold Ei fn122 gA;simp only[ai.tl,ai.hd];have Su:=@aC.box _ _ o;refine Rs (A6 t0 t1 @Su @Dv @HU @aE) ?_;obtain⟨H0,Xg⟩:∃H0,H0=h++[an.b V.row]:=⟨_,rfl⟩;have e0:Ext h H0:=by rw[Xg];exact Xx
 rw[<-Xg];refine WF.res T.c119 (r119 T (o.ext (e0.trans Xx)) m) ?_;rintro _ g1 ⟨rfl,hp⟩;refine Rs (A2 t0 t1) ?_;obtain⟨cm,hcm⟩:∃cm,cm=(H0++[an.bu []]++[an.b [AV.map H0.length]]).length:=⟨_,rfl⟩;rw[<-hcm]at hp ⊢;have pmap:∀(M:List (By×Bool)) (Z:ah),qL V m (cm+1) cm (H0++[an.bu (M.map dQ)]++[an.b [AV.map H0.length]]++g1++Z):=by
  intro M Z;have hne:∀b,b≠H0.length->(H0++[an.bu (M.map dQ)]++[an.b [AV.map H0.length]]++g1)[b]? =(H0++[an.bu []]++[an.b [AV.map H0.length]]++g1)[b]? :=λb hb=>by
   have:=qX (A:=H0) (B:=[an.b [AV.map H0.length]]++g1) (K:=an.bu (M.map dQ)) (K':=an.bu []) (b:=b) hb
   simpa only[ZO]using this
  have hcl:cm=H0.length+2:=by rw[hcm];simp
  refine qL.ext ⟨(hne _ Om).trans hp.m,(hne _ Om).trans hp.r,(o.ext e0).ext Xx⟩ (Ext.app Z (Ext.refl _))
 refine WC.iterM T.mix T.c214 (a:=[]) (c:=[.ptr (cm+1) 0,.ptr cm 0]) (Sq t0) (rW T l hin m (cm+1) cm) (λy hy=>by obtain⟨z,_,rfl⟩:=aal.1 hy;rfl)
  (λmm i h' g=>∃M:List (By×Bool),h' =H0++[an.bu (M.map dQ)]++[an.b [AV.map H0.length]]++g1/\mm<=h'.length+1+g.length/\∀w,gY M w=decide (w∈((jw V m).take i).map λx=>x.1.line)) (λ_ _ _=>False)
  (λg=>⟨[],rfl,Z0 _,λw=>rfl⟩) (λmm i h' g g' hI=>by obtain⟨M,a1,a2,a3⟩:=hI;exact⟨M,a1,by rw[ZL];omega,a3⟩) (λX=>pmap [] [X]) (λmm i h' g X hl hI=>?_) (λmm i hi h' g R B SI hI=>?_) (λe h' g hl hI=>?_)
 ·obtain⟨M,rfl,_⟩:=hI;rw[ZO (H0++[an.bu (M.map dQ)]++[an.b [AV.map H0.length]]++g1)];exact pmap M _
 ·obtain⟨M,rfl,XO,hM⟩:=hI;have hi':i<(jw V m).length:=by simpa using hi
  rw[aaW,Yx,Yw];have Ty:(jw V m)[i]∈V.aD:=(aa3.1 (ZZ hi')).1;have SC:((jw V m).take (i+1)).map (λx=>x.1.line)=((jw V m).take i).map (λx=>x.1.line)++[(jw V m)[i].1.line]:=by
   rw[aay,ZS hi',ZV];rfl
  generalize (jw V m)[i]=x at *;have ox:=o.jT.2.1 x Ty;have eL:∀K:List (By×Bool),(H0++[an.bu (K.map dQ)]).length=(H0++[an.bu []]).length:=λK=>by simp
  have u0:∀{Z Y:ah},uN .s (.map H0.length) (.str x.1.line) (.bool true) (λz=>(H0++[an.bu (M.map dQ)]++[an.b [AV.map H0.length]]++g1++[B]++Z++Y)[z]?)=some (aA,.set H0.length (.bu ((sC M x.1.line true).map dQ))):=λ{Z Y}=>rM DH
  have lb:∀{Z Y:ah}{n a},aq n (.ptr (H0++[an.bu []]).length a) (λz=>(H0++[an.bu (M.map dQ)]++[an.b [AV.map H0.length]]++g1++[B]++Z++Y)[z]?)=dK n a (.b [.map H0.length]):=λ{Z Y _ _}=>by
   rw[<-eL M];exact az vc
  have lx:∀{n a},aq n (.ptr (H0++[an.bu (M.map dQ)]++[an.b [AV.map H0.length]]++g1++[R]++g).length a) (λz=>(H0++[an.bu (M.map dQ)]++[an.b [AV.map H0.length]]++g1++[B]++g++[an.b [AV.str x.1.name,.str x.1.gives,.str x.1.line,x.2]])[z]?)=dK n a (.b [AV.str x.1.name,.str x.1.gives,.str x.1.line,x.2]):=λ{_ _}=>by
   have:(H0++[an.bu (M.map dQ)]++[an.b [AV.map H0.length]]++g1++[R]++g).length=(H0++[an.bu (M.map dQ)]++[an.b [AV.map H0.length]]++g1++[B]++g).length:=Si
   rw[this];exact az ba
  unfold LL Ei fn122 gA;simp only[ai.tl,ai.hd,ai.IZ,ai.EL,ai.D6,setArgs,bf];refine Rs (A3 t0 t1 @ox) ?_;refine⟨_,g++[an.b [AV.str x.1.name,.str x.1.gives,.str x.1.line,x.2]],by rw[<-ZO],SI,?_⟩;rw[<-ZO];refine Rs (A7 t0 t1 @ox @lb @lx @jR @u0) ?_;refine⟨_,g++[an.b [AV.str x.1.name,.str x.1.gives,.str x.1.line,x.2]],by rw[<-ZO],Si,λy hy=>ZQ ?_,_,rfl,?_,λw=>?_⟩
  ·simp only[ZL,ZP,ZT]at hy XO;omega
  ·simp only[ZL,ZP,ZT]at XO ⊢;omega
  ·rw[sF,SC];by_cases hw:w=x.1.line
   ·rw[ZY hw];simp[hw]
   ·rw[ZW hw,hM];simp[hw]
 ·by_cases Ti:e=.normal
  case neg=>rw[ZW Ti]at hI;exact hI.elim
  subst Ti;rw[ZY rfl]at hI;obtain⟨mm,M,rfl,_,hM⟩:=hI;rw[ZU,aaj]at hM;rw[TC];have eL:(H0++[an.bu (M.map dQ)]).length=(H0++[an.bu []]).length:=Si
  obtain⟨K0,XA⟩:∃K0,K0=H0++[an.bu (M.map dQ)]++[an.b [AV.map H0.length]]++g1++[an.dead]++g:=⟨_,rfl⟩;have eK:Ext H0 K0:=by rw[XA];exact Xx
  have k1:K0[H0.length]? =some (.bu (M.map dQ)):=by rw[XA];exact vc
  have k2:K0[(H0++[an.bu []]).length]? =some (.b [AV.map H0.length]):=by
   rw[XA,<-eL];exact th
  rw[<-XA];have lr:∀{k n a},Ext K0 k->aq n (.ptr h.length a) (λz=>k[z]?)=dK n a (.b V.row):=λ{_ _ _} e=>az ((eK.trans e).some (by rw[Xg];exact ba))
  unfold OH fn122 gA;simp only[ai.tl];refine Rs (A4 t0 t1 @lr @gG) ?_;refine WF.res T.c216 (r216 T (o.i0.ext (e0.trans (eK.trans Xx))) (by have:=l.l0;omega) (λx=>gY M x.name) (λx hx k e=>bH.of (a:=[]) (c:=[.ptr (H0++[an.bu []]).length 0]) T.c217 (r217 T (e.some k2) (e.some k1)))) ?_;rintro s1 g2 hf;have eh:=e0.trans eK;have es:V.lines.filter (λx=>gY M x.name)=iT V.ao m:=by
   refine List.filter_congr λx _=>?_
   rw[hM,<-pQ,abt];rfl
  rw[es]at hf;have:=hf.aO;refine Rs (A2 t0 t1) ?_;exact⟨Ext.app _ eh,this⟩
end
def gI(x:Nat×Bool):List AV:=[.i (x.1:Int),.bool x.2]
def kS:Kd->AV
 |.fO=>.nilFunc
 |.line=>.func (.func 148) [] []
 |.tape=>.func (.func 151) [] []
 |.hP=>.func (.func 155) [] []
 |.copy=>.func (.func 157) [] []
 |.accept=>.func (.func 159) [] []
 |.source=>.func (.func 161) [] []
 |.gQ=>.func (.func 163) [] []
 |.merge=>.func (.func 165) [] []
 |.run=>.func (.func 167) [] []
 |.gO=>.func (.func 169) [] []
 |.fail=>.func (.func 171) [] []
 |.ij=>.func (.func 173) [] []
 |.rel=>.func (.func 175) [] []
def pS:Kd->AV
 |.fO=>.nilFunc
 |.line=>.func (.func 149) [] []
 |.tape=>.func (.func 152) [] []
 |.hP=>.func (.func 156) [] []
 |.copy=>.func (.func 158) [] []
 |.accept=>.func (.func 160) [] []
 |.source=>.func (.func 162) [] []
 |.gQ=>.func (.func 164) [] []
 |.merge=>.func (.func 166) [] []
 |.run=>.func (.func 168) [] []
 |.gO=>.func (.func 170) [] []
 |.fail=>.func (.func 172) [] []
 |.ij=>.func (.func 174) [] []
 |.rel=>.func (.func 176) [] []
def Fb:Kd->Option Nat
 |.fO=>none
 |.line=>some 0
 |.tape=>some 3
 |.hP=>some 1
 |.copy=>some 3
 |.accept=>some 0
 |.source=>some 1
 |.gQ=>none
 |.merge=>none
 |.run=>none
 |.gO=>none
 |.fail=>none
 |.ij=>none
 |.rel=>none
def y9(h:ah)(d:Kd)(v:AV):Prop:=
 match Fb d with
 |none=>v=.nilFunc
 |some 3=>v=.func (.func 153) [] []
 |some i=>∃b,v=.func (.func 240) [] [.ptr b 0]/\h[b]? =some (.b [.i (i:Int)])
structure BB(h:ah)(d:Kd)(v:AV):Prop where
 ex:∃rs a,v=.agg [rs,.i (bK d:Int),kS d,pS d,a]/\aI h rs 2 ((aM d).map gI)/\a.one=true/\y9 h d a
def PL(vf:Kd->AV):List (AV×AV):=G9.map λd=>(.str (bw d),vf d)
structure vz(h:ah)(r:Nat)(vf:Kd->AV):Prop where
 m:h[r]? =some (.bu (PL vf))
 k:∀d,BB h d (vf d)
theorem zW{vf:Kd->AV}{k:By}:∀{L:List Kd},jW .s (.str k) (L.map λd=>(AV.str (bw d),vf d))=some ((L.find? λd=>bw d==k).map vf)
 |[]=>rfl
 |d::L=>by
  rw[aaJ,List.find?_cons];by_cases hk:k=bw d
  ·subst hk;simp only[jW,dJ,BEq.rfl,abF]
  ·have h1:(k==bw d)=false:=by simp[hk]
   have h2:(bw d==k)=false:=by simp[abe hk]
   simp only[jW,dJ,h1,h2];exact zW
def vz.look{h:ah}{r:Nat}{vf:Kd->AV}(o:vz h r vf){z:AV}{ok:Bool}{k:By}:jj .s z ok (.map r) (.str k) (λb=>h[b]?)=lX z ok ((ff k).map vf):=rP o.m zW
def HB(h g:ah)(s:AV)(rs:List (Nat×Bool)):Prop:=∀X,aI (h++[X]++g) s 2 (rs.map gI)
theorem HB.app{h g s rs}(o:HB h g s rs)(g':ah):HB h (g++g') s rs:=λX=>by rw[<-ZO];exact(o X).app g'
def Sp(h g:ah)(b:Nat)(i:Int):Prop:=∀X,(h++[X]++g)[b]? =some (an.b [.i i])
theorem y9.app{h d v}(o:y9 h d v)(g:ah):y9 (h++g) d v:=by
 unfold y9 at *;split at o
 ·exact o
 ·exact o
 ·obtain⟨b,h1,h2⟩:=o;exact⟨b,h1,(Ext.app g (Ext.refl _)).some h2⟩
theorem BB.app{h d v}(o:BB h d v)(g:ah):BB (h++g) d v:=by
 obtain⟨rs,a,e,hs,ha,hb⟩:=o.ex;exact⟨rs,a,e,hs.app g,ha,hb.app g⟩
def lZ(ds:List Kd)(vf:Kd->AV):List (AV×AV):=ds.map λd=>(.str (bw d),vf d)
def Fa(vf:Kd->AV)(d:Kd)(v:AV):Kd->AV:=λx=>if x=d then v else vf x
def BG(a:Nat)(F:List (Nat×AV)):Bool:=decide (a<56)&&decide (a≠1)&&F.all λp=>decide (p.1≠a)
structure sN(h:ah)(ts:TS)(g:ah)(ds:List Kd)(vf:Kd->AV)(F:List (Nat×AV)):Prop where
 l:ts.length=56
 m:slot ts 1=.map h.length
 f:∀p∈F,slot ts p.1=p.2
 e:∀d∈ds,∀X,BB (h++[X]++g) d (vf d)
def sN.put{h ts g ds vf F}(s:sN h ts g ds vf F){a v}(g':ah)(hc:BG a F=true):sN h (ts.set a v) (g++g') ds vf ((a,v)::F):=by
 simp only[BG,aaq,aaA,aas]at hc;have hl:a+1<=ts.length:=by rw[s.l];omega
 refine⟨by simp only[bd,s.l],by simp only[bd,abn hc.1.2,s.m],λp hp=>?_,λd hd X=>?_⟩
 ·rcases aap.1 hp with rfl|hp
  ·simp only[bd,hl]
  ·simp only[bd,abn (λe=>hc.2 p hp (Eq.symm e)),s.f p hp]
 ·rw[<-ZO];exact(s.e d hd X).app g'
theorem BO{vf k v}:∀{ds},ds.all (λx=>!(bw x==k))=true->pK .s (.str k) v (lZ ds vf)=some (lZ ds vf++[(.str k,v)])
 |[],_=>rfl
 |d::ds,hd=>by
  rw[abp,aaq]at hd;have h2:(bw d==k)=false:=by simpa using hd.1
  have h3:¬bw d=k:=by simpa using hd.1
  have h1:(k==bw d)=false:=by simp[abe h3]
  have:=BO (vf:=vf) (v:=v) hd.2;unfold lZ at *;simp only[aaJ,pK,dJ,h1,h2,this,abF,aaX]
def jr:AV.one .nilFunc=true:=rfl
section
variable {P:Program}(T:fD P) {h:ah}
include T
def r147(t:Int):ay P 147 [.i t] h (λv _=>v=.agg [.i t,.bool false]):=by
 refine .of T.mix T.c147 ?_;unfold fn147 gA;exact Wn Tv
def r154(t:Int):ay P 154 [.i t] h (λv _=>v=.agg [.i t,.bool true]):=by
 refine .of T.mix T.c154 ?_;unfold fn154 gA;exact Wn Tv
def r150(i:Int):ay P 150 [.i i] h (λv h'=>v=.func (.func 240) [] [.ptr h.length 0]/\h' =h++[.b [.i i]]):=by
 refine .of T.mix T.c150 ?_;unfold fn150 gA;exact Wn Tv
section
variable {ks:List Kt}{ts:TS}{Q:Ex->TS->ah->Prop}{g:ah}{ds:List Kd}{vf:Kd->AV}{F:List (Nat×AV)}{a:Nat}{l:List bN}
def kr{t}(s:sN h ts g ds vf F)(hc:BG a F=true)(K:∀ts' g',sN h ts' (g++g') ds vf ((a,.agg [.i t,.bool false])::F)->WP P bL l ks ts' (h++[.bu (lZ ds vf)]++(g++g')) Q):
  WP P bL (.c a 147 [.c (.i t)]::l) ks ts (h++[.bu (lZ ds vf)]++g) Q:=by
 refine Wn ?_;refine WF.ce T.c147 (r147 T t) λg1=>?_
 exact z175
def ko{t}(s:sN h ts g ds vf F)(hc:BG a F=true)(K:∀ts' g',sN h ts' (g++g') ds vf ((a,.agg [.i t,.bool true])::F)->WP P bL l ks ts' (h++[.bu (lZ ds vf)]++(g++g')) Q):
  WP P bL (.c a 154 [.c (.i t)]::l) ks ts (h++[.bu (lZ ds vf)]++g) Q:=by
 refine Wn ?_;refine WF.ce T.c154 (r154 T t) λg1=>?_
 exact z175
def Fc{t}(s:sN h ts g ds vf F)(hc:BG a F=true)(K:∀ts' g' b,sN h ts' (g++g') ds vf ((a,.func (.func 240) [] [.ptr b 0])::F)->Sp h (g++g') b t->WP P bL l ks ts' (h++[.bu (lZ ds vf)]++(g++g')) Q):
  WP P bL (.c a 150 [.c (.i t)]::l) ks ts (h++[.bu (lZ ds vf)]++g) Q:=by
 refine Wn ?_;refine WF.res T.c150 (r150 T t) ?_;rintro _ g1 ⟨rfl,hg⟩;have hg:=abC hg;subst hg;rw[ZO (h++[an.bu (lZ ds vf)]) g];refine K _ _ _ (s.put _ hc) λX=>?_
 have e:(h++[an.bu (lZ ds vf)]++g).length=(h++[X]++g).length:=Si
 rw[e,<-ZO];exact ba
theorem C3{N}(s:sN h ts g ds vf F)(hc:BG a []=true){n xs}(hN:N=(h++[an.bu (lZ ds vf)]++g).length)(hn:xs.length=n)(K:∀ts' g' s,sN h ts' (g++g') ds vf [(a,s)]->HB h (g++g') s xs->WP P bL l ks ts' (h++[.bu (lZ ds vf)]++(g++g')) Q):
  WP P bL l ks (ts.set a (.slice N 0 n 2)) (h++[.bu (lZ ds vf)]++g++[.cells (xs.map gI).flatten true true]) Q:=by
 subst hN;subst hn;rw[ZO (h++[an.bu (lZ ds vf)]) g];have s0:sN h ts g ds vf []:=⟨s.l,s.m,λ_ hp=>(by cases hp),s.e⟩;refine K _ _ _ (s0.put _ hc) λX=>?_
 have e:(h++[an.bu (lZ ds vf)]++g).length=(h++[X]++g).length:=Si
 rw[e,<-ZO];have:=(Fr.push (N:=0) (h:=h++[X]++g) (aam _) (xs.map gI) (es:=2) (by intro c hc;obtain⟨x,_,rfl⟩:=aal.1 hc;rfl)).aO
 rwa [ZU]at this
def ua{a0 x0}(s:sN h ts g ds vf [(a0,.agg (gI x0))])(hc:BG a []=true)(K:∀ts' g' s,sN h ts' (g++g') ds vf [(a,s)]->HB h (g++g') s [x0]->WP P bL l ks ts' (h++[.bu (lZ ds vf)]++(g++g')) Q):
  WP P bL (.o a (.bh 2 1 [.i 0,.bool false] [(0,.t a0)])::l) ks ts (h++[.bu (lZ ds vf)]++g) Q:=by
 have s0:slot ts a0=.agg [.i (x0.1:Int),.bool x0.2]:=s.f (a0,.agg (gI x0)) Si;refine Ws @s0 ?_;exact C3 T s hc rfl rfl K
def wR{a0 a1 x0 x1}(s:sN h ts g ds vf [(a1,.agg (gI x1)),(a0,.agg (gI x0))])(hc:BG a []=true)(K:∀ts' g' s,sN h ts' (g++g') ds vf [(a,s)]->HB h (g++g') s [x0,x1]->WP P bL l ks ts' (h++[.bu (lZ ds vf)]++(g++g')) Q):
  WP P bL (.o a (.bh 2 2 [.i 0,.bool false] [(0,.t a0),(2,.t a1)])::l) ks ts (h++[.bu (lZ ds vf)]++g) Q:=by
 have s0:slot ts a0=.agg [.i (x0.1:Int),.bool x0.2]:=s.f (a0,.agg (gI x0)) Si;have s1:slot ts a1=.agg [.i (x1.1:Int),.bool x1.2]:=s.f (a1,.agg (gI x1)) Si;refine Ws (A2 @s0 @s1) ?_;exact C3 T s hc rfl rfl K
def Hc{a0 a1 a2 x0 x1 x2}(s:sN h ts g ds vf [(a2,.agg (gI x2)),(a1,.agg (gI x1)),(a0,.agg (gI x0))])(hc:BG a []=true)(K:∀ts' g' s,sN h ts' (g++g') ds vf [(a,s)]->HB h (g++g') s [x0,x1,x2]->WP P bL l ks ts' (h++[.bu (lZ ds vf)]++(g++g')) Q):
  WP P bL (.o a (.bh 2 3 [.i 0,.bool false] [(0,.t a0),(2,.t a1),(4,.t a2)])::l) ks ts (h++[.bu (lZ ds vf)]++g) Q:=by
 have s0:slot ts a0=.agg [.i (x0.1:Int),.bool x0.2]:=s.f (a0,.agg (gI x0)) Si;have s1:slot ts a1=.agg [.i (x1.1:Int),.bool x1.2]:=s.f (a1,.agg (gI x1)) Si;have s2:slot ts a2=.agg [.i (x2.1:Int),.bool x2.2]:=s.f (a2,.agg (gI x2)) Si;refine Ws (A3 @s0 @s1 @s2) ?_;exact C3 T s hc rfl rfl K
theorem MJ{v}:WP P bL [.o a (.bY (.c v))] ks ts h Q=WE P bL .normal ks (ts.set a v) h Q:=by
 unfold bN.o;rw[D1,DZ,zg,qn]
theorem MK:WP P bL (.o a .oD::l) ks ts h Q=WP P bL l ks (ts.set a (.map h.length)) (h++[.bu []]) Q:=xY
theorem Ha{z ps v}(d:Kd)(s:sN h ts g ds vf F)(hc:BG a []=true)(hd:ds.all (λx=>!(bw x==bw d))=true)
  (hv:sj (fy z (ps.map λp=>(p.1,p.2.1,val ts p.2.2)))=some v) (ok:∀X,BB (h++[X]++g) d v)
  (K:∀ts',sN h ts' g (ds++[d]) (Fa vf d v) []->WP P bL l ks ts' (h++[.bu (lZ (ds++[d]) (Fa vf d v))]++g) Q):
  WP P bL (.o a (.build z ps):: .x (.gy .s (.t 1) (.c (.str (bw d))) (.t a))::l) ks ts (h++[.bu (lZ ds vf)]++g) Q:=by
 have e1:uN .s (.map h.length) (.str (bw d)) v (λb=>(h++[an.bu (lZ ds vf)]++g)[b]?)=some (aA,.set h.length (.bu (lZ ds vf++[(.str (bw d),v)]))):=uM vd (BO hd);have hn:∀x∈ds,x≠d:=λx hx e=>by
  have:=aas.1 hd x hx;rw[e]at this;simp at this
 have eL:lZ ds vf++[(.str (bw d),v)]=lZ (ds++[d]) (Fa vf d v):=by
  unfold lZ;rw[ZV,List.map_singleton,Fa,ZY rfl];exact aan (· ++_) (List.map_congr_left λx hx=>by rw[Fa,ZW (hn x hx)])
 unfold bN.o bN.x;rw[sJ,hv,vj,vt];simp only[BG,aaq,aaA]at hc;have hl:a+1<=ts.length:=by rw[s.l];omega
 have e2:val (put ts (some a) v) (.t 1)=.map h.length:=by
  simp only[qn,vH,bd,abn hc.1.2,s.m]
 have e3:val (put ts (some a) v) (.t a)=v:=by simp only[qn,vH,bd,hl]
 rw[jR,e2,e3,zg,e1,sI,CG,qn];have e4:(h++[an.bu (lZ ds vf)]++g).set h.length (.bu (lZ ds vf++[(.str (bw d),v)]))=h++[.bu (lZ ds vf++[(.str (bw d),v)])]++g:=zq;rw[e4,eL];refine K _ ⟨by simp only[bd,s.l],by simp only[bd,abn hc.1.2,s.m],λ_ hp=>(by cases hp),λx hx X=>?_⟩;rcases ZX.1 hx with hx|hx
 ·rw[Fa,ZW (hn x hx)];exact s.e x hx X
 ·rw[Z9.1 hx,Fa,ZY rfl];exact ok X
def pU{i f2 f3 n x4 r a4}(d:Kd)(s:sN h ts g ds vf F)(hc:BG a []=true)(hd:ds.all (λx=>!(bw x==bw d))=true)(hi:(i,r)∈F)(hb:HB h g r (aM d))(h4:val ts x4=a4)(o4:a4.one=true)(b4:∀X,y9 (h++[X]++g) d a4)
  (hn:(bK d:Int)=n) (h2:kS d=.func (.func f2) [] []) (h3:pS d=.func (.func f3) [] [])
  (K:∀ts',sN h ts' g (ds++[d]) (Fa vf d (.agg [r,.i n,kS d,pS d,a4])) []->WP P bL l ks ts' (h++[.bu (lZ (ds++[d]) (Fa vf d (.agg [r,.i n,kS d,pS d,a4])))]++g) Q):
  WP P bL (.o a (.build [.af,.i 0,.nilFunc,.nilFunc,.nilFunc] [(0,1,.t i),(1,1,.c (.i n)),(2,1,.f f2),(3,1,.f f3),(4,1,x4)]):: .x (.gy .s (.t 1) (.c (.str (bw d))) (.t a))::l) ks ts (h++[.bu (lZ ds vf)]++g) Q:=by
 have s0:slot ts i=r:=s.f (i,r) hi;have o0:r.one=true:=(hb (.bu [])).one;refine Ha T d s hc hd ?_ (λX=>⟨r,a4,by rw[hn],hb X,o4,b4 X⟩) K;exact Ws (A6 @s0 @h4 @o0 @o4 @h2 @h3) Tv
end
def r90:ay P 90 [] h (λv h'=>∃vf,v=.map h.length/\vz h' h.length vf):=by
 refine .R2 56 T.mix T.c90 ?_;intro ts hlen;unfold fn90;have m0:slot ((ts.set 0 AV.dF).set 1 (.map h.length)) 1=.map h.length:=by simp only[bd,hlen,reduceAdd,reduceLeDiff]
 have l0:((ts.set 0 AV.dF).set 1 (.map h.length)).length=56:=by simp only[bd,hlen]
 dsimp only[ai.j,ai.s,ai.r];rw[sK,sL,MJ T,vv,sK,sL,MK T];rw[<-aaf (h++[an.bu []])];generalize (ts.set 0 AV.dF).set 1 (.map h.length)=ts at *;clear hlen;have s:sN h ts [] [] (λ_=>aA) []:=⟨l0,m0,λ_ hp=>(by cases hp),λ_ hd=>(by cases hd)⟩;clear l0 m0;refine Ha T .fO s rfl rfl (v:=.agg [.af,.i 0,.nilFunc,.nilFunc,.nilFunc]) rfl (λX=>⟨_,_,rfl,.nil,rfl,rfl⟩) ?_;intro ts s;refine kr T (t:=0) s rfl ?_;intro ts g s;refine ua T (x0:=(0,false)) s rfl ?_;intro ts g r s b;refine Fc T (t:=0) s rfl ?_;intro ts g p s c;refine pU T .line s rfl rfl (by simp only[aap,true_or,or_true]) (b.app g) (s.f (_,_) (aaH ..)) rfl (λX=>⟨p,rfl,c X⟩) rfl rfl rfl ?_
 intro ts s;refine kr T (t:=1) s rfl ?_;intro ts g s;refine ua T (x0:=(1,false)) s rfl ?_;intro ts g r s b;refine pU T .tape s rfl rfl (aaH ..) b rfl rfl (λ_=>rfl) rfl rfl rfl ?_;intro ts s;refine kr T (t:=2) s rfl ?_;intro ts g s;refine ko T (t:=0) s rfl ?_;intro ts g s;refine ko T (t:=1) s rfl ?_;intro ts g s;refine Hc T (x0:=(2,false)) (x1:=(0,true)) (x2:=(1,true)) s rfl ?_;intro ts g r s b;refine Fc T (t:=1) s rfl ?_;intro ts g p s c;refine pU T .hP s rfl rfl (by simp only[aap,true_or,or_true]) (b.app g) (s.f (_,_) (aaH ..)) rfl (λX=>⟨p,rfl,c X⟩) rfl rfl rfl ?_;intro ts s;refine ko T (t:=1) s rfl ?_
 intro ts g s;refine ko T (t:=1) s rfl ?_;intro ts g s;refine wR T (x0:=(1,true)) (x1:=(1,true)) s rfl ?_;intro ts g r s b;refine pU T .copy s rfl rfl (aaH ..) b rfl rfl (λ_=>rfl) rfl rfl rfl ?_;intro ts s;refine ko T (t:=0) s rfl ?_;intro ts g s;refine ua T (x0:=(0,true)) s rfl ?_;intro ts g r s b;refine Fc T (t:=0) s rfl ?_;intro ts g p s c;refine pU T .accept s rfl rfl (by simp only[aap,true_or,or_true]) (b.app g) (s.f (_,_) (aaH ..)) rfl (λX=>⟨p,rfl,c X⟩) rfl rfl rfl ?_;intro ts s;refine kr T (t:=3) s rfl ?_;intro ts g s;refine ko T (t:=0) s rfl ?_;intro ts g s;refine wR T (x0:=(3,false)) (x1:=(0,true)) s rfl ?_
 intro ts g r s b;refine Fc T (t:=1) s rfl ?_;intro ts g p s c;refine pU T .source s rfl rfl (by simp only[aap,true_or,or_true]) (b.app g) (s.f (_,_) (aaH ..)) rfl (λX=>⟨p,rfl,c X⟩) rfl rfl rfl ?_;intro ts s;refine kr T (t:=3) s rfl ?_;intro ts g s;refine ko T (t:=3) s rfl ?_;intro ts g s;refine wR T (x0:=(3,false)) (x1:=(3,true)) s rfl ?_;intro ts g r s b;refine pU T .gQ s rfl rfl (aaH ..) b rfl rfl (λ_=>rfl) rfl rfl rfl ?_;intro ts s;refine kr T (t:=3) s rfl ?_;intro ts g s;refine ko T (t:=3) s rfl ?_;intro ts g s;refine ko T (t:=3) s rfl ?_;intro ts g s;refine Hc T (x0:=(3,false)) (x1:=(3,true)) (x2:=(3,true)) s rfl ?_
 intro ts g r s b;refine pU T .merge s rfl rfl (aaH ..) b rfl rfl (λ_=>rfl) rfl rfl rfl ?_;intro ts s;refine kr T (t:=4) s rfl ?_;intro ts g s;refine ko T (t:=3) s rfl ?_;intro ts g s;refine wR T (x0:=(4,false)) (x1:=(3,true)) s rfl ?_;intro ts g r s b;refine pU T .run s rfl rfl (aaH ..) b rfl rfl (λ_=>rfl) rfl rfl rfl ?_;intro ts s;refine ko T (t:=4) s rfl ?_;intro ts g s;refine ua T (x0:=(4,true)) s rfl ?_;intro ts g r s b;refine pU T .gO s rfl rfl (aaH ..) b rfl rfl (λ_=>rfl) rfl rfl rfl ?_;intro ts s;refine ko T (t:=4) s rfl ?_;intro ts g s;refine ua T (x0:=(4,true)) s rfl ?_;intro ts g r s b
 refine pU T .fail s rfl rfl (aaH ..) b rfl rfl (λ_=>rfl) rfl rfl rfl ?_;intro ts s;refine kr T (t:=5) s rfl ?_;intro ts g s;refine ko T (t:=4) s rfl ?_;intro ts g s;refine wR T (x0:=(5,false)) (x1:=(4,true)) s rfl ?_;intro ts g r s b;refine pU T .ij s rfl rfl (aaH ..) b rfl rfl (λ_=>rfl) rfl rfl rfl ?_;intro ts s;refine ko T (t:=5) s rfl ?_;intro ts g s;refine ua T (x0:=(5,true)) s rfl ?_;intro ts g r s b;refine pU T .rel s rfl rfl (aaH ..) b rfl rfl (λ_=>rfl) rfl rfl rfl ?_;intro ts s;have hlen:=s.l;have t1:=s.m;refine Rs t1 ?_;exact⟨_,vd,λd=>s.e d (by cases d<;>decide) _⟩
end
end Go.Abs
