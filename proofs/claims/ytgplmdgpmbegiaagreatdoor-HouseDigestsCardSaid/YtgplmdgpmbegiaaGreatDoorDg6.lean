/- A part of the proof that HouseDigests holds. No condition. -/
import Derived.Test.YtgplmdgpmbegiaaGreatDoorDg4
import Derived.Test.YtgplmdgpmbegiaaGreatDoorDg0
set_option maxHeartbeats 4000000
set_option linter.all false
open Nat (reduceAdd reduceMul reduceLeDiff reduceEqDiff)
namespace Go.Abs
def gL:
  (∀{b o:Nat}{n:Option Nat}{X:af}{K:ai}(_:b=X.length),au n (.ptr b o) (λz=>(X++[K])[z]?)=dy n o K)/\
  (∀{b o:Nat}{n:Option Nat}{X a:af}(_:b<X.length),au n (.ptr b o) (λz=>(X++a)[z]?)=au n (.ptr b o) (λz=>X[z]?))/\
  (∀{b o y:Nat}{v:AV}{X:af}{K:ai}(_:b=X.length),bB y (.ptr b o) v (λz=>(X++[K])[z]?)=iP y o v b K)/\
  (∀{b o y:Nat}{v:AV}{X a:af}(_:b<X.length),bB y (.ptr b o) v (λz=>(X++a)[z]?)=bB y (.ptr b o) v (λz=>X[z]?))/\
  (∀{b:Nat}{X:af}{K K':ai}(_:b=X.length),(X++[K]).set b K' =X++[K'])/\
  (∀{b:Nat}{X a:af}{K':ai}(_:b<X.length),(X++a).set b K' =X.set b K'++a)/\
  (∀{b pos:Nat}{s:By}{X:af}(_:b=X.length),eo (.ptr b 0) (λz=>(X++[.iter s pos])[z]?)=dc b s pos)/\
  (∀{b:Nat}{X a:af}(_:b<X.length),eo (.ptr b 0) (λz=>(X++a)[z]?)=eo (.ptr b 0) (λz=>X[z]?)):=by
 refine⟨λh=>?_,λh=>?_,λh=>?_,λh=>?_,λh=>?_,λh=>?_,λh=>?_,λh=>?_⟩
 ·subst h;exact az bF
 ·simp only[au,cF _ h]
 ·subst h;exact aX bF
 ·simp only[bB,cF _ h]
 ·subst h;exact vR
 ·exact dD _ _ h
 ·subst h;exact cW bF
 ·simp only[eo,cF _ h]
end Go.Abs
namespace Go.Abs
def kT{h':af}{X:ai}{g:af}{n:Nat}(hn:h'.length=n):(h'++[X]++g)[n]? =some X:=by
 subst hn;exact z117
def pk{h':af}{X Y:ai}{g:af}{n:Nat}(hn:h'.length=n):(h'++[X]++g).set n Y=h'++[Y]++g:=by
 subst hn;rw[Ti,Ub _ _ (Ts _),Uf,Ti];rfl
structure Iter(P:Program)(f:FuncId)(a c:List AV)(L:List (List AV))(pre:af->Prop):Prop where
 run:∀(l:Nat) (h:af) (J:Nat->af->Prop) (D:af->Prop),(∀i k,J i k->pre k)->(∀i k g,J i k->J i (k++g))->
  (∀i (hi:i<L.length) k,J i k->∃b k',dP P (.func (.yield l) [] []) L[i] k (.bool b) k'/\(if b=true then J (i+1) k' else D k'))->
  (∀k,J L.length k->D k)->J 0 h->cT P f (a++[.func (.yield l) [] []]++c) h (λ_ k=>D k)
section
variable {P:Program}{ks:List Kt}{ts:TS}{h:af}{Q:Ex->TS->af->Prop}
def WC.iter(hmix:P.follows .mixedOrders=true){f A a c L pre g ps asg body}(hA:bf P f=some A)
  (hg:val ts g=.func (.func f) a c) (hi:Iter P f a c L pre) (hps:∀x∈L,x.length=ps.length) (I:Nat->af->af->Prop) (Fin:Ex->af->af->Prop)
  (h0:I 0 h []) (hcl:∀i h' g g2,I i h' g->I i h' (g++g2)) (hpre:∀i h' g X,h'.length=h.length->I i h' g->pre (h'++[X]++g))
  (step:∀i (hi:i<L.length) h' g (R B:ai),h'.length=h.length->I i h' g->
   WC P zW asg [] (setArgs ts ps L[i]) (h'++[R]++g) λe1 Qp h2=>e1=.normal/\∃h1 g1,h2=h1++[R]++g1/\h1.length=h.length/\
    WC P zW body [] Qp (h1++[B]++g1) λe2 _ h4=>∃h3 g3,h4=h3++[B]++g3/\h3.length=h.length/\(if e2=.normal then I (i+1) h3 g3 else Fin e2 h3 g3))
  (done:∀e h' g,h'.length=h.length->(if e=.normal then I L.length h' g else Fin e h' g)->WE P bS e ks ts (h'++[ai.dead]++g) Q):WC P bS (.eM g ps asg body) ks ts h Q:=by
 let J:Nat->af->Prop:=λi k=>∃h' g,k=h'++[.loop .ready .normal ts ps asg body]++g/\h'.length=h.length/\I i h' g
 let D:af->Prop:=λk=>∃e h' g st,k=h'++[.loop st e ts ps asg body]++g/\h'.length=h.length/\st≠.busy/\(if e=.normal then I L.length h' g else Fin e h' g)
 obtain⟨v,h2,hs,e,h',g',st,rfl,hl,bp,OZ⟩:=hi.run h.length (h++[.loop .ready .normal ts ps asg body]) J D
  (λi k hJ=>by obtain⟨h',g,rfl,h1,h2⟩:=hJ;exact hpre i h' g _ h1 h2)
  (λi k g2 hJ=>by obtain⟨h',g,rfl,h1,h2⟩:=hJ;exact⟨h',g++g2,by rw[Ti],h1,hcl _ _ _ _ h2⟩)
  (λi hi k hJ=>by
   obtain⟨h',g,rfl,h1,h2⟩:=hJ;obtain⟨e1,Qp,k2,q1,rfl,h3,g3,rfl,h4,q2⟩:=W.sound hmix (step i hi h' g (.loop .ready .normal ts ps asg body) (.loop .busy .normal ts ps asg body) h1 h2);obtain⟨e2,ts3,k3,q3,h5,g5,rfl,h6,q4⟩:=W.sound hmix q2;have hy:dP P (.func (.yield h.length) [] []) L[i] (h'++[.loop .ready .normal ts ps asg body]++g) (.bool (decide (e2=.normal))) (List.set (h5++[ai.loop .busy .normal ts ps asg body]++g5) h.length (ai.loop (if e2=.normal then .ready else .done) e2 ts ps asg body)):=
    dP.yield (kT h1) (hps _ (TE hi)) (λr=>q1 (some r) ⟨r,rfl⟩) (kT h4) (λr=>by rw[pk h4];exact q3 (some r) ⟨r,rfl⟩) (kT h6)
   rw[pk h6]at hy;refine⟨decide (e2=.normal),_,hy,?_⟩;by_cases he:e2=.normal
   ·exact z107
   ·rw[Tt he]at q4;simp only[he,Uq,T8,TT];exact⟨e2,h5,g5,.done,rfl,h6,Si,by rw[Tt he];exact q4⟩)
  (λk hJ=>by obtain⟨h',g,rfl,h1,h2⟩:=hJ;exact⟨.normal,h',g,.ready,rfl,h1,Si,by rw[Ty rfl];exact h2⟩)
  ⟨h,[],by rw[TH],rfl,h0⟩
 exact z49
end
end Go.Abs
namespace Go.Abs
theorem sG:∀(l c pre:List AV),c.length=l.length->eJ (pre++c) pre.length l=pre++l
 |[],c,pre,h=>by
  exact GJ
 |x::l,[],pre,h=>by simp at h
 |x::l,y::c,pre,h=>by
  have e1:(pre++y::c).set pre.length x=(pre++[x])++c:=by
   exact G8
  have e2:pre.length+1=(pre++[x]).length:=Si
  rw[mL,e1,e2,sG l c (pre++[x]) (by simpa using h),Ti];rfl
theorem nO{es:Nat}{v:AV}:∀{cs:List (List AV)},(∀x∈cs,x.length=es)->∀{i off:Nat}(hi:i<cs.length),off<es->cs.flatten.set (i*es+off) v=(cs.set i (cs[i].set off v)).flatten
 |[],_,i,off,hi,_=>absurd hi (Nat.not_lt_zero _)
 |c::cs,h,0,off,hi,ho=>by
  have hc:c.length=es:=h c (T0 ..);rw[Ul,Vd,TZ,List.set_append_left _ _ Om];rfl
 |c::cs,h,i+1,off,hi,ho=>by
  have hc:c.length=es:=h c (T0 ..);have h1:=nO (v:=v) (cs:=cs) (λx hx=>h x (TK _ hx)) (i:=i) (off:=off) (by simpa using hi) ho;rw[Ul,Ub _ _ (by rw[Uw];omega),show(i+1)*es+off-c.length=i*es+off by rw[Uw];omega,h1];rfl
def lK{es w N0 n:Nat}{z:List AV}{k k':IntKind}(h1:w*n<=2^48)(h2:n<2^63):qz es w z (.int k n) (.int k' n) N0=some (.slice N0 0 n es,.push (.cells (cZ n z) true true)):=by
 simp only[qz];rw[Ty ⟨Om,Om,by exact_mod_cast h1,by exact_mod_cast h2⟩];rfl
def Fr.yG{N n es h z}(hN:N<=h.length)(hz:z.length=es):Fr N (h++[.cells (cZ n z) true true]) (.slice h.length 0 n es) es (List.replicate n z):=by
 have:=Fr.push (h:=h) (es:=es) hN (List.replicate n z) (λx hx=>by rw[(List.mem_replicate.1 hx).2];exact hz);rw[Up]at this;exact this
section
variable {P:Program}{ro:Option Nat->Prop}{ks:List Kt}{ts:TS}{Q:Ex->TS->af->Prop}{d:Option Nat}{l:List aZ}
def WR.AE{q N b es w h y ys}(hb:h[b]? =some (.cells [] true false))(hN:N<=b)(hy:aA h y es ys)(dq:ys.length*w<=2^46)
  (K:∀s' g,Fr N (h++g) s' es ys->WP P ro l ks (put ts d s') (h++g) Q):WR P ro (na es w (.slice b 0 0 es) y (λb=>h[b]?) h.length) q d l ks ts h Q:=by
 have hbl:b<h.length:=(Th.1 hb).1;simp only[na,hy.dO,TQ];by_cases hk:ys.length=0
 ·have hys:ys=[]:=Uk.1 hk;subst hys;simp only[Tr,TQ,List.flatten_nil,List.isEmpty_nil];rw[gm];have:=K (.slice b 0 0 es) [] (by rw[TH];exact Fr.mk (cs:=[]) hN hb Si)
  rwa [TH]at this
 ·simp only[Tt hk,TZ,Ty dq,hb];rw[Ty Si,kg];exact K _ _ (Fr.push Om ys hy.rows)
def WR.rm{α:Type}{row:α->List AV}{L:List α}{h0 g:af}{s v:AV}{es i off:Nat}{x':α}(hs:Fr h0.length (h0++g) s es (L.map row))(hi:i<L.length)(ho:off<es)(hv:v.one=true)(hx:row x' =(row L[i]).set off v)
  (K:∀g',g'.length=g.length->Fr h0.length (h0++g') s es ((L.set i x').map row)->(∀b,(∀b0 o n e,s=.slice b0 o n e->b≠b0)->(h0++g')[b]? =(h0++g)[b]?)->WP P ro l ks (put ts d ar) (h0++g') Q):
  WR P ro (bB 1 (Gy s es i off) v (λb=>(h0++g)[b]?)) false d l ks ts (h0++g) Q:=by
 have PR:=hs.aN.rows;generalize PK:L.map row=cs at hs;have hcl:cs.length=L.length:=by rw[<-PK,Tu]
 cases hs with
 |nil=>simp at hcl;omega
 | @mk b _ _ tl hN hb he=>
  have Of:=dz he;have hie:i*es+off<cs.flatten.length:=by
   rw[Of,hcl];have:(i+1)*es<=L.length*es:=Uj _ hi;rw[Uw]at this;omega
  have bo:cs.flatten.set (i*es+off) v=((L.set i x').map row).flatten:=by
   have:=nO (v:=v) he (i:=i) (off:=off) Om ho;rw[this,List.map_set,hx,PK];congr 2;simp[<-PK]
  have hbl:b<(h0++g).length:=(Th.1 hb).1;show WR P ro (bB 1 (.ptr b (0+i*es+off)) v (λb=>(h0++g)[b]?)) false d l ks ts (h0++g) Q;rw[TZ,aX hb,dR hv Om,pM,bo,Ub _ _ hN];refine K _ Si ?_ λb' hb'=>?_
  ·have hl2:((L.set i x').map row).length=cs.length:=by simp[hcl]
   rw[<-hl2];refine Fr.mk hN (tl:=tl) ?_ λy hy=>?_
   ·exact G5
   ·rw[List.map_set]at hy;rcases Va hy with hy|hy
    ·exact he y (by rw[<-PK];exact hy)
    ·rw[hy,hx,Um];exact he _ (by rw[<-PK];exact TR (TE hi))
  ·exact Hh
def WR.Jc{h0 g s sy es cs ys x y}(hx:val ts x=s)(hy:val ts y=sy)(hs:Fr h0.length (h0++g) s es cs)(hsy:aA (h0++g) sy es ys)(hl:cs.length=ys.length)
  (K:∀g' v,g'.length=g.length->Fr h0.length (h0++g') s es ys->(∀b,(∀b0 o n e,s=.slice b0 o n e->b≠b0)->(h0++g')[b]? =(h0++g)[b]?)->WP P ro l ks (put ts d v) (h0++g') Q):
  WR P ro (stepT (.wL es x y) (val ts) (λb=>(h0++g)[b]?) (h0++g).length) false d l ks ts (h0++g) Q:=by
 simp only[stepT,kX,hx,hy,hsy.dO];have Pr:=dz hsy.rows;cases hs with
 |nil=>
  have:ys=[]:=Uk.1 hl.symm;subst this;simp only;rw[gm];exact K g _ rfl .nil λ_ _=>rfl
 | @mk b _ _ tl hN hb he=>
  have hcl:=dz he;have Qh:min ys.length cs.length=ys.length:=Om
  simp only[TQ,Qh];by_cases hk:ys.length=0
  ·have hys:ys=[]:=Uk.1 hk;have PK:cs=[]:=Uk.1 Om;subst hys;subst PK;simp only[Tr,TQ];rw[gm];exact K g _ rfl (Fr.mk (cs:=[]) hN hb Si) λ_ _=>rfl
  ·have hbl:b<(h0++g).length:=(Th.1 hb).1;simp only[Tt hk,hb,TZ];rw[Ty (by rw[hcl,hl];omega),pM];have bo:eJ cs.flatten 0 (ys.flatten.take (ys.length*es))=ys.flatten:=by
    rw[<-Pr,T7];have:=sG ys.flatten cs.flatten [] (by rw[hcl,Pr,hl])
    simpa using this
   rw[bo,Ub _ _ hN];refine K _ _ Si ?_ λb' hb'=>?_
   ·rw[hl];refine Fr.mk hN (tl:=tl) ?_ hsy.rows;exact G5
   ·exact Hh
end
end Go.Abs
namespace Go.Abs
section
variable (P:Program) (ro:Option Nat->Prop)
def WQ(l:List aZ)(cs:List Acc)(ks:List Kt)(ts:TS)(h:af)(Q:Ex->TS->af->Prop):Prop:=yB h l ts cs λts' cs=>dJ cs/\kq P ro ks Q .normal ts' (c7 h cs)
def D8(r:Option AV)(d:Option Nat)(l:List aZ)(cs:List Acc)(ks:List Kt)(ts:TS)(h:af)(Q:Ex->TS->af->Prop):Prop:=
 match r with
 |some v=>WQ P ro l cs ks (put ts d v) h Q
 |none=>False
def Mc(a:AV)(r:Option (AV×fR))(d:Option Nat)(l:List aZ)(cs:List Acc)(ks:List Kt)(ts:TS)(h:af)(Q:Ex->TS->af->Prop):Prop:=
 match a,r with
 |.ptr b _,some (v,.aq)=>WQ P ro l (cs++[.rd b]) ks (put ts d v) h Q
 |_,_=>False
def Mb(a:AV)(r:Option (AV×fR))(d:Option Nat)(l:List aZ)(cs:List Acc)(ks:List Kt)(ts:TS)(h:af)(Q:Ex->TS->af->Prop):Prop:=
 match a,r with
 |.ptr _ _,some (v,.set b k)=>WQ P ro l (cs++[.wr b k]) ks (put ts d v) h Q
 |_,_=>False
def JN(a:AV)(b q:Bool)(k:mD)(d:Option Nat)(l:List aZ)(cs:List Acc)(ks:List Kt)(ts:TS)(h:af)(Q:Ex->TS->af->Prop):Prop:=
 match a with
 |.bool t=>if t=b then WQ P ro ({dst:=d,k:=k,gd:=none,q:=q} ::l) cs ks ts h Q else WQ P ro l cs ks (put ts d ar) h Q
 |_=>WQ P ro l cs ks (put ts d ar) h Q
end
section
variable {P:Program}{ro:Option Nat->Prop}{ks:List Kt}{ts:TS}{h:af}{Q:Ex->TS->af->Prop}{d:Option Nat}{q:Bool}{l:List aZ}{cs:List Acc}
def oz:WC P ro (.pX l) ks ts h Q=WQ P ro l [] ks ts h Q:=rfl
def AN:WQ P ro [] cs ks ts h Q=(dJ cs/\WE P ro .normal ks ts (c7 h cs) Q):=rfl
def mo{v}:D8 P ro (some v) d l cs ks ts h Q=WQ P ro l cs ks (put ts d v) h Q:=rfl
def mw{v b o}:Mc P ro (.ptr b o) (some (v,.aq)) d l cs ks ts h Q=WQ P ro l (cs++[.rd b]) ks (put ts d v) h Q:=rfl
def mq{v b b' o k}:Mb P ro (.ptr b o) (some (v,.set b' k)) d l cs ks ts h Q=WQ P ro l (cs++[.wr b' k]) ks (put ts d v) h Q:=rfl
def jm{k}(hp:ec k=true){r}(hr:stepT k (val ts) (λz=>h[z]?) h.length=r.map λv=>(v,.aq)):
  WQ P ro ({dst:=d,k:=k,gd:=none,q:=q} ::l) cs ks ts h Q=D8 P ro r d l cs ks ts h Q:=by
 apply propext
 constructor
 ·rintro⟨v,c,⟨hn,_⟩|⟨_,hs⟩,H⟩
  ·exact absurd trivial hn
  rcases hs with⟨_,rfl,hs⟩|⟨n,a,b,off,hk,_⟩|⟨n,a,x,b,off,k',hk,_⟩
  ·have hs:stepT k (val ts) (λz=>h[z]?) h.length=some (v,.aq):=hs;rw[hr]at hs;cases r with
   |none=>cases hs
   |some v'=>cases hs;exact H
  ·have hk:k=.load n a:=hk;rw[hk]at hp;cases hp
  ·have hk:k=.store n a x:=hk;rw[hk]at hp;cases hp
 ·intro H;cases r with
  |none=>exact H.elim
  |some v=>exact⟨v,.no,.inr ⟨trivial,.inl ⟨hp,rfl,hr⟩⟩,H⟩
def ou{n a}:WQ P ro ({dst:=d,k:=.load n a,gd:=none,q:=q} ::l) cs ks ts h Q=Mc P ro (val ts a) (au n (val ts a) (λz=>h[z]?)) d l cs ks ts h Q:=by
 apply propext
 constructor
 ·rintro⟨v,c,⟨hn,_⟩|⟨_,hs⟩,H⟩
  ·exact absurd trivial hn
  rcases hs with⟨hp,_⟩|⟨n',a',b,off,hk,ha,rfl,hs⟩|⟨n',a',x,b,off,k',hk,_⟩
  ·cases hp
  ·cases hk;have hs:au n (val ts a) (λz=>h[z]?)=some (v,.aq):=hs;rw[hs,ha];exact H
  ·cases hk
 ·intro H;unfold Mc at H;split at H
  ·rename_i b o v ha hr;exact⟨v,.rd b,.inr ⟨trivial,.inr (.inl ⟨n,a,b,o,rfl,ha,rfl,hr⟩)⟩,H⟩
  ·exact H.elim
def mj{n a x}:WQ P ro ({dst:=d,k:=.store n a x,gd:=none,q:=q} ::l) cs ks ts h Q=Mb P ro (val ts a) (bB n (val ts a) (val ts x) (λz=>h[z]?)) d l cs ks ts h Q:=by
 apply propext
 constructor
 ·rintro⟨v,c,⟨hn,_⟩|⟨_,hs⟩,H⟩
  ·exact absurd trivial hn
  rcases hs with⟨hp,_⟩|⟨n',a',b,off,hk,_⟩|⟨n',a',x',b,off,k',hk,ha,rfl,hs⟩
  ·cases hp
  ·cases hk
  ·cases hk;have hs:bB n (val ts a) (val ts x) (λz=>h[z]?)=some (v,.set b k'):=hs;rw[hs,ha];exact H
 ·intro H;unfold Mb at H;split at H
  ·rename_i b o v b' k ha hr;have hb:b' =b:=by
    rw[ha]at hr;simp only[bB]at hr;split at hr
    ·split at hr
     ·cases hr;rfl
     ·cases hr
    ·cases hr
   subst hb;exact⟨v,.wr b' k,(.inr ⟨trivial,.inr (.inr ⟨n,a,x,b',o,k,rfl,ha,rfl,hr⟩)⟩),H⟩
  ·exact H.elim
def wW{k g b}:WQ P ro ({dst:=d,k:=k,gd:=some (g,b),q:=q} ::l) cs ks ts h Q=JN P ro (val ts (.t g)) b q k d l cs ks ts h Q:=by
 have key:∀t:Bool,val ts (.t g)=.bool t->(wanted (some (g,b)) ts↔t=b):=λt hg=>by
  show ts[g]? =some (.bool b)↔_;have hg:ts.getD g ar=.bool t:=hg;have e:ts[g]? =some (.bool t):=by
   rw[TF]at hg;cases hx:ts[g]? with
   |none=>rw[hx]at hg;cases hg
   |some y=>rw[hx]at hg;exact TO some hg
  rw[e];simp
 have neg:(∀t,val ts (.t g)≠.bool t)->¬wanted (some (g,b)) ts:=λhn hw=>by
  have hw:ts[g]? =some (.bool b):=hw;exact hn b (by show ts.getD g ar=_;rw[TF,hw];rfl)
 have no:¬wanted (some (g,b)) ts->WQ P ro ({dst:=d,k:=k,gd:=some (g,b),q:=q} ::l) cs ks ts h Q=WQ P ro l cs ks (put ts d ar) h Q:=λhy=>by
  apply propext
  constructor
  ·rintro⟨v,c,⟨_,rfl,rfl⟩|⟨hn,hs⟩,H⟩
   ·exact H
   ·exact absurd hn hy
  ·intro H;exact⟨ar,.no,.inl ⟨hy,rfl,rfl⟩,H⟩
 unfold JN;split
 ·rename_i t ht;have hw:=key t ht;by_cases e:t=b
  ·rw[Ty e];have hy:=hw.2 e
   apply propext
   constructor
   ·rintro⟨v,c,⟨hn,_⟩|⟨_,hs⟩,H⟩
    ·exact absurd hy hn
    ·exact⟨v,c,.inr ⟨trivial,hs⟩,H⟩
   ·rintro⟨v,c,⟨hn,_⟩|⟨_,hs⟩,H⟩
    ·exact absurd trivial hn
    ·exact⟨v,c,.inr ⟨hy,hs⟩,H⟩
  ·rw[Tt e];exact no λz=>e (hw.1 z)
 ·rename_i hn;exact no (neg hn)
def rQ{k}:JN P ro (.bool true) true q k d l cs ks ts h Q=WQ P ro ({dst:=d,k:=k,gd:=none,q:=q} ::l) cs ks ts h Q:=rfl
def rR{k}:JN P ro (.bool false) true q k d l cs ks ts h Q=WQ P ro l cs ks (put ts d ar) h Q:=rfl
def oq{c a b}:WQ P ro ({dst:=d,k:=.pick c a b,gd:=none,q:=q} ::l) cs ks ts h Q=D8 P ro (qt (val ts c) (val ts a) (val ts b)) d l cs ks ts h Q:=by
 refine jm rfl ?_;simp only[stepT,kX,qt];cases val ts c<;>rfl
def ml{x}:WQ P ro ({dst:=d,k:=.len .sl x,gd:=none,q:=q} ::l) cs ks ts h Q=D8 P ro (ry (gZ .sl (λb=>h[b]?) (val ts x))) d l cs ks ts h Q:=by
 refine jm rfl ?_;simp only[stepT,kX,ry];cases gZ .sl (λb=>h[b]?) (val ts x)<;>rfl
def rO{x}:WQ P ro ({dst:=d,k:=.dw x,gd:=none,q:=q} ::l) cs ks ts h Q=WQ P ro l cs ks (put ts d (val ts x)) h Q:=jm (r:=some (val ts x)) rfl rfl
def rP{op x y}:WQ P ro ({dst:=d,k:=.bin op x y,gd:=none,q:=q} ::l) cs ks ts h Q=D8 P ro (dm op (val ts x) (val ts y)) d l cs ks ts h Q:=by
 refine jm rfl ?_;exact GN
def wT{op x}:WQ P ro ({dst:=d,k:=.un op x,gd:=none,q:=q} ::l) cs ks ts h Q=D8 P ro (um op (val ts x)) d l cs ks ts h Q:=by
 refine jm rfl ?_;simp only[stepT,kX];cases um op (val ts x)<;>rfl
def ow{off x}:WQ P ro ({dst:=d,k:=.bK off x,gd:=none,q:=q} ::l) cs ks ts h Q=D8 P ro (qN off (val ts x)) d l cs ks ts h Q:=by
 refine jm rfl ?_;simp only[stepT,kX,qN];cases val ts x<;>rfl
def kh{x}:WQ P ro ({dst:=d,k:=.bd x,gd:=none,q:=q} ::l) cs ks ts h Q=D8 P ro (nV (val ts x)) d l cs ks ts h Q:=by
 refine jm rfl ?_;exact Hc
end
def rM{a:List Acc}:[]++a=a:=rfl
def rL{c:Acc}{a b:List Acc}:(c::a)++b=c:: (a++b):=rfl
def mi{h}:c7 h []=h:=rfl
def mh{h b cs}:c7 h (.rd b::cs)=c7 h cs:=rfl
def mg{h b k cs}:c7 h (.wr b k::cs)=c7 (h.set b k) cs:=rfl
def yl(b:Nat)(cs:List Acc):Prop:=∀x∈cs,x.dx≠some b
def mf(b:Nat)(cs:List Acc):Prop:=∀x∈cs,∀k,x≠Acc.wr b k
def Ga{b}:yl b []=True:=VK λx hx=>by cases hx
def Gb{b c cs}:yl b (c::cs)=(c.dx≠some b/\yl b cs):=by
 simp[yl]
def CV{b}:mf b []=True:=VK λx hx=>by cases hx
def CU{b b' cs}:mf b (.rd b'::cs)=mf b cs:=by
 simp[mf]
def CS{b b' k cs}:mf b (.wr b' k::cs)=(b'≠b/\mf b cs):=by
 unfold mf;simp only[TP,forall_eq_or_imp];refine propext ⟨λh=>⟨λe=>h.1 k (by rw[e]),h.2⟩,λh=>⟨λk' e=>h.1 (by cases e;rfl),h.2⟩⟩
def CR:dJ []=True:=rfl
def CQ{b cs}:dJ (.rd b::cs)=(mf b cs/\dJ cs):=by
 unfold mf;simp only[dJ,Acc.dx,TG];refine propext ⟨λh=>⟨λx hx k hk=>h.1 b rfl x hx (by rw[hk]) k k (.inr hk),h.2⟩,λh=>⟨λb' e x hx _ k k' hk=>?_,h.2⟩⟩;subst e;rcases hk with hk|hk
 ·cases hk
 ·exact h.1 x hx k' hk
def CP{b k cs}:dJ (.wr b k::cs)=(yl b cs/\dJ cs):=by
 unfold yl;simp only[dJ,Acc.dx,TG];refine propext ⟨λh=>⟨λx hx hk=>h.1 b rfl x hx hk k k (.inl rfl),h.2⟩,λh=>⟨λb' e x hx hk _ _ _=>?_,h.2⟩⟩;subst e;exact h.1 x hx hk
def Jg{b}:(Acc.rd b).dx=some b:=rfl
def Jf{b k}:(Acc.wr b k).dx=some b:=rfl
def bP:
  (∀{ts:TS}{i j:Nat}{v:AV}(_:(i=j)=False),slot (ts.set i v) j=slot ts j)/\
  (∀{ts:TS}{i:Nat}{v:AV}(_:i+1<=ts.length),slot (ts.set i v) i=v)/\
  (∀{ts:TS}{i:Nat}{X:Prop}(_:i+1<=ts.length),IF ts[i]? X=X)/\
  (∀{ts:TS}{i:Nat}{v:AV},(ts.set i v).length=ts.length)/\
  (∀{u:TypeId}{x:AV}{G:Nat->Option ai}{N:Nat},kF (.rZ u) x G N=some (.rZ u x,.aq)):=by
 refine⟨λ{ts i j v} h=>?_,λ{ts i v} h=>?_,λ{ts i X} h=>by rw[Tk h];rfl,λ{ts i v}=>Um,rfl⟩
 ·have hne:i≠j:=λe=>by rw[<-h];exact e
  unfold slot;rw[List.getD,List.getD,Ua hne]
 ·unfold slot;rw[List.getD,T2 h];rfl
end Go.Abs
namespace Go.Abs
abbrev ai.b(l:List AV):ai:=.cells l true false
abbrev AV.i(n:Int):AV:=.int .i64 n
def Rs{A B F:Prop}(f:F)(b:B)(e:F->(B->A)/\(∃x:Prop,x=B):=by(intro f;refine⟨λb=>?_,?_⟩;(focus (repeat (first|simp (config:={maxSteps:=1000000}) only[bx,bo,bL,bM,reduceAdd,reduceMul,reduceLeDiff,reduceEqDiff,bP,hlen,TT,TQ,f]|simp (config:={maxSteps:=1000000}) (disch:=first|(simp only[Tg,Tl,Tr]<;>omega)|rfl|omega|fail) only[gL,bx,bo,bL,bM,reduceAdd,reduceMul,reduceLeDiff,reduceEqDiff,bP,hlen,TT,TQ,f]));all_goals exact b);first|exact⟨True,rfl⟩|exact⟨_,rfl⟩)):A:=(e f).1 b
def Zs{A B F:Prop}(f:F)(b:B)(e:F->(B->A)/\(∃x:Prop,x=B):=by(intro f;refine⟨λb=>?_,?_⟩;(focus (simp only[bx,bo,bL,bM,reduceAdd,reduceMul,reduceLeDiff,reduceEqDiff,bP,hlen,TT,TQ,f]);all_goals exact b);first|exact⟨True,rfl⟩|exact⟨_,rfl⟩)):A:=(e f).1 b
def Ws{A B F:Prop}(f:F)(b:B)(e:F->(B->A)/\(∃x:Prop,x=B):=by(intro f;refine⟨λb=>?_,?_⟩;(focus (simp only[bx,bo,bL,bM,reduceAdd,reduceMul,reduceLeDiff,reduceEqDiff,TQ,TT,f]);all_goals exact b);first|exact⟨True,rfl⟩|exact⟨_,rfl⟩)):A:=(e f).1 b
def Wn{A B:Prop}(b:B)(e:(B->A)/\(∃x:Prop,x=B):=by(refine⟨λb=>?_,?_⟩;(focus (simp only[bx,bo,bL,bM,reduceAdd,reduceMul,reduceLeDiff,reduceEqDiff,TQ,TT]);all_goals exact b);first|exact⟨True,rfl⟩|exact⟨_,rfl⟩)):A:=e.1 b
def Sq{A F:Prop}(f:F)(e:F->A:=by(intro f;simp only[bx,bo,bL,bM,reduceAdd,reduceMul,reduceLeDiff,reduceEqDiff,bP,hlen,TT,TQ,f])):A:=e f
def Sw{A:Prop}(e:A:=by simp only[bx,bo,bL,bM,reduceAdd,reduceMul,reduceLeDiff,reduceEqDiff,bP,hlen,TT,TQ]):A:=e
def Nx{A F:Prop}(f:F)(e:F->A:=by(intro f;(simp only[bx,bo,bL,bM,reduceAdd,reduceMul,reduceLeDiff,reduceEqDiff,bP,hlen,TT,TQ,f];rfl))):A:=e f
def my{A:Prop}(e:A:=by(simp only[bx,bo,bL,bM,reduceAdd,reduceMul,reduceLeDiff,reduceEqDiff,bP,hlen,TT,TQ];rfl)):A:=e
def Sn{A:Prop}(e:A:=by simp only[bP,hlen]):A:=e
def Xx{A:Prop}(e:A:=by repeat first|with_reducible exact Ext.refl _|refine Ext.app _ ?_):A:=e
def ao.Nr{P:Program}{h:af}(nt:Nat)(hmix:P.follows .mixedOrders=true){f:FuncId}{A:ak}(hA:bf P f=some A){R:AV->af->Prop}(H:∀ts:TS,ts.length=nt->WC P bS A.body [] ts h (FQ A.rs (λv h'=>Ext h h'/\R v h')))(hn:A.nt=nt:=by rfl)(hl:(aM nt []).length=nt:=by rfl):ao P f [] h R:=by
 subst hn;exact .of hmix hA (H (aM A.nt []) hl)
def ao.mG{P:Program}{h:af}(nt:Nat)(hmix:P.follows .mixedOrders=true){f:FuncId}{A:ak}(hA:bf P f=some A){a0:AV}{R:AV->af->Prop}(H:∀ts:TS,ts.length=nt->slot ts 0=a0->WC P bS A.body [] ts h (FQ A.rs (λv h'=>Ext h h'/\R v h')))(hn:A.nt=nt:=by rfl)(hl:(aM nt [a0]).length=nt:=by rfl):ao P f [a0] h R:=by
 subst hn;exact .of hmix hA (H (aM A.nt [a0]) hl rfl)
def ao.dU{P:Program}{h:af}(nt:Nat)(hmix:P.follows .mixedOrders=true){f:FuncId}{A:ak}(hA:bf P f=some A){a0 a1:AV}{R:AV->af->Prop}(H:∀ts:TS,ts.length=nt->slot ts 0=a0->slot ts 1=a1->WC P bS A.body [] ts h (FQ A.rs (λv h'=>Ext h h'/\R v h')))(hn:A.nt=nt:=by rfl)(hl:(aM nt [a0,a1]).length=nt:=by rfl):ao P f [a0,a1] h R:=by
 exact GM
def cT.dU{P:Program}{h:af}(nt:Nat)(hmix:P.follows .mixedOrders=true){f:FuncId}{A:ak}(hA:bf P f=some A){a0 a1:AV}{R:AV->af->Prop}(H:∀ts:TS,ts.length=nt->slot ts 0=a0->slot ts 1=a1->WC P bS A.body [] ts h (FQ A.rs (R)))(hn:A.nt=nt:=by rfl)(hl:(aM nt [a0,a1]).length=nt:=by rfl):cT P f [a0,a1] h R:=by
 exact GM
def ao.ue{P:Program}{h:af}(nt:Nat)(hmix:P.follows .mixedOrders=true){f:FuncId}{A:ak}(hA:bf P f=some A){a0 a1 a2:AV}{R:AV->af->Prop}(H:∀ts:TS,ts.length=nt->slot ts 0=a0->slot ts 1=a1->slot ts 2=a2->WC P bS A.body [] ts h (FQ A.rs (λv h'=>Ext h h'/\R v h')))(hn:A.nt=nt:=by rfl)(hl:(aM nt [a0,a1,a2]).length=nt:=by rfl):ao P f [a0,a1,a2] h R:=by
 exact GX
def cT.ue{P:Program}{h:af}(nt:Nat)(hmix:P.follows .mixedOrders=true){f:FuncId}{A:ak}(hA:bf P f=some A){a0 a1 a2:AV}{R:AV->af->Prop}(H:∀ts:TS,ts.length=nt->slot ts 0=a0->slot ts 1=a1->slot ts 2=a2->WC P bS A.body [] ts h (FQ A.rs (R)))(hn:A.nt=nt:=by rfl)(hl:(aM nt [a0,a1,a2]).length=nt:=by rfl):cT P f [a0,a1,a2] h R:=by
 exact GX
def ao.Kq{P:Program}{h:af}(nt:Nat)(hmix:P.follows .mixedOrders=true){f:FuncId}{A:ak}(hA:bf P f=some A){a0 a1 a2 a3:AV}{R:AV->af->Prop}(H:∀ts:TS,ts.length=nt->slot ts 0=a0->slot ts 1=a1->slot ts 2=a2->slot ts 3=a3->WC P bS A.body [] ts h (FQ A.rs (λv h'=>Ext h h'/\R v h')))(hn:A.nt=nt:=by rfl)(hl:(aM nt [a0,a1,a2,a3]).length=nt:=by rfl):ao P f [a0,a1,a2,a3] h R:=by
 subst hn;exact .of hmix hA (H (aM A.nt [a0,a1,a2,a3]) hl rfl rfl rfl rfl)
def WF.ce{P:Program}{ro:Option Nat->Prop}{ks:List Kt}{ts:TS}{h:af}{Q:Ex->TS->af->Prop}{q:Bool}{f:FuncId}{A:ak}(hA:bf P f=some A){a c args:List AV}{d:Option Nat}{l:List aZ}{V:AV}(H:ao P f (a++args++c) h (λv _=>v=V))(K:∀g,WP P ro l ks (put ts d V) (h++g) Q):WF P ro q (.func (.func f) a c) args d l ks ts h Q:=
 WF.res hA H λ_ g e=>e▸K g
def iL{W:af}{b:Nat}{B:ai}(h:W[b]? =some B){k:af}{n:Option Nat}{a:Nat}(e:Ext W k):au n (.ptr b a) (λz=>k[z]?)=dy n a B:=az (e.some h)
def hX{k n:Nat}(h:k<n):decide ((k:Int)<(n:Int))=true:=Tq Om
def jf{k n:Nat}(h:¬k<n):decide ((k:Int)<(n:Int))=false:=Tm Om
def bz(c:Bool)(e:Int):Int:=if c then e else 0
def aU(n lo hi:Int):Int:=if n<lo\/hi<n then 3 else 0
def aG:List Int->Int
 |[]=>0
 |x::xs=>if x=0 then aG xs else x
def gS(c:UInt8):Bool:=(65<=c.toNat&&c.toNat<=90)||(97<=c.toNat&&c.toNat<=122)
def fa(c:UInt8):Bool:=48<=c.toNat&&c.toNat<=57
def qn(c:UInt8):Bool:=gS c||fa c||c.toNat==95
def ff:By->Bool
 |[]=>false
 |c::r=>decide (r.length<24)&&gS c&&r.all qn
inductive Kd where
 |eV
 |line
 |tape
 |iR
 |copy
 |accept
 |source
 |iV
 |merge
 |run
 |gJ
 |fail
 |gK
 |rel
 deriving DecidableEq
def bJ:Kd->By
 |.eV=>[117,110,100,111]
 |.line=>[108,105,110,101]
 |.tape=>[116,97,112,101]
 |.iR=>[115,104,111,116]
 |.copy=>[99,111,112,121]
 |.accept=>[97,99,99,101,112,116]
 |.source=>[115,111,117,114,99,101]
 |.iV=>[109,111,100,117,108,101]
 |.merge=>[109,101,114,103,101]
 |.run=>[114,117,110]
 |.gJ=>[116,105,108,101]
 |.fail=>[102,97,105,108]
 |.gK=>[112,105,99,116,117,114,101]
 |.rel=>[114,101,108,101,97,115,101]
def DI:List Kd:=[.eV,.line,.tape,.iR,.copy,.accept,.source,.iV,.merge,.run,.gJ,.fail,.gK,.rel]
def bV:Kd->List (Nat×Bool)
 |.eV=>[]
 |.line=>[(0,false)]
 |.tape=>[(1,false)]
 |.iR=>[(2,false),(0,true),(1,true)]
 |.copy=>[(1,true),(1,true)]
 |.accept=>[(0,true)]
 |.source=>[(3,false),(0,true)]
 |.iV=>[(3,false),(3,true)]
 |.merge=>[(3,false),(3,true),(3,true)]
 |.run=>[(4,false),(3,true)]
 |.gJ=>[(4,true)]
 |.fail=>[(4,true)]
 |.gK=>[(5,false),(4,true)]
 |.rel=>[(5,true)]
def cO:Kd->Nat
 |.eV=>0
 |.line=>2
 |.tape=>2
 |.iR=>1
 |.copy=>1
 |.accept=>1
 |.source=>1
 |.iV=>2
 |.merge=>1
 |.run=>2
 |.gJ=>3
 |.fail=>2
 |.gK=>1
 |.rel=>1
def gb(k:By):Option Kd:=DI.find? λd=>bJ d==k
def mQ(d:Kd):gb (bJ d)=some d:=by cases d<;>rfl
def iC{k d}(h:gb k=some d):k=bJ d:=by
 have:=VF h;exact(eq_of_beq this).symm
structure db where
 num:Int
 kind:By
 names:List (By)
 cK:List Int
 text:By
structure jx where
 name:By
 want:Int
 acc:Bool
structure ui where
 name:By
 last:Int
structure km where
 name:By
 line:By
 aJ:List (By)
structure jo where
 name:By
 gives:By
 line:By
 bt:List (By)
structure mE where
 name:By
 mod:By
 bQ:List Int
structure mA where
 name:By
 A1:By
 kZ:Int
 rel:Bool
structure fy where
 tick:Int
 lines:List jx
 aJ:List ui
 al:List km
 aI:List jo
 aH:List mE
 aO:List mA
def fy.zero:fy:=⟨0,[],[],[],[],[],[]⟩
def BG:jx:=⟨[],0,false⟩
def KS:ui:=⟨[],0⟩
def ET:km:=⟨[],[],[]⟩
def EW:jo:=⟨[],[],[],[]⟩
def zH:mE:=⟨[],[],[]⟩
def EU:mA:=⟨[],[],0,false⟩
def bC(l:List (By))(n:By):Nat:=l.findIdx λx=>decide (x=n)
def p3{α:Type}(f:α->By)(l:List α)(n:By)(d:α):α:=l.getD (bC (l.map f) n) d
def jy(R:fy):List (By):=R.lines.map jx.name
def kJ(R:fy):List (By):=R.aJ.map ui.name
def oM(R:fy):List (By):=R.al.map km.name
def jG(R:fy):List (By):=R.aI.map jo.name
def hC(R:fy):List (By):=R.aH.map mE.name
def kP(R:fy):List (By):=R.aO.map mA.name
def Es(R:fy):Nat->List (By)
 | 0=>jy R
 | 1=>kJ R
 | 2=>oM R
 | 3=>jG R
 | 4=>hC R
 |_=>kP R
def fk(R:fy)(n:By):jx:=p3 jx.name R.lines n BG
def jr(R:fy)(n:By):ui:=p3 ui.name R.aJ n KS
def sE(R:fy)(n:By):km:=p3 km.name R.al n ET
def tj(R:fy)(n:By):jo:=p3 jo.name R.aI n EW
def fQ(R:fy)(n:By):mE:=p3 mE.name R.aH n zH
def lH(R:fy)(n:By):mA:=p3 mA.name R.aO n EU
def ez(R:fy)(t:Nat)(n:By):Bool:=decide (n∈Es R t)
def nC(R:fy)(t:Int)(n:By):Bool:=decide (t<=(jr R n).last)
def js(R:fy)(x:km)(t:Int):Bool:=x.aJ.any (nC R t)
def iO(R:fy)(t:Int):List (By):=(R.al.filter λx=>!js R x t).map km.name
def BE(R:fy)(n:By):List km:=R.al.filter λx=>decide (x.line=n)
def bR:List Int->Nat->List Int
 |[],_=>[]
 |x::r,i=>if x<0 then(i:Int)::bR r (i+1)else bR r (i+1)
def Ai(R:fy)(j:By):Bool:=R.aO.any λp=>decide (p.A1=j)
def eG(m:By)(l:List jo):List (By):=l.foldl (λn x=>if x.name∈n then n++x.bt else n) [m]
def te(R:fy)(m:By):List jo:=R.aI.filter λx=>decide (x.name∈eG m R.aI.reverse)
def jA(R:fy)(m:By):List jx:=R.lines.filter λl=>decide (l.name∈(te R m).map jo.line)
def lF(R:fy)(p:By):List (By):=
 (R.al.filter λx=>decide (x.line∈(jA R (fQ R (lH R p).A1).mod).map jx.name)).map km.name
def ia(l:List Int):Int:=l.foldl (λx s=>(257*x+s).tmod 16777213) 1
def ba(e:db)(i:Nat):By:=e.names.getD i []
def bW(e:db)(i:Nat):Int:=e.cK.getD i 0
def gf:By:=[115,104,111,116,115]
def j7:By:=[115,101,99,116,105,111,110]
def lR:By:=[105,109,97,103,101]
def yV(n:Int):By:=if n=1 then gf else if n=2 then gf else if n=3 then j7 else lR
def rA(n:Int):By:=if n=1 then gf else if n=2 then j7 else lR
def eS(e:db):Int:=
 if aU e.num 1 1000≠0 then 3 else
 match gb e.kind with
 |none=>13
 |some d=>if e.names.length≠(bV d).length\/e.cK.length≠cO d then 2
  else if e.names.any (λs=>!ff s)then 8
  else if e.cK.any (λn=>decide (aU n 0 999999999≠0))then 3
  else if e.text≠[]then 1 else 0
def qZ(R:fy)(e:db):List (Nat×Bool)->Nat->Bool
 |[],_=>false
 |r::l,i=>(r.2 && !ez R r.1 (ba e i))||qZ R e l (i+1)
def ra(R:fy)(e:db):List (Nat×Bool)->Nat->Bool
 |[],_=>false
 |r::l,i=>(!r.2&&ez R r.1 (ba e i))||ra R e l (i+1)
def kQ(d:Kd)(R:fy)(e:db):Int:=if qZ R e (bV d) 0 then 10 else if ra R e (bV d) 0 then 9 else 0
def iw(R:fy)(e:db):Int:=(fQ R (ba e 0)).bQ.getD (bW e 1).toNat 0
def jv(R:fy)(e:db):Int:=if Ai R (ba e 0)then 23 else if((fQ R (ba e 0)).bQ.length:Int)<=bW e 1 then 3 else 0
def cX(R:fy)(e:db):Kd->Int
 |.eV=>0
 |.line=>if aU (bW e 1) 1 64≠0 then 3 else if 16<=R.lines.length then 5 else 0
 |.tape=>if 999999999<bW e 0+bW e 1 then 4 else if 16<=R.aJ.length then 5 else 0
 |.iR=>if(fk R (ba e 1)).acc then 23 else if !nC R (bW e 0) (ba e 2)then 30 else if 64<=R.al.length then 5 else 0
 |.copy=>if ba e 0=ba e 1 then 24 else if !nC R (bW e 0) (ba e 0)then 30 else if !nC R (bW e 0) (ba e 1)then 30 else 0
 |.accept=>if(fk R (ba e 0)).acc then 23 else if((BE R (ba e 0)).length:Int)<(fk R (ba e 0)).want then 16 else if(BE R (ba e 0)).any (λx=>!js R x (bW e 0))then 30 else 0
 |.source=>if 32<=R.aI.length then 5 else 0
 |.iV=>if aU (bW e 1) 1 4≠0 then 13 else if(tj R (ba e 1)).gives≠yV (bW e 1)then 2 else if 32<=R.aI.length then 5 else 0
 |.merge=>if ba e 1=ba e 2 then 24 else if(tj R (ba e 1)).gives≠(tj R (ba e 2)).gives then 2 else if 32<=R.aI.length then 5 else 0
 |.run=>if(jA R (ba e 1)).any (λx=>!x.acc)then 32 else if aU (bW e 1) 1 32≠0 then 3 else if 16<=R.aH.length then 5 else 0
 |.gJ=>if jv R e≠0 then jv R e else if 0<=iw R e then 9 else 0
 |.fail=>if jv R e≠0 then jv R e else if iw R e<0 then 7 else 0
 |.gK=>if Ai R (ba e 1)then 23 else if bR (fQ R (ba e 1)).bQ 0≠[]then 32 else if 16<=R.aO.length then 5 else 0
 |.rel=>if(lH R (ba e 0)).rel then 23 else 0
def mX(a b:By)(x:km):km:=if a∈x.aJ/\b∉x.aJ then {x with aJ:=x.aJ++[b] } else x
def oO(R:fy)(e:db)(s:Int):List mE:=R.aH.set (bC (hC R) (ba e 0)) {fQ R (ba e 0)with bQ:=(fQ R (ba e 0)).bQ.set (bW e 1).toNat s}
def fC(R:fy)(e:db):Kd->fy
 |.eV=>R
 |.line=>{R with lines:=R.lines++[⟨ba e 0,bW e 1,false⟩] }
 |.tape=>{R with aJ:=R.aJ++[⟨ba e 0,bW e 0+bW e 1⟩] }
 |.iR=>{R with al:=R.al++[⟨ba e 0,ba e 1,[ba e 2]⟩] }
 |.copy=>{R with al:=R.al.map (mX (ba e 0) (ba e 1)) }
 |.accept=>{R with lines:=R.lines.set (bC (jy R) (ba e 0)) {fk R (ba e 0)with acc:=true} }
 |.source=>{R with aI:=R.aI++[⟨ba e 0,gf,ba e 1,[]⟩] }
 |.iV=>{R with aI:=R.aI++[⟨ba e 0,rA (bW e 1),[],e.names.drop 1⟩] }
 |.merge=>{R with aI:=R.aI++[⟨ba e 0,(tj R (ba e 1)).gives,[],e.names.drop 1⟩] }
 |.run=>{R with aH:=R.aH++[⟨ba e 0,ba e 1,List.replicate (bW e 1).toNat (-1)⟩] }
 |.gJ=>{R with aH:=oO R e (bW e 2) }
 |.fail=>{R with aH:=oO R e (-1) }
 |.gK=>{R with aO:=R.aO++[⟨ba e 0,ba e 1,ia (fQ R (ba e 1)).bQ,false⟩] }
 |.rel=>{R with aO:=R.aO.set (bC (kP R) (ba e 0)) {lH R (ba e 0)with rel:=true} }
def iF(R:fy)(e:db)(d:Kd):Int:=if bW e 0<R.tick then 22 else if kQ d R e≠0 then kQ d R e else cX R e d
def xN(R:fy)(e:db)(d:Kd):fy:={fC R e d with tick:=bW e 0}
structure gM where
 cI:List db
 eC:List db
 cp:List fy
def gM.zero:gM:=⟨[],[],[]⟩
def gM.now(H:gM):fy:=H.cp.getLastD fy.zero
def mH(e:db):Kd:=(gb e.kind).getD .eV
def jw(H:gM)(e:db):Int:=
 if e.num≠(H.cI.length:Int)+1 then 11 else
 if mH e=.eV then
  (match H.eC.getLast? with
  |none=>12
  |some c=>if mH c=.rel then 21 else 0)
 else iF H.now e (mH e)
def jQ(H:gM)(e:db):gM:=
 if mH e=.eV then⟨H.cI++[e],H.eC.dropLast,H.cp.dropLast⟩
 else⟨H.cI++[e],H.eC++[e],H.cp++[xN H.now e (mH e)]⟩
def dV(H:gM)(e:db):Int:=if eS e≠0 then eS e else jw H e
def fD(H:gM):List db->Nat->gM×Int×Int
 |[],_=>(H,0,0)
 |e::l,i=>if dV H e≠0 then(gM.zero,(i:Int)+1,dV H e)else fD (jQ H e) l (i+1)
def aT(l:List db):gM×Int×Int:=if 1000<l.length then(gM.zero,0,5)else fD gM.zero l 0
def dS{l n}(h:n∈l):bC l n<l.length:=
 List.findIdx_lt_length_of_exists ⟨n,h,Si⟩
def sX{l n}(h:n∈l):l[bC l n]'(dS h)=n:=by
 have:=List.findIdx_getElem (p:=λx=>decide (x=n)) (xs:=l) (w:=dS h);exact UH this
def fp{α:Type}{f:α->By}{l:List α}{n:By}{d:α}(h:n∈l.map f):p3 f l n d=l[bC (l.map f) n]'(by simpa using dS h):=by
 have:bC (l.map f) n<l.length:=by simpa using dS h
 rw[p3,TF,Tk this];rfl
def fK{α:Type}{f:α->By}{l:List α}{n:By}{d:α}(h:n∈l.map f):p3 f l n d∈l:=by
 rw[fp h];exact TE _
def fG{α:Type}{f:α->By}{l:List α}{n:By}{d:α}(h:n∈l.map f):f (p3 f l n d)=n:=by
 rw[fp h];have:=sX h;rw[Ux]at this;exact this
structure nq(l:List (By)):Prop where
 nd:l.Nodup
 nm:∀n∈l,ff n=true
def nq.nil:nq []:=⟨List.nodup_nil,λ_ h=>by cases h⟩
def nq.add{l n}(h:nq l)(hn:ff n=true)(hl:n∉l):nq (l++[n]):=by
 refine⟨List.nodup_append.2 ⟨h.nd,Si,?_⟩,λx hx=>?_⟩
 ·intro a ha b hb e;rw[TD]at hb;exact hl (hb▸e▸ha)
 ·rcases Tn.1 hx with hx|hx
  ·exact h.nm x hx
  ·rw[TD]at hx;rw[hx];exact hn
structure jl(R:fy):Prop where
 n0:nq (jy R)
 n1:nq (kJ R)
 n2:nq (oM R)
 n3:nq (jG R)
 n4:nq (hC R)
 n5:nq (kP R)
 tk:0<=R.tick/\R.tick<=999999999
 l0:R.lines.length<=16
 l1:R.aJ.length<=16
 l2:R.al.length<=64
 l3:R.aI.length<=32
 l4:R.aH.length<=16
 l5:R.aO.length<=16
 ln:∀x∈R.lines,1<=x.want/\x.want<=64
 tp:∀x∈R.aJ,0<=x.last/\x.last<=999999999
 sh:∀x∈R.al,x.line∈jy R/\x.aJ≠[]/\x.aJ.Nodup/\∀t∈x.aJ,t∈kJ R
 md:∀x∈R.aI,((x.bt=[]/\x.line∈jy R)\/(x.bt≠[]/\x.line=[]))/\x.bt.length<=2/\∀t∈x.bt,t∈jG R
 jb:∀x∈R.aH,x.mod∈jG R/\1<=x.bQ.length/\x.bQ.length<=32/\∀s∈x.bQ,-1<=s/\s<=999999999
 pc:∀x∈R.aO,x.A1∈hC R/\0<=x.kZ/\x.kZ<16777213
theorem jl.zero:jl fy.zero:=by
 refine⟨.nil,.nil,.nil,.nil,.nil,.nil,De,De,De,De,De,De,De,?_,?_,?_,?_,?_,?_⟩
 all_goals intro x hx;cases hx
structure r9(e:db)(d:Kd):Prop where
 kd:gb e.kind=some d
 nu:1<=e.num/\e.num<=1000
 nl:e.names.length=(bV d).length
 vl:e.cK.length=cO d
 nm:∀n∈e.names,ff n=true
 vr:∀v∈e.cK,0<=v/\v<=999999999
 tx:e.text=[]
def fI{n lo hi}(h:¬aU n lo hi≠0):lo<=n/\n<=hi:=by
 unfold aU at h;split at h
 ·exact absurd De h
 ·omega
def vp{e}(h:eS e=0):∃d,r9 e d:=by
 unfold eS at h;split at h
 ·cases h
 case isFalse h0=>
 cases hk:gb e.kind with
 |none=>rw[hk]at h;cases h
 |some d=>
  rw[hk]at h;simp only at h;split at h
  ·cases h
  case isFalse h1=>
  split at h
  ·cases h
  case isFalse h2=>
  split at h
  ·cases h
  case isFalse h3=>
  split at h
  ·cases h
  case isFalse h4=>
  refine⟨d,hk,fI h0,Om,Om,?_,?_,by simpa using h4⟩
  ·intro n hn;cases hc:ff n with
   |true=>rfl
   |false=>exact absurd (UR.2 ⟨n,hn,by simp[hc]⟩) h2
  ·intro v hv;refine fI λhc=>h3 (UR.2 ⟨v,hv,by simpa using hc⟩)
def BH{e i}(h:i<e.names.length):ba e i∈e.names:=by
 rw[ba,TF,Tk h];exact TE h
def qY{e i}(h:i<e.cK.length):bW e i∈e.cK:=by
 rw[bW,TF,Tk h];exact TE h
def fj{α:Type}{l m:List α}{x:α}(h:x∈l):x∈l++m:=Tn.2 (.inl h)
def gk{α:Type}{p:α->Prop}{l:List α}{y:α}(h:∀x∈l,p x)(hy:p y):∀x∈l++[y],p x:=by
 intro x hx;rcases Tn.1 hx with hx|hx
 ·exact h x hx
 ·rw[TD]at hx;rw[hx];exact hy
def oh{α:Type}{p:α->Prop}{l:List α}{y:α}{i:Nat}(h:∀x∈l,p x)(hy:p y):∀x∈l.set i y,p x:=by
 intro x hx;rcases Va hx with hx|hx
 ·exact h x hx
 ·rw[hx];exact hy
theorem map_set{α:Type}{f:α->By}{l:List α}{n:By}{d y:α}(hn:n∈l.map f)(hy:f y=n):(l.set (bC (l.map f) n) y).map f=l.map f:=by
 rw[List.map_set];have:=sX hn;rw[hy]
 conv=>lhs;arg 3;rw[<-this]
 exact U5 _
structure Me(R:fy)(e:db)(d:Kd):Prop where
 kn:∀i t,(bV d)[i]? =some (t,true)->ba e i∈Es R t
 fr:∀i t,(bV d)[i]? =some (t,false)->ba e i∉Es R t
theorem yM{R e}:∀{l}{i},qZ R e l i=false->∀j t,l[j]? =some (t,true)->ba e (i+j)∈Es R t
 |[],i,_,j,t,h=>by simp at h
 |r::l,i,h,j,t,hj=>by
  rw[qZ,Bool.or_eq_false_iff]at h;cases j with
  |zero=>
   simp only[Uo,TG]at hj;subst hj;have:=h.1;simp only[Vv,Bool.not_eq_false',ez,T3]at this;exact this
  |succ j=>
   simp only[UA]at hj;have:=yM h.2 j t hj
   rwa [Nat.add_assoc,Nat.add_comm 1 j]at this
theorem yS{R e}:∀{l}{i},ra R e l i=false->∀j t,l[j]? =some (t,false)->ba e (i+j)∉Es R t
 |[],i,_,j,t,h=>by simp at h
 |r::l,i,h,j,t,hj=>by
  rw[ra,Bool.or_eq_false_iff]at h;cases j with
  |zero=>
   simp only[Uo,TG]at hj;subst hj;have:=h.1;simp only[TW,Vv,ez,UY]at this;exact this
  |succ j=>
   simp only[UA]at hj;have:=yS h.2 j t hj
   rwa [Nat.add_assoc,Nat.add_comm 1 j]at this
def zI{R e d}(h:kQ d R e=0):Me R e d:=by
 unfold kQ at h;split at h
 ·cases h
 case isFalse h1=>
 split at h
 ·cases h
 case isFalse h2=>
 refine⟨λi t hi=>?_,λi t hi=>?_⟩
 ·have:=yM (by simpa using h1) i t hi;rwa [TZ]at this
 ·have:=yS (by simpa using h2) i t hi;rwa [TZ]at this
def x7(x s:Int)(hx:0<=x)(hs:0<=s):0<=(257*x+s).tmod 16777213/\(257*x+s).tmod 16777213<16777213:=by
 rw[Int.tmod_eq_emod_of_nonneg Om];omega
theorem tS:∀(l:List Int) (x:Int),(∀s∈l,0<=s)->0<=x->x<16777213->0<=l.foldl (λx s=>(257*x+s).tmod 16777213) x/\l.foldl (λx s=>(257*x+s).tmod 16777213) x<16777213
 |[],x,_,h1,h2=>⟨h1,h2⟩
 |s::l,x,hs,h1,h2=>by
  have:=x7 x s h1 (hs s Si);exact tS l _ (λt ht=>hs t (TK _ ht)) this.1 this.2
def Cb{l}(hs:∀s∈l,0<=s):0<=ia l/\ia l<16777213:=tS l 1 hs De De
theorem qA:∀{l}{i},bR l i=[]->∀s∈l,0<=s
 |[],_,_,s,hs=>by cases hs
 |x::r,i,h,s,hs=>by
  rw[bR]at h;split at h
  ·cases h
  ·rcases TP.1 hs with rfl|hs
   ·omega
   ·exact qA h s hs
theorem jl.tick{R}(w:jl R){t}(h:0<=t/\t<=999999999):jl {R with tick:=t}:={w with tk:=h}
section
variable {R:fy}{e:db}(w:jl R)
include w
theorem jl.IC{n}(hn:n∈hC R):fQ R n∈R.aH/\(fQ R n).name=n:=⟨fK hn,fG hn⟩
def jl.DA(s:Int)(hn:ba e 0∈hC R)(hs:-1<=s/\s<=999999999):jl {R with aH:=oO R e s}:=by
 have hj:=w.IC hn;have hm:List.map mE.name (oO R e s)=hC R:=map_set (d:=zH) hn hj.2;refine {w with n4:=?_,l4:=?_,jb:=?_,pc:=?_}
 ·show nq (List.map mE.name (oO R e s));rw[hm];exact w.n4
 ·show(oO R e s).length<=16;rw[oO,Um];exact w.l4
 ·refine oh (λx hx=>w.jb x hx) ?_;have:=w.jb _ hj.1;refine⟨this.1,?_,?_,oh this.2.2.2 hs⟩
  ·show 1<=(List.set _ _ _).length;rw[Um];exact this.2.1
  ·show(List.set _ _ _).length<=32;rw[Um];exact this.2.2.1
 ·intro x hx;have:=w.pc x hx;exact⟨by show x.A1∈List.map mE.name (oO R e s);rw[hm];exact this.1,this.2⟩
def jl.act{d:Kd}(he:r9 e d)(hk:Me R e d)(hc:cX R e d=0):jl (fC R e d):=by
 have gn:∀i,i<(bV d).length->ff (ba e i)=true:=λi hi=>he.nm _ (BH (by rw[he.nl];exact hi))
 have gv:∀i,i<cO d->0<=bW e i/\bW e i<=999999999:=λi hi=>he.vr _ (qY (by rw[he.vl];exact hi))
 cases d with
 |eV=>exact w
 |line=>
  have f0:ba e 0∉jy R:=hk.fr 0 0 rfl;rw[cX]at hc;split at hc
  ·cases hc
  case isFalse h1=>
  split at hc
  ·cases hc
  case isFalse h2=>
  have h1:=fI h1;have em:jy (fC R e .line)=jy R++[ba e 0]:=Tx;refine {w with n0:=?_,l0:=?_,ln:=?_,sh:=?_,md:=?_}
  ·rw[em];exact w.n0.add (gn 0 De) f0
  ·show(R.lines++[_]).length<=16;rw[Tg,TC];omega
  ·exact gk w.ln h1
  ·intro x hx;have:=w.sh x hx;exact⟨by rw[em];exact fj this.1,this.2⟩
  ·intro x hx;obtain⟨h3,h4⟩:=w.md x hx;refine⟨?_,h4⟩;rcases h3 with h3|h3
   ·exact .inl ⟨h3.1,by rw[em];exact fj h3.2⟩
   ·exact .inr h3
 |tape=>
  have f0:ba e 0∉kJ R:=hk.fr 0 1 rfl;have v0:=gv 0 De;have v1:=gv 1 De;rw[cX]at hc;split at hc
  ·cases hc
  case isFalse h1=>
  split at hc
  ·cases hc
  case isFalse h2=>
  have em:kJ (fC R e .tape)=kJ R++[ba e 0]:=Tx;refine {w with n1:=?_,l1:=?_,tp:=?_,sh:=?_}
  ·rw[em];exact w.n1.add (gn 0 De) f0
  ·show(R.aJ++[_]).length<=16;rw[Tg,TC];omega
  ·exact gk w.tp (by show 0<=bW e 0+bW e 1/\bW e 0+bW e 1<=999999999;omega)
  ·intro x hx;obtain⟨h3,h4,h5,h6⟩:=w.sh x hx;exact⟨h3,h4,h5,λt ht=>by rw[em];exact fj (h6 t ht)⟩
 |iR=>
  have f0:ba e 0∉oM R:=hk.fr 0 2 rfl;have k1:ba e 1∈jy R:=hk.kn 1 0 rfl;have k2:ba e 2∈kJ R:=hk.kn 2 1 rfl;rw[cX]at hc;split at hc
  ·cases hc
  split at hc
  ·cases hc
  split at hc
  ·cases hc
  case isFalse h2=>
  have em:oM (fC R e .iR)=oM R++[ba e 0]:=Tx;refine {w with n2:=?_,l2:=?_,sh:=?_}
  ·rw[em];exact w.n2.add (gn 0 De) f0
  ·show(R.al++[_]).length<=64;rw[Tg,TC];omega
  ·refine gk w.sh ⟨k1,Si,Si,λt ht=>?_⟩;rw[TD]at ht;rw[ht];exact k2
 |copy=>
  have k1:ba e 1∈kJ R:=hk.kn 1 1 rfl;have en:∀x,(mX (ba e 0) (ba e 1) x).name=x.name:=λx=>by unfold mX;split<;>rfl
  have el:∀x,(mX (ba e 0) (ba e 1) x).line=x.line:=λx=>by unfold mX;split<;>rfl
  have em:oM (fC R e .copy)=oM R:=by
   show List.map _ (List.map _ _)=_;rw[U7];exact List.map_congr_left λx _=>en x
  refine {w with n2:=?_,l2:=?_,sh:=?_}
  ·rw[em];exact w.n2
  ·show(List.map _ _).length<=64;rw[Tu];exact w.l2
  ·intro y hy;obtain⟨x,hx,rfl⟩:=TI.1 (show y∈List.map _ R.al from hy);obtain⟨h1,h2,h3,h4⟩:=w.sh x hx;rw[el];refine⟨h1,?_⟩;unfold mX;split
   case isFalse=>exact⟨h2,h3,h4⟩
   case isTrue h5=>
    refine⟨Si,?_,gk h4 k1⟩;refine List.nodup_append.2 ⟨h3,Si,λa ha b hb eq=>?_⟩;rw[TD]at hb;exact h5.2 (hb▸eq▸ha)
 |accept=>
  have k0:ba e 0∈jy R:=hk.kn 0 0 rfl;have em:jy (fC R e .accept)=jy R:=map_set (d:=BG) k0 (fG k0);refine {w with n0:=?_,l0:=?_,ln:=?_,sh:=?_,md:=?_}
  ·rw[em];exact w.n0
  ·show(List.set _ _ _).length<=16;rw[Um];exact w.l0
  ·exact oh w.ln (w.ln (fk R (ba e 0)) (fK k0))
  ·intro x hx;have:=w.sh x hx;exact⟨by rw[em];exact this.1,this.2⟩
  ·intro x hx;obtain⟨h3,h4⟩:=w.md x hx;refine⟨?_,h4⟩;rcases h3 with h3|h3
   ·exact .inl ⟨h3.1,by rw[em];exact h3.2⟩
   ·exact .inr h3
 |source=>
  have f0:ba e 0∉jG R:=hk.fr 0 3 rfl;have k1:ba e 1∈jy R:=hk.kn 1 0 rfl;rw[cX]at hc;split at hc
  ·cases hc
  case isFalse h2=>
  have em:jG (fC R e .source)=jG R++[ba e 0]:=Tx;refine {w with n3:=?_,l3:=?_,md:=?_,jb:=?_}
  ·exact z124
  ·exact JW
  ·refine gk (λx hx=>?_) ⟨.inl ⟨rfl,k1⟩,TJ _,λt ht=>by cases ht⟩;exact JY
  ·intro x hx;have:=w.jb x hx;exact⟨by rw[em];exact fj this.1,this.2⟩
 |iV=>
  have f0:ba e 0∉jG R:=hk.fr 0 3 rfl;have k1:ba e 1∈jG R:=hk.kn 1 3 rfl;have hl:e.names.length=2:=he.nl;have hdr:e.names.drop 1=[ba e 1]:=by
   match hn:e.names,hl with
   |[a,b],_=>simp[ba,hn]
  rw[cX]at hc;split at hc
  ·cases hc
  split at hc
  ·cases hc
  split at hc
  ·cases hc
  case isFalse h2=>
  have em:jG (fC R e .iV)=jG R++[ba e 0]:=Tx;refine {w with n3:=?_,l3:=?_,md:=?_,jb:=?_}
  ·exact z124
  ·exact JW
  ·refine gk (λx hx=>?_) ?_
   ·exact JY
   ·simp only[hdr];exact⟨.inr Si,Si,λt ht=>by rw[TD]at ht;rw[ht,em];exact fj k1⟩
  ·intro x hx;have:=w.jb x hx;exact⟨by rw[em];exact fj this.1,this.2⟩
 |merge=>
  have f0:ba e 0∉jG R:=hk.fr 0 3 rfl;have k1:ba e 1∈jG R:=hk.kn 1 3 rfl;have k2:ba e 2∈jG R:=hk.kn 2 3 rfl;have hl:e.names.length=3:=he.nl;have hdr:e.names.drop 1=[ba e 1,ba e 2]:=by
   match hn:e.names,hl with
   |[a,b,c],_=>simp[ba,hn]
  rw[cX]at hc;split at hc
  ·cases hc
  split at hc
  ·cases hc
  split at hc
  ·cases hc
  case isFalse h2=>
  have em:jG (fC R e .merge)=jG R++[ba e 0]:=Tx;refine {w with n3:=?_,l3:=?_,md:=?_,jb:=?_}
  ·exact z124
  ·exact JW
  ·refine gk (λx hx=>?_) ?_
   ·exact JY
   ·simp only[hdr];refine⟨.inr Si,Si,λt ht=>?_⟩;rw[em];rcases TP.1 ht with ht|ht
    ·rw[ht];exact fj k1
    ·rw[TD]at ht;rw[ht];exact fj k2
  ·intro x hx;have:=w.jb x hx;exact⟨by rw[em];exact fj this.1,this.2⟩
 |run=>
  have f0:ba e 0∉hC R:=hk.fr 0 4 rfl;have k1:ba e 1∈jG R:=hk.kn 1 3 rfl;rw[cX]at hc;split at hc
  ·cases hc
  split at hc
  ·cases hc
  case isFalse h1=>
  split at hc
  ·cases hc
  case isFalse h2=>
  have h1:=fI h1;have em:hC (fC R e .run)=hC R++[ba e 0]:=Tx;refine {w with n4:=?_,l4:=?_,jb:=?_,pc:=?_}
  ·rw[em];exact w.n4.add (gn 0 De) f0
  ·show(R.aH++[_]).length<=16;rw[Tg,TC];omega
  ·refine gk w.jb ⟨k1,?_,?_,λs hs=>?_⟩
   ·show 1<=(List.replicate _ _).length;rw[Up];omega
   ·show(List.replicate _ _).length<=32;rw[Up];omega
   ·rw[(List.mem_replicate.1 hs).2];decide
  ·intro x hx;have:=w.pc x hx;exact⟨by rw[em];exact fj this.1,this.2⟩
 |gJ=>exact w.DA _ (hk.kn 0 4 rfl) (by have:=gv 2 De;omega)
 |fail=>exact w.DA _ (hk.kn 0 4 rfl) De
 |gK=>
  have f0:ba e 0∉kP R:=hk.fr 0 5 rfl;have k1:ba e 1∈hC R:=hk.kn 1 4 rfl;rw[cX]at hc;split at hc
  ·cases hc
  split at hc
  ·cases hc
  case isFalse h1=>
  split at hc
  ·cases hc
  case isFalse h2=>
  have em:kP (fC R e .gK)=kP R++[ba e 0]:=Tx;refine {w with n5:=?_,l5:=?_,pc:=?_}
  ·rw[em];exact w.n5.add (gn 0 De) f0
  ·show(R.aO++[_]).length<=16;rw[Tg,TC];omega
  ·exact gk w.pc ⟨k1,Cb (qA (Classical.not_not.1 h1))⟩
 |rel=>
  have k0:ba e 0∈kP R:=hk.kn 0 5 rfl;have em:kP (fC R e .rel)=kP R:=map_set (d:=EU) k0 (fG k0);refine {w with n5:=?_,l5:=?_,pc:=?_}
  ·rw[em];exact w.n5
  ·show(List.set _ _ _).length<=16;rw[Um];exact w.l5
  ·exact oh w.pc (w.pc (lH R (ba e 0)) (fK k0))
def jl.step{d}(he:r9 e d)(hd:d≠.eV)(h:iF R e d=0):jl (xN R e d):=by
 unfold iF at h;split at h
 ·cases h
 split at h
 case isTrue h1=>exact absurd h h1
 case isFalse h1=>
 have h1:=Classical.not_not.1 h1;refine(w.act he (zI h1) h).tick (he.vr _ (qY ?_));rw[he.vl];cases d<;>first|exact absurd rfl hd|decide
end
def dM{α:Type}(p:α->Bool)(L:List α):Int:=
 match L.findIdx? p with
 |some i=>(i:Int)
 |none=>-1
def lQ{α:Type}(p:α->Bool)(L:List α):decide (0<=dM p L)=L.any p:=by
 unfold dM;cases hx:L.findIdx? p with
 |none=>
  simp only[List.findIdx?_eq_none_iff]at hx;have:L.any p=false:=by rw[List.any_eq_false];intro x NL;simp[hx x NL]
  rw[this];rfl
 |some i=>
  have h1:=List.findIdx?_isSome (xs:=L) (p:=p);rw[hx]at h1;rw[<-h1];simp
def an(x:By):List AV:=[.str x]
def bX(x:jx):List AV:=[.str x.name,.i x.want,.bool x.acc]
def dW(x:ui):List AV:=[.str x.name,.i x.last]
def aW(x:km×AV):List AV:=[.str x.1.name,.str x.1.line,x.2]
def aL(x:jo×AV):List AV:=[.str x.1.name,.str x.1.gives,.str x.1.line,x.2]
def bI(x:mE×AV):List AV:=[.str x.1.name,.str x.1.mod,x.2]
def cS(x:mA):List AV:=[.str x.name,.str x.A1,.i x.kZ,.bool x.rel]
structure RV where
 tick:Int
 lines:List jx
 aJ:List ui
 al:List (km×AV)
 aI:List (jo×AV)
 aH:List (mE×AV)
 aO:List mA
 s0:AV
 s1:AV
 s2:AV
 s3:AV
 s4:AV
 s5:AV
def RV.aC(V:RV):fy:=⟨V.tick,V.lines,V.aJ,V.al.map Prod.fst,V.aI.map Prod.fst,V.aH.map Prod.fst,V.aO⟩
def RV.row(V:RV):List AV:=[.i V.tick,V.s0,V.s1,V.s2,V.s3,V.s4,V.s5]
def RV.zero:RV:=⟨0,[],[],[],[],[],[],.ah,.ah,.ah,.ah,.ah,.ah⟩
structure aE(h:af)(V:RV):Prop where
 i0:aA h V.s0 3 (V.lines.map bX)
 i1:aA h V.s1 2 (V.aJ.map dW)
 i2:aA h V.s2 3 (V.al.map aW)
 i3:aA h V.s3 4 (V.aI.map aL)
 i4:aA h V.s4 3 (V.aH.map bI)
 i5:aA h V.s5 4 (V.aO.map cS)
 e2:∀x∈V.al,aA h x.2 1 (x.1.aJ.map an)
 e3:∀x∈V.aI,aA h x.2 1 (x.1.bt.map an)
 e4:∀x∈V.aH,aA h x.2 1 (x.1.bQ.map aB)
theorem aE.ext{h k V}(o:aE h V)(e:Ext h k):aE k V:=
 ⟨o.i0.ext e,o.i1.ext e,o.i2.ext e,o.i3.ext e,o.i4.ext e,o.i5.ext e,λx hx=>(o.e2 x hx).ext e,λx hx=>(o.e3 x hx).ext e,λx hx=>(o.e4 x hx).ext e⟩
theorem aE.zero{h}:aE h RV.zero:=by
 refine⟨.nil,.nil,.nil,.nil,.nil,.nil,?_,?_,?_⟩
 all_goals intro x hx;cases hx
def sB:AV->Option Nat
 |.slice b _ _ _=>some b
 |_=>none
def Ky{v b}(h:sB v=some b):∃o n e,v=.slice b o n e:=by
 cases v with
 |slice b' o n e=>cases h;exact⟨o,n,e,rfl⟩
 |_=>cases h
def Fr.bN{N h s es cs}(hs:Fr N h s es cs){b}(hb:sB s=some b):N<=b/\b<h.length:=by
 obtain⟨o,n,e,rfl⟩:=Ky hb;exact hs.lt rfl
def Fr.ay{N h k s es cs}(hs:Fr N h s es cs)(hk:∀b,sB s=some b->k[b]? =h[b]?):Fr N k s es cs:=by
 exact z116
def RV.bl(V:RV):List (Option Nat):=[sB V.s0,sB V.s1,sB V.s2,sB V.s3,sB V.s4,sB V.s5]++(V.al.map λx=>sB x.2)++(V.aI.map λx=>sB x.2)++(V.aH.map λx=>sB x.2)
def jS(l:List (Option Nat)):Prop:=l.Pairwise λx y=>∀b,x=some b->y≠some b
structure cY(N:Nat)(h:af)(V:RV):Prop where
 i0:Fr N h V.s0 3 (V.lines.map bX)
 i1:Fr N h V.s1 2 (V.aJ.map dW)
 i2:Fr N h V.s2 3 (V.al.map aW)
 i3:Fr N h V.s3 4 (V.aI.map aL)
 i4:Fr N h V.s4 3 (V.aH.map bI)
 i5:Fr N h V.s5 4 (V.aO.map cS)
 e2:∀x∈V.al,Fr N h x.2 1 (x.1.aJ.map an)
 e3:∀x∈V.aI,Fr N h x.2 1 (x.1.bt.map an)
 e4:∀x∈V.aH,Fr N h x.2 1 (x.1.bQ.map aB)
 di:jS V.bl
def cY.ok{N h V}(o:cY N h V):aE h V:=
 ⟨o.i0.aN,o.i1.aN,o.i2.aN,o.i3.aN,o.i4.aN,o.i5.aN,λx hx=>(o.e2 x hx).aN,λx hx=>(o.e3 x hx).aN,λx hx=>(o.e4 x hx).aN⟩
theorem cY.app{N h V}(o:cY N h V)(g:af):cY N (h++g) V:=
 ⟨o.i0.app g,o.i1.app g,o.i2.app g,o.i3.app g,o.i4.app g,o.i5.app g,λx hx=>(o.e2 x hx).app g,λx hx=>(o.e3 x hx).app g,λx hx=>(o.e4 x hx).app g,o.di⟩
def cY.aq{N h k V}(o:cY N h V)(hk:∀b,some b∈V.bl->k[b]? =h[b]?):cY N k V:=by
 have m6:∀x∈[sB V.s0,sB V.s1,sB V.s2,sB V.s3,sB V.s4,sB V.s5],x∈V.bl:=λx hx=>by simp only[RV.bl,Tn];exact .inl (.inl (.inl hx))
 refine⟨o.i0.ay λb hb=>hk b (hb▸m6 _ Si),o.i1.ay λb hb=>hk b (hb▸m6 _ Si),o.i2.ay λb hb=>hk b (hb▸m6 _ Si),o.i3.ay λb hb=>hk b (hb▸m6 _ Si),o.i4.ay λb hb=>hk b (hb▸m6 _ Si),o.i5.ay λb hb=>hk b (hb▸m6 _ Si),
  λx hx=>(o.e2 x hx).ay λb hb=>hk b ?_,λx hx=>(o.e3 x hx).ay λb hb=>hk b ?_,λx hx=>(o.e4 x hx).ay λb hb=>hk b ?_,o.di⟩
 ·exact Ha
 ·exact z119
 ·exact GZ
structure EV where
 ev:db
 sn:AV
 sv:AV
def EV.row(x:EV):List AV:=[.i x.ev.num,.str x.ev.kind,x.sn,x.sv,.str x.ev.text]
structure a8(h:af)(x:EV):Prop where
 n:aA h x.sn 1 (x.ev.names.map an)
 v:aA h x.sv 1 (x.ev.cK.map aB)
theorem a8.ext{h k x}(o:a8 h x)(e:Ext h k):a8 k x:=⟨o.n.ext e,o.v.ext e⟩
structure eA(h:af)(L:List EV)(s:AV):Prop where
 sl:aA h s 5 (L.map EV.row)
 all:∀x∈L,a8 h x
theorem eA.ext{h k L s}(o:eA h L s)(e:Ext h k):eA k L s:=⟨o.sl.ext e,λx hx=>(o.all x hx).ext e⟩
end Go.Abs
namespace Go.Abs
inductive Ow (N:Nat) (h:af):AV->Nat->List (List AV)->Prop
 |nil {es:Nat}:Ow N h .ah es []
 |mk {b es:Nat}{cs:List (List AV)}{junk:List AV}(hN:N<=b) (hb:h[b]? =some (.cells (cs.flatten++junk) true true)) (he:∀x∈cs,x.length=es):Ow N h (.slice b 0 cs.length es) es cs
def Ow.aN{N h s es cs}(hs:Ow N h s es cs):aA h s es cs:=by
 cases hs with
 |nil=>exact .nil
 |mk hN hb he=>
  have hl:=dz he;exact .mk hb (by rw[UF,<-hl,List.take_left]) (by rw[Tg];omega) he
def Ow.bN{N h s es cs}(hs:Ow N h s es cs){b}(hb:sB s=some b):N<=b/\b<h.length:=by
 cases hs with
 |nil=>cases hb
 |mk hN hb' he=>cases hb;exact⟨hN,(Th.1 hb').1⟩
def Ow.ay{N h k s es cs}(hs:Ow N h s es cs)(hk:∀b,sB s=some b->k[b]? =h[b]?):Ow N k s es cs:=by
 exact z116
def Ow.cut{N h s es cs}(hs:Ow N h s es cs){n:Nat}(hn:n<=cs.length){k}:
  ∃s',yx es s none (some (.int k (n:Int)))=some (s',.aq)/\sB s' =sB s/\Ow N h s' es (cs.take n):=by
 cases hs with
 |nil=>
  have:n=0:=by simpa using hn
  subst this;exact⟨.ah,by simp only[yx,kf (Ts 0)],rfl,by rw[List.take_nil];exact .nil⟩
 | @mk b _ _ junk hN hb he=>
  refine⟨.slice b 0 n es,?_,rfl,?_⟩
  ·simp only[yx,TQ,kf hn,Vd,VE,Nat.sub_zero]
  ·have hl:(cs.take n).length=n:=by rw[UB];omega
   have hf:cs.flatten++junk=(cs.take n).flatten++((cs.drop n).flatten++junk):=by
    rw[<-Ti,<-UT,Uz]
   rw[hf]at hb;have:=Ow.mk (cs:=cs.take n) hN hb (λx hx=>he x (Ut hx))
   rwa [hl]at this
section
variable {P:Program}{ro:Option Nat->Prop}{ks:List Kt}{ts:TS}{Q:Ex->TS->af->Prop}
def WR.F6{h s y es cs ys N w d l}(hs:Ow N h s es cs)(hy:aA h y es ys)(hN:N<=h.length)(hes:0<es)(hne:0<ys.length)(dq:(cs.length+ys.length)*w<=2^46)
  (K:∀h',h'.length=h.length+1->Ow N h' (.slice h.length 0 (cs++ys).length es) es (cs++ys)->(∀b,b<h.length->sB s≠some b->h'[b]? =h[b]?)->WP P ro l ks (put ts d (.slice h.length 0 (cs++ys).length es)) h' Q):
  WR P ro (na es w s y (λb=>h[b]?) h.length) false d l ks ts h Q:=by
 have Pa:∀x∈cs++ys,x.length=es:=λx hx=>by
  exact G9
 have hk:¬ys.length=0:=Om
 simp only[na,hy.dO];have mk:∀h1:af,h1.length=h.length->Ow N (h1++[.cells (cs++ys).flatten true true]) (.slice h.length 0 (cs++ys).length es) es (cs++ys):=by
  intro h1 h1l;refine Ow.mk (junk:=[]) hN ?_ Pa;rw[TH,<-h1l];exact bF
 cases hs with
 |nil=>
  simp only[Tr,TZ]at dq;simp only[Tt hk,Ty dq];rw[kg];have hK:=K (h++[.cells ys.flatten true true]) Si (mk h rfl) (λb hb _=>Tj hb);exact hK
 | @mk b _ _ junk hbN hb hre=>
  have hcl:=dz hre;simp only[TQ,Tt hk,Ty dq,hb,TZ];rw[Ty (by rw[Tg];omega),k9];have hbl:b<h.length:=(Th.1 hb).1;have hc:List.take (cs.length*es) (List.drop 0 (cs.flatten++junk))=cs.flatten:=by rw[UF,<-hcl,List.take_left]
  rw[hc];have hK:=K (h.set b .dead++[.cells (cs++ys).flatten true true]) Si (mk _ Si) (λi hi hne=>by
   have:b≠i:=λe=>hne (by rw[<-e];rfl)
   rw[Tj (by simpa using hi),Ua this])
  simp only[UT,Tg]at hK ⊢;exact hK
end
def fY(ex:List (Option Nat))(h:af):af:=h.mapIdx λb k=>if some b∈ex then .dead else k
def wh{ex h b}(hb:some b∉ex):(fY ex h)[b]? =h[b]? :=by
 rw[fY,List.getElem?_mapIdx];cases h[b]? with
 |none=>rfl
 |some k=>simp[hb]
def ti{ex h b c mu tl}(hb:(fY ex h)[b]? =some (.cells c mu tl)):some b∉ex/\h[b]? =some (.cells c mu tl):=by
 rw[fY,List.getElem?_mapIdx]at hb;cases hk:h[b]? with
 |none=>rw[hk]at hb;cases hb
 |some k=>
  rw[hk]at hb;simp only[U4,TG]at hb;split at hb
  ·cases hb
  case isFalse h1=>exact⟨h1,by rw[hb]⟩
def mz(k h:af):Prop:=∀(b:Nat) (c:List AV) (mu tl:Bool),k[b]? =some (ai.cells c mu tl)->h[b]? =some (ai.cells c mu tl)
def aA.sub{k h s es cs}(o:aA k s es cs)(e:mz k h):aA h s es cs:=by
 cases o with
 |nil=>exact .nil
 |mk hb hf ho he=>exact .mk (e _ _ _ _ hb) hf ho he
theorem aE.sub{k h V}(o:aE k V)(e:mz k h):aE h V:=
 ⟨o.i0.sub e,o.i1.sub e,o.i2.sub e,o.i3.sub e,o.i4.sub e,o.i5.sub e,λx hx=>(o.e2 x hx).sub e,λx hx=>(o.e3 x hx).sub e,λx hx=>(o.e4 x hx).sub e⟩
theorem a8.sub{k h x}(o:a8 k x)(e:mz k h):a8 h x:=⟨o.n.sub e,o.v.sub e⟩
theorem mz.fY(ex:List (Option Nat))(h:af):mz (fY ex h) h:=λ_ _ _ _ hb=>(ti hb).2
theorem aA.fY{h s es cs}(o:aA h s es cs){ex}(hx:∀b,sB s=some b->some b∉ex):aA (Go.Abs.fY ex h) s es cs:=by
 cases o with
 |nil=>exact .nil
 |mk hb hf ho he=>exact .mk ((wh (hx _ rfl)).trans hb) hf ho he
def aE.aq{h k V}(o:aE h V)(hk:∀b,some b∈V.bl->k[b]? =h[b]?):aE k V:=by
 have m6:∀x∈[sB V.s0,sB V.s1,sB V.s2,sB V.s3,sB V.s4,sB V.s5],x∈V.bl:=λx hx=>by simp only[RV.bl,Tn];exact .inl (.inl (.inl hx))
 have kp:∀{s:AV}{es:Nat}{cs:List (List AV)},aA h s es cs->(∀b,sB s=some b->k[b]? =h[b]?)->aA k s es cs:=λ{s es cs} hs hb=>by
  cases hs with
  |nil=>exact .nil
  |mk h1 h2 h3 h4=>exact .mk ((hb _ rfl).trans h1) h2 h3 h4
 refine⟨kp o.i0 λb hb=>hk b (hb▸m6 _ Si),kp o.i1 λb hb=>hk b (hb▸m6 _ Si),kp o.i2 λb hb=>hk b (hb▸m6 _ Si),kp o.i3 λb hb=>hk b (hb▸m6 _ Si),kp o.i4 λb hb=>hk b (hb▸m6 _ Si),kp o.i5 λb hb=>hk b (hb▸m6 _ Si),
  λx hx=>kp (o.e2 x hx) λb hb=>hk b ?_,λx hx=>kp (o.e3 x hx) λb hb=>hk b ?_,λx hx=>kp (o.e4 x hx) λb hb=>hk b ?_⟩
 ·exact Ha
 ·exact z119
 ·exact GZ
structure HV where
 cI:List EV
 eC:List EV
 cp:List RV
 se:AV
 sc:AV
 sr:AV
def HV.bp(V:HV):gM:=⟨V.cI.map EV.ev,V.eC.map EV.ev,V.cp.map RV.aC⟩
def HV.ex(b:Nat)(V:HV):List (Option Nat):=[some b,sB V.se,sB V.sc,sB V.sr]
structure bT(N:Nat)(h:af)(b:Nat)(V:HV):Prop where
 hN:N<=b
 hb:h[b]? =some (.b [V.se,V.sc,V.sr])
 oe:Ow N h V.se 5 (V.cI.map EV.row)
 oc:Ow N h V.sc 5 (V.eC.map EV.row)
 og:Ow N h V.sr 7 (V.cp.map RV.row)
 di:jS (V.ex b)
 ae:∀x∈V.cI,a8 (fY (V.ex b) h) x
 ac:∀x∈V.eC,a8 (fY (V.ex b) h) x
 ag:∀x∈V.cp,aE (fY (V.ex b) h) x
 lo:∀x∈V.cp,∀j,some j∈x.bl->N<=j
def n6{ex ex' h h'}(hk:∀b,b<h.length->some b∉ex->h'[b]? =h[b]?)(he:∀b,b<h.length->some b∈ex'->some b∈ex):mz (fY ex h) (fY ex' h'):=by
 intro b c mu tl hb;obtain⟨h1,h2⟩:=ti hb;have hlt:b<h.length:=(Th.1 h2).1;rw[wh λh3=>h1 (he b hlt h3),hk b hlt h1,h2]
def bT.app{N h b V}(o:bT N h b V)(g:af):bT N (h++g) b V:=by
 have hs:mz (fY (V.ex b) h) (fY (V.ex b) (h++g)):=n6 (λb hb _=>Tj hb) (λb _ hb=>hb);have hbl:=(Th.1 o.hb).1;exact⟨o.hN,(Tj hbl).trans o.hb,o.oe.ay λb hb=>Tj (o.oe.bN hb).2,o.oc.ay λb hb=>Tj (o.oc.bN hb).2,o.og.ay λb hb=>Tj (o.og.bN hb).2,o.di,
  λx hx=>(o.ae x hx).sub hs,λx hx=>(o.ac x hx).sub hs,λx hx=>(o.ag x hx).sub hs,o.lo⟩
end Go.Abs
namespace Go.Abs
def iE:By->Bool
 |[]=>true
 |c::r=>gS c&&r.all qn
def qy(s:By):ff s=(decide (s≠[])&&decide (s.length<=24)&&iE s):=by
 cases s with
 |nil=>rfl
 |cons c r=>
  have:(r.length<24)=((c::r).length<=24):=by simp;omega
  simp only[ff,iE,this];simp[Bool.and_assoc]
def xY{s:By}{k:Nat}(hk:k<s.length):iE (s.take (k+1))=(iE (s.take k)&&(if k=0 then gS s[k]else qn s[k])):=by
 cases s with
 |nil=>simp at hk
 |cons c r=>
  cases k with
  |zero=>simp[iE]
  |succ k=>
   have hk':k<r.length:=by simpa using hk
   simp only[Vf,iE,List.getElem_cons_succ];rw[T9,Tk hk',Option.toList_some];rw[List.all_append,Vu,List.all_nil,Bool.and_true,Bool.and_assoc,Tt Om]
def xX{s k}(h:iE (s.take k)=false):iE s=false:=by
 cases s with
 |nil=>simp[iE]at h
 |cons c r=>
  cases k with
  |zero=>simp[iE]at h
  |succ k=>
   simp only[Vf,iE,Bool.and_eq_false_iff]at h ⊢;rcases h with h|h
   ·exact .inl h
   ·right
    rw[List.all_eq_false]at h ⊢;obtain⟨x,hx,hr⟩:=h;exact⟨x,Ut hx,hr⟩
def dec_lt{s i}(hi:i<s.length)(h:s[i].toNat<128):Utf8.decode ⟨⟨s⟩⟩ i=(s[i].toNat,1):=by
 have hg:(ByteArray.get! ⟨⟨s⟩⟩ i).toNat=s[i].toNat:=by
  simp[ByteArray.get!,hi]
 simp only[Utf8.decode,VE,hg,Ty h]
def FP{s i}(hi:i<s.length)(h:128<=s[i].toNat):128<=(Utf8.decode ⟨⟨s⟩⟩ i).1:=by
 have hg:(ByteArray.get! ⟨⟨s⟩⟩ i).toNat=s[i].toNat:=by
  simp[ByteArray.get!,hi]
 simp only[Utf8.decode,VE,hg];rw[Tt Om];simp only[Utf8.runeError]
 repeat' split
 all_goals first
  |(simp only;omega)
  |(simp only[TL,T3]at *;omega)
section
variable {P:Program}(T:dB P) {h:af}
include T
def r85(c:Bool)(e:Int):ao P 85 [.bool c,.i e] h (λv _=>v=.i (bz c e)):=by
 refine .of T.mix T.c85 ?_;unfold fn85 gA;simp only[uset];cases c<;>simp only[bx]<;>rfl
def r94(n lo hi:Int):ao P 94 [.i n,.i lo,.i hi] h (λv _=>v=.i (aU n lo hi)):=by
 refine .of T.mix T.c94 ?_;unfold fn94 gA;simp only[uset];simp+contextual only[bx,yI,T5,Uq];refine⟨λh1=>?_,λh1=>?_⟩<;>
 ·refine WF.res T.c85 (r85 T _ _) ?_;rintro _ g rfl;simp only[bx];simp[bz,aU,h1]
def r74{s l}(hs:aA h s 1 (l.map aB))(hl:l.length<2^63):ao P 74 [s] h (λv _=>v=.i (aG l)):=by
 refine .of T.mix T.c74 ?_;unfold fn74 gA;simp only[uset];have e1:(l.map aB).length=l.length:=Si
 simp only[bx,hs.gZ,e1];refine WL.inv T.mix (λn ts h'=>∃k:Nat,k<=l.length/\n=l.length-k/\h' =h/\aG l=aG (l.drop k)/\ts.length=15/\slot ts 5=s/\slot ts 6=.i l.length/\slot ts 7=.i k) l.length
  ⟨0,Om,rfl,rfl,rfl,rfl,rfl,rfl,rfl⟩ ?_
 rintro _ ts _ ⟨k,hk,rfl,rfl,hf,hlen,h5,h6,h7⟩;rw[ki ts 15 hlen];by_cases hlt:k<l.length
 ·have hd:l.drop k=l[k]::l.drop (k+1):=Si
  have e2:(l.map aB)[k]'Om=[AV.i l[k]]:=Si
  have e3:(k:Int)<l.length:=Om
  simp+contextual (disch:=omega) only[bx,yI,h5,h6,h7,e3,T5,hs.bU,U0,hs.Ij _ e2,aR];refine⟨λh1=>?_,λh1=>⟨l.length-(k+1),Om,k+1,Om,rfl,?_,rfl⟩⟩
  ·rw[hf,hd,aG,Tt h1]
  ·rw[hf,hd,aG,Ty Om]
 ·have e3:¬(k:Int)<l.length:=Om
  have e4:k=l.length:=Om
  simp+contextual (disch:=omega) only[bx,h5,h6,h7,e3,Uq,TQ];rw[hf,e4,UQ];rfl
def r132(s:By):ao P 132 [.str s] h (λv _=>v=.bool (ff s)):=by
 refine .of T.mix T.c132 ?_;unfold fn132 gA;simp only[uset];simp only[bx,bo];refine WL.inv T.mix (λn ts h'=>∃k:Nat,k<=s.length/\n=s.length-k/\h' =h++[.iter s k]/\iE (s.take k)=true/\ts.length=54/\slot ts 0=.str s/\slot ts 8=.ptr h.length 0) s.length
  ⟨0,Om,rfl,rfl,rfl,rfl,rfl,rfl⟩ ?_
 rintro _ ts _ ⟨k,hk,rfl,rfl,hf,hlen,h0,h8⟩;rw[ki ts 54 hlen];by_cases hlt:k<s.length
 ·have Od:=xY hlt;rw[hf,Vv]at Od;obtain⟨c,w,PD,hcw⟩:∃c w,Utf8.decode ⟨⟨s⟩⟩ k=(c,w)/\(c=s[k].toNat/\w=1\/128<=c/\128<=s[k].toNat):=by
   by_cases hc:s[k].toNat<128
   ·exact⟨_,_,dec_lt hlt hc,.inl ⟨rfl,rfl⟩⟩
   ·exact z156
  have Po:(if k=0 then gS s[k]else qn s[k])=false->AV.bool false=AV.bool (ff s):=λhb=>by
   rw[hb]at Od;rw[qy,xX Od,Bool.and_false]
  have Sd:∀w',c=s[k].toNat/\w' =1->(if k=0 then gS s[k]else qn s[k])=true->∃m,m<s.length-k/\∃k_1,k_1<=s.length/\m=s.length-k_1/\h++[ai.iter s (k+w')]=h++[ai.iter s k_1]/\iE (List.take k_1 s)=true/\True:=λw' hw hb=>by
   rw[hb]at Od;exact⟨_,Om,k+1,Om,rfl,by rw[hw.2],Od,trivial⟩
  have hl:gS s[k]=(decide (65<=s[k].toNat)&&decide (s[k].toNat<=90)||decide (97<=s[k].toNat)&&decide (s[k].toNat<=122)):=rfl;have hr:qn s[k]=(gS s[k]||(decide (48<=s[k].toNat)&&decide (s[k].toNat<=57))||s[k].toNat==95):=rfl;have h0':((k:Int)=0)=(k=0):=Si
  by_cases a1:(65:Int)<=c<;>by_cases a2:(c:Int)<=90<;>by_cases a3:(97:Int)<=c<;>by_cases a4:(c:Int)<=122<;>first|(exfalso;omega)|skip
  all_goals by_cases a5:(48:Int)<=c<;>by_cases a6:(c:Int)<=57<;>by_cases a7:(c:Int)=95<;>first|(exfalso;omega)|skip
  all_goals first|have b7:=UI a7|have b7:=VK a7
  all_goals simp only[bx,bo,h0,h8,dc,hlt,TQ,PD,a1,a2,a3,a4,a5,a6,b7,T5,Uq,TU,TW]
  all_goals first
   |exact Sd _ Om (by grind)
   |(by_cases hk0:(k:Int)=0<;>simp only[bx,bo,hk0,T5,Uq,TU,TW]<;>first
     |exact Po (by grind)
     |exact Sd _ Om (by grind))
   |exact Po (by grind)
 ·simp only[bx,bo,h0,h8,dc,hlt,TT,TQ];have e4:k=s.length:=Om
  rw[e4,T7]at hf;by_cases he:s=[]<;>simp only[bx,he,T5,Uq,ne_eq,not_true_eq_false,not_false_eq_true]
  ·rfl
  ·rw[qy,hf];simp[he];omega
end
end Go.Abs
namespace Go.Abs
def iY{α:Type}{f:α->By}{L:List α}{n:By}(h:n∈L.map f):dM (λx=>decide (f x=n)) L=(bC (L.map f) n:Int):=by
 have e:bC (L.map f) n=L.findIdx λx=>decide (f x=n):=by
  rw[bC,List.findIdx_map];rfl
 have hlt:=dS h;rw[e,Tu]at hlt;rw[e,dM,List.findIdx?_eq_guard_findIdx_lt];simp[Option.guard,hlt]
def iZ{α:Type}{f:α->By}{L:List α}{n:By}:decide (0<=dM (λx=>decide (f x=n)) L)=decide (n∈L.map f):=by
 rw[lQ];rw[Bool.eq_iff_iff];simp[UR]
section
variable {P:Program}(T:dB P) {h:af}
include T
def r230{α:Type}{row L s f}(hs:aA h s 3 (L.map row))(hl:L.length<2^63)(p:α->Bool)
  (hf:∀x,x∈L->∀k,Ext h k->aQ P f [.agg (row x)] k (λv _=>v=.bool (p x))):ao P 230 [s,f] h (λv _=>v=.i (dM p L)):=by
 refine .of T.mix T.c230 ?_;unfold fn230 gA;exact z1
def r232{α:Type}{row L s f}(hs:aA h s 2 (L.map row))(hl:L.length<2^63)(p:α->Bool)
  (hf:∀x,x∈L->∀k,Ext h k->aQ P f [.agg (row x)] k (λv _=>v=.bool (p x))):ao P 232 [s,f] h (λv _=>v=.i (dM p L)):=by
 refine .of T.mix T.c232 ?_;unfold fn232 gA;exact z1
def r228{α:Type}{row L s f}(hs:aA h s 3 (L.map row))(hl:L.length<2^63)(p:α->Bool)
  (hf:∀x,x∈L->∀k,Ext h k->aQ P f [.agg (row x)] k (λv _=>v=.bool (p x))):ao P 228 [s,f] h (λv _=>v=.i (dM p L)):=by
 refine .of T.mix T.c228 ?_;unfold fn228 gA;exact z1
def r234{α:Type}{row L s f}(hs:aA h s 4 (L.map row))(hl:L.length<2^63)(p:α->Bool)
  (hf:∀x,x∈L->∀k,Ext h k->aQ P f [.agg (row x)] k (λv _=>v=.bool (p x))):ao P 234 [s,f] h (λv _=>v=.i (dM p L)):=by
 refine .of T.mix T.c234 ?_;unfold fn234 gA;exact z1
def r236{α:Type}{row L s f}(hs:aA h s 3 (L.map row))(hl:L.length<2^63)(p:α->Bool)
  (hf:∀x,x∈L->∀k,Ext h k->aQ P f [.agg (row x)] k (λv _=>v=.bool (p x))):ao P 236 [s,f] h (λv _=>v=.i (dM p L)):=by
 refine .of T.mix T.c236 ?_;unfold fn236 gA;exact z1
def r238{α:Type}{row L s f}(hs:aA h s 4 (L.map row))(hl:L.length<2^63)(p:α->Bool)
  (hf:∀x,x∈L->∀k,Ext h k->aQ P f [.agg (row x)] k (λv _=>v=.bool (p x))):ao P 238 [s,f] h (λv _=>v=.i (dM p L)):=by
 refine .of T.mix T.c238 ?_;unfold fn238 gA;exact z1
def r246{α:Type}{row:α->List AV}{L:List α}{s f:AV}(hs:aA h s 3 (L.map row))(hl:L.length<2^63)(p:α->Bool)
  (hf:∀x,x∈L->∀k,Ext h k->aQ P f [.agg (row x)] k (λv _=>v=.bool (p x))):ao P 246 [s,f] h (λv _=>v=.bool (L.any p)):=by
 refine .of T.mix T.c246 ?_;unfold fn246 gA;refine Wn ?_;refine WF.ce T.c230 (r230 T hs hl p hf) λg=>?_
 exact Ws @lQ Tv
def r243{α:Type}{row:α->List AV}{L:List α}{s f:AV}(hs:aA h s 3 (L.map row))(hl:L.length<2^63)(p:α->Bool)
  (hf:∀x,x∈L->∀k,Ext h k->aQ P f [.agg (row x)] k (λv _=>v=.bool (p x))):ao P 243 [s,f] h (λv _=>v=.bool (L.any p)):=by
 refine .of T.mix T.c243 ?_;unfold fn243 gA;refine Wn ?_;refine WF.ce T.c228 (r228 T hs hl p hf) λg=>?_
 exact Ws @lQ Tv
def r268{α:Type}{row:α->List AV}{L:List α}{s f:AV}(hs:aA h s 4 (L.map row))(hl:L.length<2^63)(p:α->Bool)
  (hf:∀x,x∈L->∀k,Ext h k->aQ P f [.agg (row x)] k (λv _=>v=.bool (p x))):ao P 268 [s,f] h (λv _=>v=.bool (L.any p)):=by
 refine .of T.mix T.c268 ?_;unfold fn268 gA;refine Wn ?_;refine WF.ce T.c238 (r238 T hs hl p hf) λg=>?_
 exact Ws @lQ Tv
def r123(x:jx):ao P 123 [.agg (bX x)] h (λv _=>v=.str x.name):=by
 refine .of T.mix T.c123 ?_;unfold fn123 gA bX;exact Wn Tv
def r231(x:jx){b n}(hb:h[b]? =some (.b [.str n])):ao P 231 [.agg (bX x),.ptr b 0] h (λv _=>v=.bool (decide (x.name=n))):=by
 refine .of T.mix T.c231 ?_;unfold fn231 gA;have hlt:=(Th.1 hb).1;have hld:∀g:af,au none (.ptr b 0) (λz=>(h++g)[z]?)=dy none 0 (.b [.str n]):=λg=>az (by rw[cF _ hlt];exact hb)
 have OO:∀g g':af,au none (.ptr b 0) (λz=>(h++g++g')[z]?)=dy none 0 (.b [.str n]):=λg g'=>az (by rw[Ti,cF _ hlt];exact hb)
 unfold bX;refine Ws (A3 @hld @OO @iH) ?_;refine WF.val (aQ.xP T.m123 T.c123 (r123 T x)) ?_;rintro _ g1 rfl;exact Gr
def r142{L s}(hs:aA h s 3 (L.map bX))(hl:L.length<2^63)(n:By):ao P 142 [s,.str n] h (λv _=>v=.i (dM (λx=>decide (x.name=n)) L)):=by
 refine .of T.mix T.c142 ?_;unfold fn142 gA;refine Wn ?_;refine WF.ce T.c230 (r230 T (hs.ext (by repeat first|exact Ext.refl _|refine Ext.app _ ?_)) hl (λx=>decide (x.name=n)) (λx hx k e=>aQ.of (a:=[]) (c:=[.ptr h.length 0]) T.c231 (r231 T x (e.some bF)))) λg1=>?_
 exact Wn Tv
def r322(x:ui):ao P 322 [.agg (dW x)] h (λv _=>v=.str x.name):=by
 refine .of T.mix T.c322 ?_;unfold fn322 gA dW;exact Wn Tv
def r233(x:ui){b n}(hb:h[b]? =some (.b [.str n])):ao P 233 [.agg (dW x),.ptr b 0] h (λv _=>v=.bool (decide (x.name=n))):=by
 refine .of T.mix T.c233 ?_;unfold fn233 gA;have hlt:=(Th.1 hb).1;have hld:∀g:af,au none (.ptr b 0) (λz=>(h++g)[z]?)=dy none 0 (.b [.str n]):=λg=>az (by rw[cF _ hlt];exact hb)
 have OO:∀g g':af,au none (.ptr b 0) (λz=>(h++g++g')[z]?)=dy none 0 (.b [.str n]):=λg g'=>az (by rw[Ti,cF _ hlt];exact hb)
 unfold dW;refine Ws (A3 @hld @OO @iH) ?_;refine WF.val (aQ.xP T.m322 T.c322 (r322 T x)) ?_;rintro _ g1 rfl;exact Gr
def r143{L s}(hs:aA h s 2 (L.map dW))(hl:L.length<2^63)(n:By):ao P 143 [s,.str n] h (λv _=>v=.i (dM (λx=>decide (x.name=n)) L)):=by
 refine .of T.mix T.c143 ?_;unfold fn143 gA;refine Wn ?_;refine WF.ce T.c232 (r232 T (hs.ext (by repeat first|exact Ext.refl _|refine Ext.app _ ?_)) hl (λx=>decide (x.name=n)) (λx hx k e=>aQ.of (a:=[]) (c:=[.ptr h.length 0]) T.c233 (r233 T x (e.some bF)))) λg1=>?_
 exact Wn Tv
def r140(x:km×AV)(ho:x.2.one=true):ao P 140 [.agg (aW x)] h (λv _=>v=.str x.1.name):=by
 refine .of T.mix T.c140 ?_;unfold fn140 gA aW;exact Ws @ho Tv
def r229(x:km×AV)(ho:x.2.one=true){b n}(hb:h[b]? =some (.b [.str n])):ao P 229 [.agg (aW x),.ptr b 0] h (λv _=>v=.bool (decide (x.1.name=n))):=by
 refine .of T.mix T.c229 ?_;unfold fn229 gA;have hlt:=(Th.1 hb).1;have hld:∀g:af,au none (.ptr b 0) (λz=>(h++g)[z]?)=dy none 0 (.b [.str n]):=λg=>az (by rw[cF _ hlt];exact hb)
 have OO:∀g g':af,au none (.ptr b 0) (λz=>(h++g++g')[z]?)=dy none 0 (.b [.str n]):=λg g'=>az (by rw[Ti,cF _ hlt];exact hb)
 unfold aW;refine Ws (A4 @hld @OO @ho @iH) ?_;refine WF.val (aQ.xP T.m140 T.c140 (r140 T x ho)) ?_;rintro _ g1 rfl;exact Gr
def r136{L s}(hs:aA h s 3 (L.map aW))(ho:∀x∈L,x.2.one=true)(hl:L.length<2^63)(n:By):ao P 136 [s,.str n] h (λv _=>v=.i (dM (λx=>decide (x.1.name=n)) L)):=by
 refine .of T.mix T.c136 ?_;unfold fn136 gA;refine Wn ?_;refine WF.ce T.c228 (r228 T (hs.ext (by repeat first|exact Ext.refl _|refine Ext.app _ ?_)) hl (λx=>decide (x.1.name=n)) (λx hx k e=>aQ.of (a:=[]) (c:=[.ptr h.length 0]) T.c229 (r229 T x (ho x hx) (e.some bF)))) λg1=>?_
 exact Wn Tv
def r120(x:jo×AV)(ho:x.2.one=true):ao P 120 [.agg (aL x)] h (λv _=>v=.str x.1.name):=by
 refine .of T.mix T.c120 ?_;unfold fn120 gA aL;exact Ws @ho Tv
def r235(x:jo×AV)(ho:x.2.one=true){b n}(hb:h[b]? =some (.b [.str n])):ao P 235 [.agg (aL x),.ptr b 0] h (λv _=>v=.bool (decide (x.1.name=n))):=by
 refine .of T.mix T.c235 ?_;unfold fn235 gA;have hlt:=(Th.1 hb).1;have hld:∀g:af,au none (.ptr b 0) (λz=>(h++g)[z]?)=dy none 0 (.b [.str n]):=λg=>az (by rw[cF _ hlt];exact hb)
 have OO:∀g g':af,au none (.ptr b 0) (λz=>(h++g++g')[z]?)=dy none 0 (.b [.str n]):=λg g'=>az (by rw[Ti,cF _ hlt];exact hb)
 unfold aL;refine Ws (A4 @hld @OO @ho @iH) ?_;refine WF.val (aQ.xP T.m120 T.c120 (r120 T x ho)) ?_;rintro _ g1 rfl;exact Gr
def r144{L s}(hs:aA h s 4 (L.map aL))(ho:∀x∈L,x.2.one=true)(hl:L.length<2^63)(n:By):ao P 144 [s,.str n] h (λv _=>v=.i (dM (λx=>decide (x.1.name=n)) L)):=by
 refine .of T.mix T.c144 ?_;unfold fn144 gA;refine Wn ?_;refine WF.ce T.c234 (r234 T (hs.ext (by repeat first|exact Ext.refl _|refine Ext.app _ ?_)) hl (λx=>decide (x.1.name=n)) (λx hx k e=>aQ.of (a:=[]) (c:=[.ptr h.length 0]) T.c235 (r235 T x (ho x hx) (e.some bF)))) λg1=>?_
 exact Wn Tv
def r324(x:mE×AV)(ho:x.2.one=true):ao P 324 [.agg (bI x)] h (λv _=>v=.str x.1.name):=by
 refine .of T.mix T.c324 ?_;unfold fn324 gA bI;exact Ws @ho Tv
def r237(x:mE×AV)(ho:x.2.one=true){b n}(hb:h[b]? =some (.b [.str n])):ao P 237 [.agg (bI x),.ptr b 0] h (λv _=>v=.bool (decide (x.1.name=n))):=by
 refine .of T.mix T.c237 ?_;unfold fn237 gA;have hlt:=(Th.1 hb).1;have hld:∀g:af,au none (.ptr b 0) (λz=>(h++g)[z]?)=dy none 0 (.b [.str n]):=λg=>az (by rw[cF _ hlt];exact hb)
 have OO:∀g g':af,au none (.ptr b 0) (λz=>(h++g++g')[z]?)=dy none 0 (.b [.str n]):=λg g'=>az (by rw[Ti,cF _ hlt];exact hb)
 unfold bI;refine Ws (A4 @hld @OO @ho @iH) ?_;refine WF.val (aQ.xP T.m324 T.c324 (r324 T x ho)) ?_;rintro _ g1 rfl;exact Gr
def r145{L s}(hs:aA h s 3 (L.map bI))(ho:∀x∈L,x.2.one=true)(hl:L.length<2^63)(n:By):ao P 145 [s,.str n] h (λv _=>v=.i (dM (λx=>decide (x.1.name=n)) L)):=by
 refine .of T.mix T.c145 ?_;unfold fn145 gA;refine Wn ?_;refine WF.ce T.c236 (r236 T (hs.ext (by repeat first|exact Ext.refl _|refine Ext.app _ ?_)) hl (λx=>decide (x.1.name=n)) (λx hx k e=>aQ.of (a:=[]) (c:=[.ptr h.length 0]) T.c237 (r237 T x (ho x hx) (e.some bF)))) λg1=>?_
 exact Wn Tv
def r323(x:mA):ao P 323 [.agg (cS x)] h (λv _=>v=.str x.name):=by
 refine .of T.mix T.c323 ?_;unfold fn323 gA cS;exact Wn Tv
def r239(x:mA){b n}(hb:h[b]? =some (.b [.str n])):ao P 239 [.agg (cS x),.ptr b 0] h (λv _=>v=.bool (decide (x.name=n))):=by
 refine .of T.mix T.c239 ?_;unfold fn239 gA;have hlt:=(Th.1 hb).1;have hld:∀g:af,au none (.ptr b 0) (λz=>(h++g)[z]?)=dy none 0 (.b [.str n]):=λg=>az (by rw[cF _ hlt];exact hb)
 have OO:∀g g':af,au none (.ptr b 0) (λz=>(h++g++g')[z]?)=dy none 0 (.b [.str n]):=λg g'=>az (by rw[Ti,cF _ hlt];exact hb)
 unfold cS;refine Ws (A3 @hld @OO @iH) ?_;refine WF.val (aQ.xP T.m323 T.c323 (r323 T x)) ?_;rintro _ g1 rfl;exact Gr
def r146{L s}(hs:aA h s 4 (L.map cS))(hl:L.length<2^63)(n:By):ao P 146 [s,.str n] h (λv _=>v=.i (dM (λx=>decide (x.name=n)) L)):=by
 refine .of T.mix T.c146 ?_;unfold fn146 gA;refine Wn ?_;refine WF.ce T.c238 (r238 T (hs.ext (by repeat first|exact Ext.refl _|refine Ext.app _ ?_)) hl (λx=>decide (x.name=n)) (λx hx k e=>aQ.of (a:=[]) (c:=[.ptr h.length 0]) T.c239 (r239 T x (e.some bF)))) λg1=>?_
 exact Wn Tv
end
def aA.KU{h s es cs}(hs:aA h s es cs):(s=.ah/\cs=[])\/(∀neg:Bool,nW neg (kY .BI s .ah)=some (.bool neg)):=by
 cases hs with
 |nil=>exact .inl ⟨rfl,rfl⟩
 |mk hb hf ho he=>right;intro neg;cases neg<;>rfl
def zJ:nW false (kY .BI .ah .ah)=some (.bool true):=rfl
attribute [local irreducible] WP WC WE WB WR WF WL WG eD
section
variable {P:Program}(T:dB P) {h:af}
include T
def r177{s cs}(hs:aA h s 1 cs)(hl:cs.length<=2^40):ao P 177 [s] h (λv h'=>Fr h.length h' v 1 cs):=by
 refine .of T.mix T.c177 ?_;unfold fn177 gA;exact z20
def r178{s cs}(hs:aA h s 1 cs)(hl:cs.length<=2^40):ao P 178 [s] h (λv h'=>Fr h.length h' v 1 cs):=by
 refine .of T.mix T.c178 ?_;unfold fn178 gA;exact z20
def r179{s cs}(hs:aA h s 2 cs)(hl:cs.length<=2^40):ao P 179 [s] h (λv h'=>Fr h.length h' v 2 cs):=by
 refine .of T.mix T.c179 ?_;unfold fn179 gA;exact z20
def r181(x:km×AV)(hx:aA h x.2 1 (x.1.aJ.map an))(hl:x.1.aJ.length<=2^40):ao P 181 [.agg (aW x)] h (λv h'=>∃s',v=.agg (aW (x.1,s'))/\Fr h.length h' s' 1 (x.1.aJ.map an)):=by
 refine .of T.mix T.c181 ?_;obtain⟨ts,NK⟩:∃ts,ts=aM 8 [.agg (aW x)]:=⟨_,rfl⟩;have hlen:ts.length=8:=by rw[NK];rfl
 have t0:slot ts 0=.agg (aW x):=by rw[NK];rfl
 unfold fn181 gA;show WC P bS _ [] (aM 8 [.agg (aW x)]) h _;rw[<-NK];clear NK;have o1:=hx.one;unfold aW at t0 ⊢;exact ML
def r183(x:jo×AV)(hx:aA h x.2 1 (x.1.bt.map an))(hl:x.1.bt.length<=2^40):ao P 183 [.agg (aL x)] h (λv h'=>∃s',v=.agg (aL (x.1,s'))/\Fr h.length h' s' 1 (x.1.bt.map an)):=by
 refine .of T.mix T.c183 ?_;obtain⟨ts,NK⟩:∃ts,ts=aM 8 [.agg (aL x)]:=⟨_,rfl⟩;have hlen:ts.length=8:=by rw[NK];rfl
 have t0:slot ts 0=.agg (aL x):=by rw[NK];rfl
 unfold fn183 gA;show WC P bS _ [] (aM 8 [.agg (aL x)]) h _;rw[<-NK];clear NK;have o1:=hx.one;unfold aL at t0 ⊢;exact ML
def r185(x:mE×AV)(hx:aA h x.2 1 (x.1.bQ.map aB))(hl:x.1.bQ.length<=2^40):ao P 185 [.agg (bI x)] h (λv h'=>∃s',v=.agg (bI (x.1,s'))/\Fr h.length h' s' 1 (x.1.bQ.map aB)):=by
 refine .of T.mix T.c185 ?_;obtain⟨ts,NK⟩:∃ts,ts=aM 8 [.agg (bI x)]:=⟨_,rfl⟩;have hlen:ts.length=8:=by rw[NK];rfl
 have t0:slot ts 0=.agg (bI x):=by rw[NK];rfl
 unfold fn185 gA;show WC P bS _ [] (aM 8 [.agg (bI x)]) h _;rw[<-NK];clear NK;have o1:=hx.one;unfold bI at t0 ⊢;refine Rs (A2 t0 @o1) ?_;refine WF.res T.c178 (r178 T (hx.ext Xx) (by simp;omega)) ?_;rintro s' g1 hf;have o2:=hf.aN.one;refine Rs (A3 t0 @o1 @o2) ?_;exact⟨s',rfl,(Fr.swap hf Si).low Si⟩
set_option maxRecDepth 10000 in
def r91(x:EV)(hx:a8 h x)(hl:x.ev.names.length<=2^40/\x.ev.cK.length<=2^40):ao P 91 [.agg x.row] h (λv h'=>∃x':EV,x'.ev=x.ev/\v=.agg x'.row/\Fr h.length h' x'.sn 1 (x.ev.names.map an)/\Fr h.length h' x'.sv 1 (x.ev.cK.map aB)):=by
 refine .of T.mix T.c91 ?_;obtain⟨ts,NK⟩:∃ts,ts=aM 12 [.agg x.row]:=⟨_,rfl⟩;have hlen:ts.length=12:=by rw[NK];rfl
 have t0:slot ts 0=.agg x.row:=by rw[NK];rfl
 unfold fn91;show WC P bS _ [] (aM 12 [.agg x.row]) h _;rw[<-NK];clear NK;have o1:=hx.n.one;have o2:=hx.v.one;unfold EV.row at t0 ⊢;refine Rs (A3 t0 @o1 @o2) ?_;refine WF.res T.c177 (r177 T (hx.n.ext Xx) (by simp;omega)) ?_;rintro s1 g1 Qw;have o3:=Qw.aN.one;refine Rs (A4 t0 @o1 @o2 @o3) ?_;refine WF.res T.c178 (r178 T (hx.v.ext Xx) (by simp;omega)) ?_;rintro s2 g2 PB;have o4:=PB.aN.one;refine Rs (A5 t0 @o1 @o2 @o3 @o4) ?_;refine⟨⟨x.ev,s1,s2⟩,rfl,rfl,?_,?_⟩
 ·exact((Fr.swap Qw Si).app _).low Si
 ·exact(Fr.swap PB Si).low Si
def r130{L:List (By)}{s f:AV}(hs:aA h s 1 (L.map an))(hl:L.length<=2^40)(F:(By)->Int)(hf:∀x,x∈L->∀k,Ext h k->aQ P f [.str x] k (λv _=>v=.i (F x))):
  ao P 130 [s,f] h (λv h'=>Fr h.length h' v 1 ((L.map F).map aB)):=by
 refine .of T.mix T.c130 ?_;unfold fn130 gA;refine Ws hs.bh ?_;refine WL.inv T.mix (λn ts h'=>∃(k:Nat) (out:AV),k<=L.length/\n=L.length-k/\Ext h h'/\Fr h.length h' out 1 (((L.take k).map F).map aB)/\ts.length=22/\slot ts 1=f/\slot ts 5=out/\slot ts 8=s/\slot ts 9=.i L.length/\slot ts 10=.i k) L.length
  ⟨0,.ah,Om,rfl,Ext.refl h,.nil,rfl,rfl,rfl,rfl,rfl,rfl⟩ ?_
 rintro _ ts _ ⟨k,out,hk,rfl,⟨g,rfl⟩,hfr,hlen,t1,t5,t8,t9,t10⟩;rw[ki ts 22 hlen];by_cases hlt:k<L.length
 ·have e3:(k:Int)<L.length:=Om
  have hvk:=hf L[k] Si;have Ro:∀{kk:af},Ext h kk->au none (dG s 1 k) (λb=>kk[b]?)=some (.str L[k],.aq):=λ{kk} e=>hs.kV hlt rfl e
  simp only[bx,bo,bL,bM,reduceAdd,reduceMul,reduceLeDiff,reduceEqDiff,t1,t5,t8,t9,t10,e3,T5,hs.eX hlt,Ro];refine WF.val (hvk _ (by repeat first|exact Ext.refl _|refine Ext.app _ ?_)) ?_;rintro _ g1 rfl;refine Wn ?_;refine WR.fN (h0:=h) (cs:=((L.take k).map F).map aB) (ys:=[aB (F L[k])]) (((hfr.app _).app _)) (Fr.push (N:=0) (TJ _) [aB (F L[k])] (by simp[aB])).aN De Si (by simp;omega) (by simp only[p4]) ?_;intro g' N1 hff hkp;have hrow:((L.take k).map F).map aB++[aB (F L[k])]=((L.take (k+1)).map F).map aB:=by rw[T9,Tk hlt,Tx,Tx];rfl
  exact z5
 ·exact z4
def r92{L:List (Int)}{s f:AV}(hs:aA h s 1 (L.map aB))(hl:L.length<=2^40)(F:(Int)->Int)(hf:∀x,x∈L->∀k,Ext h k->aQ P f [.i x] k (λv _=>v=.i (F x))):
  ao P 92 [s,f] h (λv h'=>Fr h.length h' v 1 ((L.map F).map aB)):=by
 refine .of T.mix T.c92 ?_;unfold fn92 Hq;refine Ws hs.bh ?_;refine WL.inv T.mix (λn ts h'=>∃(k:Nat) (out:AV),k<=L.length/\n=L.length-k/\Ext h h'/\Fr h.length h' out 1 (((L.take k).map F).map aB)/\ts.length=22/\slot ts 1=f/\slot ts 5=out/\slot ts 8=s/\slot ts 9=.i L.length/\slot ts 10=.i k) L.length
  ⟨0,.ah,Om,rfl,Ext.refl h,.nil,rfl,rfl,rfl,rfl,rfl,rfl⟩ ?_
 rintro _ ts _ ⟨k,out,hk,rfl,⟨g,rfl⟩,hfr,hlen,t1,t5,t8,t9,t10⟩;rw[ki ts 22 hlen];by_cases hlt:k<L.length
 ·have e3:(k:Int)<L.length:=Om
  have hvk:=hf L[k] Si;have Ro:∀{kk:af},Ext h kk->au none (dG s 1 k) (λb=>kk[b]?)=some (.i L[k],.aq):=λ{kk} e=>hs.kV hlt rfl e
  simp only[bx,bo,bL,bM,reduceAdd,reduceMul,reduceLeDiff,reduceEqDiff,t1,t5,t8,t9,t10,e3,T5,hs.eX hlt,Ro];refine WF.val (hvk _ (by repeat first|exact Ext.refl _|refine Ext.app _ ?_)) ?_;rintro _ g1 rfl;refine Wn ?_;refine WR.fN (h0:=h) (cs:=((L.take k).map F).map aB) (ys:=[aB (F L[k])]) (((hfr.app _).app _)) (Fr.push (N:=0) (TJ _) [aB (F L[k])] (by simp[aB])).aN De Si (by simp;omega) (by simp only[p4]) ?_;intro g' N1 hff hkp;have hrow:((L.take k).map F).map aB++[aB (F L[k])]=((L.take (k+1)).map F).map aB:=by rw[T9,Tk hlt,Tx,Tx];rfl
  exact z5
 ·exact z4
def r199{L:List (Int)}{s f:AV}(hs:aA h s 1 (L.map aB))(hl:L.length<=2^40)(F:(Int)->By)(hf:∀x,x∈L->∀k,Ext h k->aQ P f [.i x] k (λv _=>v=.str (F x))):
  ao P 199 [s,f] h (λv h'=>Fr h.length h' v 1 ((L.map F).map an)):=by
 refine .of T.mix T.c199 ?_;unfold fn199 gA;refine Ws hs.bh ?_;refine WL.inv T.mix (λn ts h'=>∃(k:Nat) (out:AV),k<=L.length/\n=L.length-k/\Ext h h'/\Fr h.length h' out 1 (((L.take k).map F).map an)/\ts.length=22/\slot ts 1=f/\slot ts 5=out/\slot ts 8=s/\slot ts 9=.i L.length/\slot ts 10=.i k) L.length
  ⟨0,.ah,Om,rfl,Ext.refl h,.nil,rfl,rfl,rfl,rfl,rfl,rfl⟩ ?_
 rintro _ ts _ ⟨k,out,hk,rfl,⟨g,rfl⟩,hfr,hlen,t1,t5,t8,t9,t10⟩;rw[ki ts 22 hlen];by_cases hlt:k<L.length
 ·have e3:(k:Int)<L.length:=Om
  have hvk:=hf L[k] Si;have Ro:∀{kk:af},Ext h kk->au none (dG s 1 k) (λb=>kk[b]?)=some (.i L[k],.aq):=λ{kk} e=>hs.kV hlt rfl e
  simp only[bx,bo,bL,bM,reduceAdd,reduceMul,reduceLeDiff,reduceEqDiff,t1,t5,t8,t9,t10,e3,T5,hs.eX hlt,Ro];refine WF.val (hvk _ (by repeat first|exact Ext.refl _|refine Ext.app _ ?_)) ?_;rintro _ g1 rfl;refine Wn ?_;refine WR.fN (h0:=h) (cs:=((L.take k).map F).map an) (ys:=[an (F L[k])]) (((hfr.app _).app _)) (Fr.push (N:=0) (TJ _) [an (F L[k])] (by simp[an])).aN De Si (by simp;omega) (by simp only[p4]) ?_;intro g' N1 hff hkp;have hrow:((L.take k).map F).map an++[an (F L[k])]=((L.take (k+1)).map F).map an:=by rw[T9,Tk hlt,Tx,Tx];rfl
  exact z5
 ·exact z4
def r137{L:List (km×AV)}{s f:AV}(hs:aA h s 3 (L.map aW))(ho:∀x∈L,x.2.one=true)(hl:L.length<=2^40)(F:(km×AV)->By)(hf:∀x,x∈L->∀k,Ext h k->aQ P f [.agg (aW x)] k (λv _=>v=.str (F x))):
  ao P 137 [s,f] h (λv h'=>Fr h.length h' v 1 ((L.map F).map an)):=by
 refine .of T.mix T.c137 ?_;unfold fn137 gA;refine Ws hs.bh ?_;refine WL.inv T.mix (λn ts h'=>∃(k:Nat) (out:AV),k<=L.length/\n=L.length-k/\Ext h h'/\Fr h.length h' out 1 (((L.take k).map F).map an)/\ts.length=22/\slot ts 1=f/\slot ts 5=out/\slot ts 8=s/\slot ts 9=.i L.length/\slot ts 10=.i k) L.length
  ⟨0,.ah,Om,rfl,Ext.refl h,.nil,rfl,rfl,rfl,rfl,rfl,rfl⟩ ?_
 rintro _ ts _ ⟨k,out,hk,rfl,⟨g,rfl⟩,hfr,hlen,t1,t5,t8,t9,t10⟩;rw[ki ts 22 hlen];by_cases hlt:k<L.length
 ·have e3:(k:Int)<L.length:=Om
  have hvk:=hf L[k] Si;simp only[bx,bo,bL,bM,reduceAdd,reduceMul,reduceLeDiff,reduceEqDiff,t1,t5,t8,t9,t10,e3,T5,hs.eX hlt,hs.lO hlt,aW,ho L[k] Si];exact z3
 ·exact z4
def r121{L:List (jx)}{s f:AV}(hs:aA h s 3 (L.map bX))(hl:L.length<=2^40)(F:(jx)->By)(hf:∀x,x∈L->∀k,Ext h k->aQ P f [.agg (bX x)] k (λv _=>v=.str (F x))):
  ao P 121 [s,f] h (λv h'=>Fr h.length h' v 1 ((L.map F).map an)):=by
 refine .of T.mix T.c121 ?_;unfold fn121 gA;refine Ws hs.bh ?_;refine WL.inv T.mix (λn ts h'=>∃(k:Nat) (out:AV),k<=L.length/\n=L.length-k/\Ext h h'/\Fr h.length h' out 1 (((L.take k).map F).map an)/\ts.length=22/\slot ts 1=f/\slot ts 5=out/\slot ts 8=s/\slot ts 9=.i L.length/\slot ts 10=.i k) L.length
  ⟨0,.ah,Om,rfl,Ext.refl h,.nil,rfl,rfl,rfl,rfl,rfl,rfl⟩ ?_
 rintro _ ts _ ⟨k,out,hk,rfl,⟨g,rfl⟩,hfr,hlen,t1,t5,t8,t9,t10⟩;rw[ki ts 22 hlen];by_cases hlt:k<L.length
 ·have e3:(k:Int)<L.length:=Om
  have hvk:=hf L[k] Si;simp only[bx,bo,bL,bM,reduceAdd,reduceMul,reduceLeDiff,reduceEqDiff,t1,t5,t8,t9,t10,e3,T5,hs.eX hlt,hs.lO hlt,bX];exact z3
 ·exact z4
def r117{L:List (jo×AV)}{s f:AV}(hs:aA h s 4 (L.map aL))(ho:∀x∈L,x.2.one=true)(hl:L.length<=2^40)(F:(jo×AV)->By)(hf:∀x,x∈L->∀k,Ext h k->aQ P f [.agg (aL x)] k (λv _=>v=.str (F x))):
  ao P 117 [s,f] h (λv h'=>Fr h.length h' v 1 ((L.map F).map an)):=by
 refine .of T.mix T.c117 ?_;unfold fn117 gA;refine Ws hs.bh ?_;refine WL.inv T.mix (λn ts h'=>∃(k:Nat) (out:AV),k<=L.length/\n=L.length-k/\Ext h h'/\Fr h.length h' out 1 (((L.take k).map F).map an)/\ts.length=22/\slot ts 1=f/\slot ts 5=out/\slot ts 8=s/\slot ts 9=.i L.length/\slot ts 10=.i k) L.length
  ⟨0,.ah,Om,rfl,Ext.refl h,.nil,rfl,rfl,rfl,rfl,rfl,rfl⟩ ?_
 rintro _ ts _ ⟨k,out,hk,rfl,⟨g,rfl⟩,hfr,hlen,t1,t5,t8,t9,t10⟩;rw[ki ts 22 hlen];by_cases hlt:k<L.length
 ·have e3:(k:Int)<L.length:=Om
  have hvk:=hf L[k] Si;simp only[bx,bo,bL,bM,reduceAdd,reduceMul,reduceLeDiff,reduceEqDiff,t1,t5,t8,t9,t10,e3,T5,hs.eX hlt,hs.lO hlt,aL,ho L[k] Si];exact z3
 ·exact z4
def r115{L:List (EV)}{s f:AV}(hs:aA h s 5 (L.map EV.row))(ho:∀x∈L,x.sn.one=true/\x.sv.one=true)(hl:L.length<=2^40)(F:(EV)->By)(hf:∀x,x∈L->∀k,Ext h k->aQ P f [.agg (EV.row x)] k (λv _=>v=.str (F x))):
  ao P 115 [s,f] h (λv h'=>Fr h.length h' v 1 ((L.map F).map an)):=by
 refine .of T.mix T.c115 ?_;unfold fn115 gA;refine Ws hs.bh ?_;refine WL.inv T.mix (λn ts h'=>∃(k:Nat) (out:AV),k<=L.length/\n=L.length-k/\Ext h h'/\Fr h.length h' out 1 (((L.take k).map F).map an)/\ts.length=22/\slot ts 1=f/\slot ts 5=out/\slot ts 8=s/\slot ts 9=.i L.length/\slot ts 10=.i k) L.length
  ⟨0,.ah,Om,rfl,Ext.refl h,.nil,rfl,rfl,rfl,rfl,rfl,rfl⟩ ?_
 rintro _ ts _ ⟨k,out,hk,rfl,⟨g,rfl⟩,hfr,hlen,t1,t5,t8,t9,t10⟩;rw[ki ts 22 hlen];by_cases hlt:k<L.length
 ·have e3:(k:Int)<L.length:=Om
  have hvk:=hf L[k] Si;simp only[bx,bo,bL,bM,reduceAdd,reduceMul,reduceLeDiff,reduceEqDiff,t1,t5,t8,t9,t10,e3,T5,hs.eX hlt,hs.lO hlt,EV.row,(ho L[k] Si).1,(ho L[k] Si).2];exact z3
 ·exact z4
set_option maxRecDepth 10000 in
def r138{L:List (km×AV)}{s f:AV}(hs:aA h s 3 (L.map aW))(ho:∀x∈L,x.2.one=true)(hl:L.length<=2^38)(p:(km×AV)->Bool)(hf:∀x,x∈L->∀k,Ext h k->aQ P f [.agg (aW x)] k (λv _=>v=.bool (p x))):
  ao P 138 [s,f] h (λv h'=>Fr h.length h' v 3 ((L.filter p).map aW)):=by
 refine .of T.mix T.c138 ?_;unfold fn138 gA;refine Ws hs.bh ?_;refine WL.inv T.mix (λn ts h'=>∃(k:Nat) (out:AV),k<=L.length/\n=L.length-k/\Ext h h'/\Fr h.length h' out 3 (((L.take k).filter p).map aW)/\ts.length=23/\slot ts 1=f/\slot ts 5=out/\slot ts 8=s/\slot ts 9=.i L.length/\slot ts 10=.i k) L.length
  ⟨0,.ah,Om,rfl,Ext.refl h,.nil,rfl,rfl,rfl,rfl,rfl,rfl⟩ ?_
 rintro _ ts _ ⟨k,out,hk,rfl,⟨g,rfl⟩,hfr,hlen,t1,t5,t8,t9,t10⟩;rw[ki ts 23 hlen];by_cases hlt:k<L.length
 ·have e3:(k:Int)<L.length:=Om
  have hvk:=hf L[k] Si;have Oy:(L.take (k+1)).filter p=(L.take k).filter p++(if p L[k]=true then [L[k]]else []):=by
   exact JZ
  have Of:((L.take k).filter p).length<=L.length:=Ur (Uc _ _) (by rw[UB];omega);simp only[bx,bo,bL,bM,reduceAdd,reduceMul,reduceLeDiff,reduceEqDiff,t1,t5,t8,t9,t10,e3,T5,hs.eX hlt,hs.lO hlt,aW,ho L[k] Si];refine WF.val (hvk _ (by repeat first|exact Ext.refl _|refine Ext.app _ ?_)) ?_;rintro _ g1 rfl;cases hp:p L[k]with
  |true=>
   rw[hp,Ty rfl]at Oy;simp only[bx,bo,bL,bM,reduceAdd,reduceMul,reduceLeDiff,reduceEqDiff,ho L[k] Si];refine WR.fN (h0:=h) (cs:=((L.take k).filter p).map aW) (ys:=[aW L[k]]) (((hfr.app _).app _).app _) (Fr.push (N:=0) (TJ _) [aW L[k]] (by simp[aW])).aN De Si (by simp only[Tu,Tl,Tr];omega) (by simp only[p4]) ?_;intro g' N1 hff hkp;have hrow:((L.take k).filter p).map aW++[aW L[k]]=((L.take (k+1)).filter p).map aW:=by rw[Oy,Tx];rfl
   exact z5
  |false=>
   exact J8
 ·exact z4
set_option maxRecDepth 10000 in
def r216{L:List (jx)}{s f:AV}(hs:aA h s 3 (L.map bX))(hl:L.length<=2^38)(p:(jx)->Bool)(hf:∀x,x∈L->∀k,Ext h k->aQ P f [.agg (bX x)] k (λv _=>v=.bool (p x))):
  ao P 216 [s,f] h (λv h'=>Fr h.length h' v 3 ((L.filter p).map bX)):=by
 refine .of T.mix T.c216 ?_;unfold fn216 gA;refine Ws hs.bh ?_;refine WL.inv T.mix (λn ts h'=>∃(k:Nat) (out:AV),k<=L.length/\n=L.length-k/\Ext h h'/\Fr h.length h' out 3 (((L.take k).filter p).map bX)/\ts.length=23/\slot ts 1=f/\slot ts 5=out/\slot ts 8=s/\slot ts 9=.i L.length/\slot ts 10=.i k) L.length
  ⟨0,.ah,Om,rfl,Ext.refl h,.nil,rfl,rfl,rfl,rfl,rfl,rfl⟩ ?_
 rintro _ ts _ ⟨k,out,hk,rfl,⟨g,rfl⟩,hfr,hlen,t1,t5,t8,t9,t10⟩;rw[ki ts 23 hlen];by_cases hlt:k<L.length
 ·have e3:(k:Int)<L.length:=Om
  have hvk:=hf L[k] Si;have Oy:(L.take (k+1)).filter p=(L.take k).filter p++(if p L[k]=true then [L[k]]else []):=by
   exact JZ
  have Of:((L.take k).filter p).length<=L.length:=Ur (Uc _ _) (by rw[UB];omega);simp only[bx,bo,bL,bM,reduceAdd,reduceMul,reduceLeDiff,reduceEqDiff,t1,t5,t8,t9,t10,e3,T5,hs.eX hlt,hs.lO hlt,bX];refine WF.val (hvk _ (by repeat first|exact Ext.refl _|refine Ext.app _ ?_)) ?_;rintro _ g1 rfl;cases hp:p L[k]with
  |true=>
   rw[hp,Ty rfl]at Oy;refine Wn ?_;refine WR.fN (h0:=h) (cs:=((L.take k).filter p).map bX) (ys:=[bX L[k]]) (((hfr.app _).app _).app _) (Fr.push (N:=0) (TJ _) [bX L[k]] (by simp[bX])).aN De Si (by simp only[Tu,Tl,Tr];omega) (by simp only[p4]) ?_;intro g' N1 hff hkp;have hrow:((L.take k).filter p).map bX++[bX L[k]]=((L.take (k+1)).filter p).map bX:=by rw[Oy,Tx];rfl
   exact z5
  |false=>
   exact J8
 ·exact z4
set_option maxRecDepth 10000 in
def r88{L:List (EV)}{s f:AV}(hs:aA h s 5 (L.map EV.row))(ho:∀x∈L,x.sn.one=true/\x.sv.one=true)(hl:L.length<=2^38)(p:(EV)->Bool)(hf:∀x,x∈L->∀k,Ext h k->aQ P f [.agg (EV.row x)] k (λv _=>v=.bool (p x))):
  ao P 88 [s,f] h (λv h'=>Fr h.length h' v 5 ((L.filter p).map EV.row)):=by
 refine .of T.mix T.c88 ?_;unfold fn88 gA;refine Ws hs.bh ?_;refine WL.inv T.mix (λn ts h'=>∃(k:Nat) (out:AV),k<=L.length/\n=L.length-k/\Ext h h'/\Fr h.length h' out 5 (((L.take k).filter p).map EV.row)/\ts.length=23/\slot ts 1=f/\slot ts 5=out/\slot ts 8=s/\slot ts 9=.i L.length/\slot ts 10=.i k) L.length
  ⟨0,.ah,Om,rfl,Ext.refl h,.nil,rfl,rfl,rfl,rfl,rfl,rfl⟩ ?_
 rintro _ ts _ ⟨k,out,hk,rfl,⟨g,rfl⟩,hfr,hlen,t1,t5,t8,t9,t10⟩;rw[ki ts 23 hlen];by_cases hlt:k<L.length
 ·have e3:(k:Int)<L.length:=Om
  have hvk:=hf L[k] Si;have Oy:(L.take (k+1)).filter p=(L.take k).filter p++(if p L[k]=true then [L[k]]else []):=by
   exact JZ
  have Of:((L.take k).filter p).length<=L.length:=Ur (Uc _ _) (by rw[UB];omega);simp only[bx,bo,bL,bM,reduceAdd,reduceMul,reduceLeDiff,reduceEqDiff,t1,t5,t8,t9,t10,e3,T5,hs.eX hlt,hs.lO hlt,EV.row,(ho L[k] Si).1,(ho L[k] Si).2];refine WF.val (hvk _ (by repeat first|exact Ext.refl _|refine Ext.app _ ?_)) ?_;rintro _ g1 rfl;cases hp:p L[k]with
  |true=>
   rw[hp,Ty rfl]at Oy;simp only[bx,bo,bL,bM,reduceAdd,reduceMul,reduceLeDiff,reduceEqDiff,(ho L[k] Si).1,(ho L[k] Si).2];refine WR.fN (h0:=h) (cs:=((L.take k).filter p).map EV.row) (ys:=[EV.row L[k]]) (((hfr.app _).app _).app _) (Fr.push (N:=0) (TJ _) [EV.row L[k]] (by simp[EV.row])).aN De Si (by simp only[Tu,Tl,Tr];omega) (by simp only[p4]) ?_;intro g' N1 hff hkp;have hrow:((L.take k).filter p).map EV.row++[EV.row L[k]]=((L.take (k+1)).filter p).map EV.row:=by rw[Oy,Tx];rfl
   exact z5
  |false=>
   exact J8
 ·exact z4
end
section
variable {P:Program}(T:dB P) {h:af}
include T
set_option maxRecDepth 10000 in
def r180{L:List (km×AV)}{s:AV}(hs:aA h s 3 (L.map aW))(he:∀x∈L,aA h x.2 1 (x.1.aJ.map an))(hl:L.length<=2^30)(hle:∀x∈L,x.1.aJ.length<=2^40):
  ao P 180 [s,.func (.func 181) [] []] h (λv h'=>∃L':List (km×AV),L'.map Prod.fst=L.map Prod.fst/\Fr h.length h' v 3 (L'.map aW)/\(∀x∈L',Fr h.length h' x.2 1 (x.1.aJ.map an))/\jS (sB v::L'.map λx=>sB x.2)):=by
 refine .of T.mix T.c180 ?_;unfold fn180 gA;refine Ws hs.bh ?_;refine WL.inv T.mix (λn ts h'=>∃(k:Nat) (out:AV) (L':List (km×AV)),k<=L.length/\n=L.length-k/\Ext h h'/\L'.map Prod.fst=(L.take k).map Prod.fst/\Fr h.length h' out 3 (L'.map aW)/\(∀x∈L',Fr h.length h' x.2 1 (x.1.aJ.map an))/\jS (sB out::L'.map λx=>sB x.2)/\
   ts.length=22/\slot ts 1=.func (.func 181) [] []/\slot ts 5=out/\slot ts 8=s/\slot ts 9=.i L.length/\slot ts 10=.i k) L.length
  ⟨0,.ah,[],Om,rfl,Ext.refl h,rfl,.nil,(λx hx=>by cases hx),UX _ _,rfl,rfl,rfl,rfl,rfl,rfl⟩ ?_
 rintro _ ts _ ⟨k,out,L',hk,rfl,⟨g,rfl⟩,hm,hfr,hin,OH,hlen,t1,t5,t8,t9,t10⟩;rw[ki ts 22 hlen];have Rl:L'.length=k:=by have:=TO List.length hm;simp at this;omega
 by_cases hlt:k<L.length
 ·have e3:(k:Int)<L.length:=Om
  have RY:=he L[k] Si;have PJ:=hle L[k] Si;have ox:=RY.one;have iL:∀{kk:af},Ext h kk->au (some 3) (dG s 3 k) (λb=>kk[b]?)=some (.agg (aW L[k]),.aq):=λ{kk} e=>hs.lO hlt e
  unfold aW at iL;simp only[bx,bo,bL,bM,reduceAdd,reduceMul,reduceLeDiff,reduceEqDiff,t1,t5,t8,t9,t10,e3,T5,hs.eX hlt,iL,ox];have hown:=λkk (e:Ext h kk)=>r181 T (h:=kk) L[k] (RY.ext e) PJ
  unfold aW at hown;refine WF.res T.c181 (hown _ (by repeat first|exact Ext.refl _|refine Ext.app _ ?_)) ?_;rintro _ g1 ⟨s',rfl,Ri⟩;have os:=Ri.aN.one;refine Ws @os ?_;refine WR.fN (h0:=h) (cs:=L'.map aW) (ys:=[aW (L[k].1,s')]) ((((hfr.app _).app _).app _)) (Fr.push (N:=0) (TJ _) [aW (L[k].1,s')] (by simp[aW])).aN De Si (by simp only[Tu,Tl,Tr];omega) (by simp only[p4]) ?_;intro g' N1 hff hkp;have hrow:L'.map aW++[aW (L[k].1,s')]=(L'++[(L[k].1,s')]).map aW:=by rw[Tx];rfl
  exact z2
 ·exact J7
set_option maxRecDepth 10000 in
def r182{L:List (jo×AV)}{s:AV}(hs:aA h s 4 (L.map aL))(he:∀x∈L,aA h x.2 1 (x.1.bt.map an))(hl:L.length<=2^30)(hle:∀x∈L,x.1.bt.length<=2^40):
  ao P 182 [s,.func (.func 183) [] []] h (λv h'=>∃L':List (jo×AV),L'.map Prod.fst=L.map Prod.fst/\Fr h.length h' v 4 (L'.map aL)/\(∀x∈L',Fr h.length h' x.2 1 (x.1.bt.map an))/\jS (sB v::L'.map λx=>sB x.2)):=by
 refine .of T.mix T.c182 ?_;unfold fn182 gA;refine Ws hs.bh ?_;refine WL.inv T.mix (λn ts h'=>∃(k:Nat) (out:AV) (L':List (jo×AV)),k<=L.length/\n=L.length-k/\Ext h h'/\L'.map Prod.fst=(L.take k).map Prod.fst/\Fr h.length h' out 4 (L'.map aL)/\(∀x∈L',Fr h.length h' x.2 1 (x.1.bt.map an))/\jS (sB out::L'.map λx=>sB x.2)/\
   ts.length=22/\slot ts 1=.func (.func 183) [] []/\slot ts 5=out/\slot ts 8=s/\slot ts 9=.i L.length/\slot ts 10=.i k) L.length
  ⟨0,.ah,[],Om,rfl,Ext.refl h,rfl,.nil,(λx hx=>by cases hx),UX _ _,rfl,rfl,rfl,rfl,rfl,rfl⟩ ?_
 rintro _ ts _ ⟨k,out,L',hk,rfl,⟨g,rfl⟩,hm,hfr,hin,OH,hlen,t1,t5,t8,t9,t10⟩;rw[ki ts 22 hlen];have Rl:L'.length=k:=by have:=TO List.length hm;simp at this;omega
 by_cases hlt:k<L.length
 ·have e3:(k:Int)<L.length:=Om
  have RY:=he L[k] Si;have PJ:=hle L[k] Si;have ox:=RY.one;have iL:∀{kk:af},Ext h kk->au (some 4) (dG s 4 k) (λb=>kk[b]?)=some (.agg (aL L[k]),.aq):=λ{kk} e=>hs.lO hlt e
  unfold aL at iL;simp only[bx,bo,bL,bM,reduceAdd,reduceMul,reduceLeDiff,reduceEqDiff,t1,t5,t8,t9,t10,e3,T5,hs.eX hlt,iL,ox];have hown:=λkk (e:Ext h kk)=>r183 T (h:=kk) L[k] (RY.ext e) PJ
  unfold aL at hown;refine WF.res T.c183 (hown _ (by repeat first|exact Ext.refl _|refine Ext.app _ ?_)) ?_;rintro _ g1 ⟨s',rfl,Ri⟩;have os:=Ri.aN.one;refine Ws @os ?_;refine WR.fN (h0:=h) (cs:=L'.map aL) (ys:=[aL (L[k].1,s')]) ((((hfr.app _).app _).app _)) (Fr.push (N:=0) (TJ _) [aL (L[k].1,s')] (by simp[aL])).aN De Si (by simp only[Tu,Tl,Tr];omega) (by simp only[p4]) ?_;intro g' N1 hff hkp;have hrow:L'.map aL++[aL (L[k].1,s')]=(L'++[(L[k].1,s')]).map aL:=by rw[Tx];rfl
  exact z2
 ·exact J7
set_option maxRecDepth 10000 in
def r184{L:List (mE×AV)}{s:AV}(hs:aA h s 3 (L.map bI))(he:∀x∈L,aA h x.2 1 (x.1.bQ.map aB))(hl:L.length<=2^30)(hle:∀x∈L,x.1.bQ.length<=2^40):
  ao P 184 [s,.func (.func 185) [] []] h (λv h'=>∃L':List (mE×AV),L'.map Prod.fst=L.map Prod.fst/\Fr h.length h' v 3 (L'.map bI)/\(∀x∈L',Fr h.length h' x.2 1 (x.1.bQ.map aB))/\jS (sB v::L'.map λx=>sB x.2)):=by
 refine .of T.mix T.c184 ?_;unfold fn184 gA;refine Ws hs.bh ?_;refine WL.inv T.mix (λn ts h'=>∃(k:Nat) (out:AV) (L':List (mE×AV)),k<=L.length/\n=L.length-k/\Ext h h'/\L'.map Prod.fst=(L.take k).map Prod.fst/\Fr h.length h' out 3 (L'.map bI)/\(∀x∈L',Fr h.length h' x.2 1 (x.1.bQ.map aB))/\jS (sB out::L'.map λx=>sB x.2)/\
   ts.length=22/\slot ts 1=.func (.func 185) [] []/\slot ts 5=out/\slot ts 8=s/\slot ts 9=.i L.length/\slot ts 10=.i k) L.length
  ⟨0,.ah,[],Om,rfl,Ext.refl h,rfl,.nil,(λx hx=>by cases hx),UX _ _,rfl,rfl,rfl,rfl,rfl,rfl⟩ ?_
 rintro _ ts _ ⟨k,out,L',hk,rfl,⟨g,rfl⟩,hm,hfr,hin,OH,hlen,t1,t5,t8,t9,t10⟩;rw[ki ts 22 hlen];have Rl:L'.length=k:=by have:=TO List.length hm;simp at this;omega
 by_cases hlt:k<L.length
 ·have e3:(k:Int)<L.length:=Om
  have RY:=he L[k] Si;have PJ:=hle L[k] Si;have ox:=RY.one;have iL:∀{kk:af},Ext h kk->au (some 3) (dG s 3 k) (λb=>kk[b]?)=some (.agg (bI L[k]),.aq):=λ{kk} e=>hs.lO hlt e
  unfold bI at iL;simp only[bx,bo,bL,bM,reduceAdd,reduceMul,reduceLeDiff,reduceEqDiff,t1,t5,t8,t9,t10,e3,T5,hs.eX hlt,iL,ox];have hown:=λkk (e:Ext h kk)=>r185 T (h:=kk) L[k] (RY.ext e) PJ
  unfold bI at hown;refine WF.res T.c185 (hown _ (by repeat first|exact Ext.refl _|refine Ext.app _ ?_)) ?_;rintro _ g1 ⟨s',rfl,Ri⟩;have os:=Ri.aN.one;refine Ws @os ?_;refine WR.fN (h0:=h) (cs:=L'.map bI) (ys:=[bI (L[k].1,s')]) ((((hfr.app _).app _).app _)) (Fr.push (N:=0) (TJ _) [bI (L[k].1,s')] (by simp[bI])).aN De Si (by simp only[Tu,Tl,Tr];omega) (by simp only[p4]) ?_;intro g' N1 hff hkp;have hrow:L'.map bI++[bI (L[k].1,s')]=(L'++[(L[k].1,s')]).map bI:=by rw[Tx];rfl
  exact z2
 ·exact J7
end
theorem aE.row{h V}(o:aE h V):V.row.all AV.one=true:=by
 simp only[RV.row,AH,AG,zE,o.i0.one,o.i1.one,o.i2.one,o.i3.one,o.i4.one,o.i5.one,Bool.and_self]
def aE.box{h V}(o:aE h V){N}:mZ (.agg V.row) N=some (.ptr N 0,.push (.cells V.row true false)):=by
 have:(AV.agg V.row).cells=V.row:=rfl;simp only[mZ,this,o.row,TQ]
def vV{V:RV}:V.row[0]? =some (.int .i64 V.tick):=rfl
def oS{V:RV}:V.row[1]? =some (V.s0):=rfl
def sP{V:RV}:V.row[2]? =some (V.s1):=rfl
def jB{V:RV}:V.row[3]? =some (V.s2):=rfl
def kB{V:RV}:V.row[4]? =some (V.s3):=rfl
def qm{V:RV}:V.row[5]? =some (V.s4):=rfl
def kv{V:RV}:V.row[6]? =some (V.s5):=rfl
def bu{V:RV}{mu tl:Bool}:dy (some 7) 0 (.cells V.row mu tl)=some (.agg V.row,.aq):=rfl
def jS.app{l m}(hl:jS l)(hm:jS m)(h:∀x∈l,∀y∈m,∀b,x=some b->y≠some b):jS (l++m):=Us.2 ⟨hl,hm,h⟩
def jS.one{x}:jS [x]:=UX _ _
theorem jS.perm{l m}(hl:jS l)(h:l.Perm m):jS m:=List.Pairwise.perm hl h λ{x y} hxy b hy hx=>hxy b hx hy
def jT{n z}:cZ n z=(List.replicate n z).flatten:=by
 induction n with
 |zero=>rfl
 |succ n ih=>rw[yE,UN,Ul,ih]
def Bh{h X:af}{A B B':ai}{b:Nat}(hb:h.length+2<=b):(h++([A]++([B']++X)))[b]? =(h++([A]++([B]++X)))[b]? :=by
 have e:∀C:ai,(h++([A]++([C]++X)))[b]? =X[b-h.length-1-1]? :=λC=>by
  rw[To Om,To (by simp only[TC];omega),To (by simp only[TC];omega)];rfl
 rw[e,e]
theorem cY.low{N M h V}(o:cY N h V)(hM:M<=N):cY M h V:=
 ⟨o.i0.low hM,o.i1.low hM,o.i2.low hM,o.i3.low hM,o.i4.low hM,o.i5.low hM,λx hx=>(o.e2 x hx).low hM,λx hx=>(o.e3 x hx).low hM,λx hx=>(o.e4 x hx).low hM,o.di⟩
def cY.dx{N h V}(o:cY N h V){b}(hb:some b∈V.bl):N<=b/\b<h.length:=by
 simp only[RV.bl,Tn,TP,TI,Ui,UO]at hb;rcases hb with((hb|⟨x,hx,hb⟩)|⟨x,hx,hb⟩)|⟨x,hx,hb⟩
 ·rcases hb with hb|hb|hb|hb|hb|hb
  ·exact o.i0.bN hb.symm
  ·exact o.i1.bN hb.symm
  ·exact o.i2.bN hb.symm
  ·exact o.i3.bN hb.symm
  ·exact o.i4.bN hb.symm
  ·exact o.i5.bN hb.symm
 ·exact(o.e2 x hx).bN hb
 ·exact(o.e3 x hx).bN hb
 ·exact(o.e4 x hx).bN hb
theorem o7:∀{l m:List (By)},l.Nodup->(∀x∈l,x∈m)->l.length<=m.length
 |[],_,_,_=>TJ _
 |x::l,m,hn,hs=>by
  have h1:=VH.1 hn;have hx:=hs x Si;have:=o7 (m:=m.erase x) h1.2 λy hy=>(List.mem_erase_of_ne (λ(e:y=x)=>h1.1 (by rw[<-e];exact hy))).2 (hs y (TK _ hy))
  rw[List.length_erase_of_mem hx]at this;have hp:=List.length_pos_of_mem hx;simp only[Tl];omega
inductive Lay:Nat->Nat->List (Option Nat)->Prop
 |nil {a:Nat}:Lay a a []
 |cons {a b c:Nat}{l m:List (Option Nat)}(hab:a<=b) (hl:jS l) (hin:∀x,some x∈l->a<=x/\x<b) (r:Lay b c m):Lay a c (l++m)
def Lay.le{a c l}(h:Lay a c l):a<=c:=by
 induction h with
 |nil=>exact Ts _
 |cons hab _ _ _ ih=>omega
def Lay.mem{a c l}(h:Lay a c l):∀x,some x∈l->a<=x/\x<c:=by
 induction h with
 |nil=>intro x hx;cases hx
 |cons hab _ hin r ih=>
  intro x hx;have:=r.le;rcases Tn.1 hx with hx|hx
  ·have:=hin x hx;omega
  ·have:=ih x hx;omega
def Lay.Nw{a c l}(h:Lay a c l):jS l:=by
 induction h with
 |nil=>exact List.Pairwise.nil
 |cons hab hl hin r ih=>
  refine hl.app ih λx hx y hy b hb PH=>?_
  subst hb;have h1:=hin b hx;rw[PH]at hy;have h2:=r.mem b hy;omega
def IQ{N h s es cs}(hs:Fr N h s es cs):∀x,some x∈[sB s]->N<=x/\x<h.length:=by
 intro x hx;rw[TD]at hx;exact hs.bN hx.symm
set_option maxRecDepth 10000
section
variable {P:Program}(T:dB P) {h:af}
include T
def r96{V:RV}(o:aE h V)(w:jl V.aC):ao P 96 [.agg V.row] h (λv h'=>∃V':RV,V'.aC=V.aC/\v=.agg V'.row/\cY h.length h' V'):=by
 refine .of T.mix T.c96 ?_;obtain⟨ts,NK⟩:∃ts,ts=aM 38 [.agg V.row]:=⟨_,rfl⟩;have hlen:ts.length=38:=by rw[NK];rfl
 have t0:slot ts 0=.agg V.row:=by rw[NK];rfl
 unfold fn96;show WC P bS _ [] (aM 38 [.agg V.row]) h _;rw[<-NK];clear NK;have NJ:=@aE.box _ _ o;have n0:V.lines.length<=16:=w.l0;have n5:V.aO.length<=16:=w.l5;have n1:V.aJ.length<=16:=w.l1;have n2:V.al.length<=64:=by have:=w.l2;simpa [RV.aC]using this
 have n3:V.aI.length<=32:=by have:=w.l3;simpa [RV.aC]using this
 have n4:V.aH.length<=16:=by have:=w.l4;simpa [RV.aC]using this
 have mk0:∀{N:Nat},qz 3 32 [AV.str [],.int .i64 0,.bool false] (.int .i64 (V.lines.length:Int)) (.int .i64 (V.lines.length:Int)) N=some (.slice N 0 V.lines.length 3,.push (.cells (cZ V.lines.length [AV.str [],.int .i64 0,.bool false]) true true)):=lK Om Om;have mk5:∀{N:Nat},qz 4 48 [AV.str [],.str [],.int .i64 0,.bool false] (.int .i64 (V.aO.length:Int)) (.int .i64 (V.aO.length:Int)) N=some (.slice N 0 V.aO.length 4,.push (.cells (cZ V.aO.length [AV.str [],.str [],.int .i64 0,.bool false]) true true)):=lK Om Om;refine Rs (A8 t0 @NJ @oS @kv o.i0.bh o.i5.bh @mk0 @mk5) ?_
 have z0:(cZ V.lines.length [AV.str [],.int .i64 0,.bool false])=(List.replicate V.lines.length [AV.str [],.int .i64 0,.bool false]).flatten:=jT;have z5:(cZ V.aO.length [AV.str [],.str [],.int .i64 0,.bool false])=(List.replicate V.aO.length [AV.str [],.str [],.int .i64 0,.bool false]).flatten:=jT;obtain⟨B,hB⟩:∃B,B=ai.cells [AV.int .i64 0,.ah,.ah,.ah,.ah,.ah,.ah] true false:=⟨_,rfl⟩;rw[<-hB];have f0:Fr (h++[ai.cells V.row true false]++[B]).length (h++[ai.cells V.row true false]++[B]++([ai.cells (cZ V.lines.length [AV.str [],.int .i64 0,.bool false]) true true]++[ai.cells (cZ V.aO.length [AV.str [],.str [],.int .i64 0,.bool false]) true true])) (.slice (h++[ai.cells V.row true false]++[B]).length 0 V.lines.length 3) 3 (List.replicate V.lines.length [AV.str [],.int .i64 0,.bool false]):=by
  rw[<-Ti];exact(Fr.yG (Ts _) rfl).app _
 have f5:Fr (h++[ai.cells V.row true false]++[B]).length (h++[ai.cells V.row true false]++[B]++([ai.cells (cZ V.lines.length [AV.str [],.int .i64 0,.bool false]) true true]++[ai.cells (cZ V.aO.length [AV.str [],.str [],.int .i64 0,.bool false]) true true])) (.slice (h++[ai.cells V.row true false]++[B]++[ai.cells (cZ V.lines.length [AV.str [],.int .i64 0,.bool false]) true true]).length 0 V.aO.length 4) 4 (List.replicate V.aO.length [AV.str [],.str [],.int .i64 0,.bool false]):=by
  rw[<-Ti];exact Fr.yG Si rfl
 obtain⟨Z,hZ⟩:∃Z,Z=([ai.cells (cZ V.lines.length [AV.str [],.int .i64 0,.bool false]) true true]++[ai.cells (cZ V.aO.length [AV.str [],.str [],.int .i64 0,.bool false]) true true]):=⟨_,rfl⟩;have hZl:Z.length=2:=by rw[hZ];rfl
 have el5:(h++[ai.cells V.row true false]++[B]++[ai.cells (cZ V.lines.length [AV.str [],.int .i64 0,.bool false]) true true]).length=(h++[ai.cells V.row true false]++[B]).length+1:=Si
 rw[Ti (h++[ai.cells V.row true false]++[B]),<-hZ];rw[<-hZ,el5]at f5;rw[<-hZ]at f0;rw[el5];clear hZ;refine WR.Jc (h0:=h++[ai.cells V.row true false]++[B]) (g:=Z) (Sq t0) (Sq t0) f0 (o.i0.ext Xx) Si ?_;intro g1 _ hl1 hf0 hk0;have hf5:=f5.ay (k:=h++[ai.cells V.row true false]++[B]++g1) λb hb=>hk0 b λb0 o n e he=>by cases he;cases hb;omega
 refine Rs (A2 t0 @kv) ?_;refine WR.Jc (h0:=h++[ai.cells V.row true false]++[B]) (g:=g1) (Sq t0) (Sq t0) hf5 (o.i5.ext Xx) Si ?_;intro g2 _ hl2 hf5' hk5;have hf0':=hf0.ay (k:=h++[ai.cells V.row true false]++[B]++g2) λb hb=>hk5 b λb0 o n e he=>by cases he;cases hb;omega
 have Qv:g2.length=2:=Om
 refine Rs (A3 t0 @vV @sP) ?_;refine WF.res T.c179 (r179 T (o.i1.ext Xx) (by simp;omega)) ?_;rintro s1 c1 q1;refine Rs (A2 t0 @jB) ?_;refine WF.res T.c180 (r180 T (o.i2.ext Xx) (λx hx=>(o.e2 x hx).ext Xx) Om (λx hx=>?_)) ?_
 ·have:=(w.sh x.1 (TR hx)).2.2;have hle:=o7 this.1 (λt ht=>this.2 t ht);have hl1:(kJ V.aC).length=V.aJ.length:=by simp[kJ,RV.aC]
  omega
 rintro s2 c2 ⟨L2,m2,q2,q2e,q2d⟩;refine Rs (A2 t0 @kB) ?_;refine WF.res T.c182 (r182 T (o.i3.ext Xx) (λx hx=>(o.e3 x hx).ext Xx) Om (λx hx=>by have:=(w.md x.1 (TR hx)).2.1;omega)) ?_;rintro s3 c3 ⟨L3,m3,q3,q3e,q3d⟩;refine Rs (A2 t0 @qm) ?_;refine WF.res T.c184 (r184 T (o.i4.ext Xx) (λx hx=>(o.e4 x hx).ext Xx) Om (λx hx=>by have:=(w.jb x.1 (TR hx)).2.2.1;omega)) ?_;rintro s4 c4 ⟨L4,m4,q4,q4e,q4d⟩;refine Rs (A6 t0 q1.aN.one q2.aN.one q3.aN.one q4.aN.one @hB) ?_;refine⟨⟨V.tick,V.lines,V.aJ,L2,L3,L4,V.aO,.slice (h++[ai.cells V.row true false]++[B]).length 0 V.lines.length 3,s1,s2,s3,s4,.slice ((h++[ai.cells V.row true false]++[B]).length+1) 0 V.aO.length 4⟩,?_,?_,?_⟩
 ·simp only[RV.aC,m2,m3,m4]
 ·rw[<-hB];rfl
 obtain⟨H,hH⟩:∃H,H=h++[ai.cells V.row true false]++[B]:=⟨_,rfl⟩;have Q2:h.length<=H.length:=by rw[hH];simp
 rw[<-hH]at hf0' hf5' q1 q2 q2e q3 q3e q4 q4e;have own:cY H.length (H++g2++c1++c2++c3++c4) ⟨V.tick,V.lines,V.aJ,L2,L3,L4,V.aO,.slice H.length 0 V.lines.length 3,s1,s2,s3,s4,.slice (H.length+1) 0 V.aO.length 4⟩:=by
  have n0:V.lines.length=(V.lines.map bX).length:=Si
  have n5:V.aO.length=(V.aO.map cS).length:=Si
  refine⟨(((hf0'.app _).app _).app _).app _,?_,?_,?_,?_,(((hf5'.app _).app _).app _).app _,?_,?_,?_,?_⟩
  ·exact(((q1.app _).app _).app _).low Si
  ·exact((q2.app _).app _).low (by simp only[Tg];omega)
  ·exact(q3.app _).low (by simp only[Tg];omega)
  ·exact q4.low (by simp only[Tg];omega)
  ·exactλx hx=>(((q2e x hx).app _).app _).low (by simp only[Tg];omega)
  ·exactλx hx=>((q3e x hx).app _).low (by simp only[Tg];omega)
  ·exactλx hx=>(q4e x hx).low (by simp only[Tg];omega)
  ·have lay:Lay H.length (H++g2++c1++c2++c3++c4).length ([some H.length]++([some (H.length+1)]++([sB s1]++((sB s2::L2.map λx=>sB x.2)++((sB s3::L3.map λx=>sB x.2)++((sB s4::L4.map λx=>sB x.2)++[])))))):=by
    refine .cons (b:=H.length+1) Om .one (λx hx=>by simp at hx;omega) ?_;refine .cons (b:=(H++g2).length) (by simp only[Tg];omega) .one (λx hx=>by simp at hx;simp only[Tg];omega) ?_;refine .cons (b:=(H++g2++c1).length) (by simp only[Tg];omega) .one (IQ q1) ?_;refine .cons (b:=(H++g2++c1++c2).length) (by simp only[Tg];omega) q2d (λx hx=>?_) ?_
    ·rcases TP.1 hx with hx|hx
     ·exact q2.bN hx.symm
     ·obtain⟨y,hy,hyx⟩:=TI.1 hx;exact(q2e y hy).bN hyx
    refine .cons (b:=(H++g2++c1++c2++c3).length) (by simp only[Tg];omega) q3d (λx hx=>?_) ?_
    ·rcases TP.1 hx with hx|hx
     ·exact q3.bN hx.symm
     ·obtain⟨y,hy,hyx⟩:=TI.1 hx;exact(q3e y hy).bN hyx
    refine .cons (b:=(H++g2++c1++c2++c3++c4).length) (by simp only[Tg];omega) q4d (λx hx=>?_) .nil;rcases TP.1 hx with hx|hx
    ·exact q4.bN hx.symm
    ·obtain⟨y,hy,hyx⟩:=TI.1 hx;exact(q4e y hy).bN hyx
   refine lay.Nw.perm (List.perm_iff_count.2 λa=>?_);simp only[RV.bl,sB,List.count_append,List.count_cons,List.count_nil,TZ,VE]
   ac_rfl
 rw[hH]at own Q2;refine(own.low Q2).aq λb hb=>?_
 have hbN:=(own.dx hb).1;simp only[Ti];exact Bh (by simpa using hbN)
end
def aE.gB{h V}(o:aE h V):(∀x∈V.al,x.2.one=true)/\(∀x∈V.aI,x.2.one=true)/\(∀x∈V.aH,x.2.one=true):=
 ⟨λx hx=>(o.e2 x hx).one,λx hx=>(o.e3 x hx).one,λx hx=>(o.e4 x hx).one⟩
structure ij(V:RV):Prop where
 l0:V.lines.length<2^30
 l1:V.aJ.length<2^30
 l2:V.al.length<2^30
 l3:V.aI.length<2^30
 l4:V.aH.length<2^30
 l5:V.aO.length<2^30
def jl.len{V}(w:jl V.aC):ij V:=by
 have h0:=w.l0;have h1:=w.l1;have h2:=w.l2;have h3:=w.l3;have h4:=w.l4;have h5:=w.l5;simp only[RV.aC,Tu]at h0 h1 h2 h3 h4 h5;exact⟨Om,Om,Om,Om,Om,Om⟩
def o9{V:RV}:oM V.aC=V.al.map λx=>x.1.name:=by simp[oM,RV.aC,Vw]
def pa{V:RV}:jG V.aC=V.aI.map λx=>x.1.name:=by simp[jG,RV.aC,Vw]
def jF{V:RV}:hC V.aC=V.aH.map λx=>x.1.name:=by simp[hC,RV.aC,Vw]
section
variable {P:Program}(T:dB P) {h:af}
include T
def r205{V}(o:aE h V)(l:ij V){n}(hn:n∈jy V.aC):ao P 205 [.agg V.row,.str n] h (λv _=>v=.agg (bX (fk V.aC n))):=by
 refine .dU 13 T.mix T.c205 ?_;intro ts hlen t0 t1;unfold fn205 gA;have NJ:=@aE.box _ _ o;have hlt:bC (jy V.aC) n<V.lines.length:=by have:=dS hn;simpa [jy,RV.aC]using this
 have ei:dM (λx:jx=>decide (x.name=n)) V.lines=(bC (jy V.aC) n:Int):=iY (f:=jx.name) hn;have ix:aV 3 V.s0 (.i (bC (jy V.aC) n:Int))=some (dG V.s0 3 (bC (jy V.aC) n),.aq):=o.i0.eX hlt;have ld:∀{k:af},Ext h k->au (some 3) (dG V.s0 3 (bC (jy V.aC) n)) (λb=>k[b]?)=some (.agg (bX (V.lines[bC (jy V.aC) n])),.aq):=λ{k} e=>o.i0.lO hlt e
 have sp:fk V.aC n=V.lines[bC (jy V.aC) n]:=fp hn;rw[sp];unfold bX at ld ⊢;refine Rs (A4 t0 t1 @NJ @oS) ?_;refine WF.ce T.c142 (r142 T (o.i0.ext Xx) (by have:=l.l0;omega) n) λg1=>?_
 exact Ef
def r134{V}(o:aE h V)(l:ij V){n}(hn:n∈kJ V.aC):ao P 134 [.agg V.row,.str n] h (λv _=>v=.agg (dW (jr V.aC n))):=by
 refine .dU 13 T.mix T.c134 ?_;intro ts hlen t0 t1;unfold fn134 gA;have NJ:=@aE.box _ _ o;have hlt:bC (kJ V.aC) n<V.aJ.length:=by have:=dS hn;simpa [kJ,RV.aC]using this
 have ei:dM (λx:ui=>decide (x.name=n)) V.aJ=(bC (kJ V.aC) n:Int):=iY (f:=ui.name) hn;have ix:aV 2 V.s1 (.i (bC (kJ V.aC) n:Int))=some (dG V.s1 2 (bC (kJ V.aC) n),.aq):=o.i1.eX hlt;have ld:∀{k:af},Ext h k->au (some 2) (dG V.s1 2 (bC (kJ V.aC) n)) (λb=>k[b]?)=some (.agg (dW (V.aJ[bC (kJ V.aC) n])),.aq):=λ{k} e=>o.i1.lO hlt e
 have sp:jr V.aC n=V.aJ[bC (kJ V.aC) n]:=fp hn;rw[sp];unfold dW at ld ⊢;refine Rs (A4 t0 t1 @NJ @sP) ?_;refine WF.ce T.c143 (r143 T (o.i1.ext Xx) (by have:=l.l1;omega) n) λg1=>?_
 exact Ef
def r77{V:RV}(o:aE h V)(l:ij V){n:By}(hn:n∈oM V.aC):ao P 77 [.agg V.row,.str n] h (λv _=>∃x∈V.al,x.1=sE V.aC n/\v=.agg (aW x)):=by
 refine .dU 13 T.mix T.c77 ?_;intro ts hlen t0 t1;unfold fn77 gA;have NJ:=@aE.box _ _ o;have hlt:bC (oM V.aC) n<V.al.length:=by have:=dS hn;simpa [oM,RV.aC]using this
 have ei:dM (λx:km×AV=>decide (x.1.name=n)) V.al=(bC (oM V.aC) n:Int):=(iY (f:=λx:km×AV=>x.1.name) (by rw[<-o9];exact hn)).trans (by rw[o9]);have ix:aV 3 V.s2 (.i (bC (oM V.aC) n:Int))=some (dG V.s2 3 (bC (oM V.aC) n),.aq):=o.i2.eX hlt;have ld:∀{k:af},Ext h k->au (some 3) (dG V.s2 3 (bC (oM V.aC) n)) (λb=>k[b]?)=some (.agg (aW (V.al[bC (oM V.aC) n])),.aq):=λ{k} e=>o.i2.lO hlt e
 have sp:(V.al[bC (oM V.aC) n]).1=sE V.aC n:=by
  have:=fp (f:=km.name) (l:=V.aC.al) (n:=n) (d:=ET) hn;rw[show sE V.aC n=_ from this];exact Bc
 have on:=o.gB.1 (V.al[bC (oM V.aC) n]) (TE _);have Pf:V.al[bC (oM V.aC) n]∈V.al:=TE _;generalize V.al[bC (oM V.aC) n]=x at *;unfold aW at ld ⊢;refine Rs (A4 t0 t1 @NJ @jB) ?_;refine WF.ce T.c136 (r136 T (o.i2.ext Xx) o.gB.1 (by have:=l.l2;omega) n) λg1=>?_
 exact z80
def r245{V:RV}(o:aE h V)(l:ij V){n:By}(hn:n∈jG V.aC):ao P 245 [.agg V.row,.str n] h (λv _=>∃x∈V.aI,x.1=tj V.aC n/\v=.agg (aL x)):=by
 refine .dU 13 T.mix T.c245 ?_;intro ts hlen t0 t1;unfold fn245 gA;have NJ:=@aE.box _ _ o;have hlt:bC (jG V.aC) n<V.aI.length:=by have:=dS hn;simpa [jG,RV.aC]using this
 have ei:dM (λx:jo×AV=>decide (x.1.name=n)) V.aI=(bC (jG V.aC) n:Int):=(iY (f:=λx:jo×AV=>x.1.name) (by rw[<-pa];exact hn)).trans (by rw[pa]);have ix:aV 4 V.s3 (.i (bC (jG V.aC) n:Int))=some (dG V.s3 4 (bC (jG V.aC) n),.aq):=o.i3.eX hlt;have ld:∀{k:af},Ext h k->au (some 4) (dG V.s3 4 (bC (jG V.aC) n)) (λb=>k[b]?)=some (.agg (aL (V.aI[bC (jG V.aC) n])),.aq):=λ{k} e=>o.i3.lO hlt e
 have sp:(V.aI[bC (jG V.aC) n]).1=tj V.aC n:=by
  have:=fp (f:=jo.name) (l:=V.aC.aI) (n:=n) (d:=EW) hn;rw[show tj V.aC n=_ from this];exact Bc
 have on:=o.gB.2.1 (V.aI[bC (jG V.aC) n]) (TE _);have Pf:V.aI[bC (jG V.aC) n]∈V.aI:=TE _;generalize V.aI[bC (jG V.aC) n]=x at *;unfold aL at ld ⊢;refine Rs (A4 t0 t1 @NJ @kB) ?_;refine WF.ce T.c144 (r144 T (o.i3.ext Xx) o.gB.2.1 (by have:=l.l3;omega) n) λg1=>?_
 exact z80
def r124{V:RV}(o:aE h V)(l:ij V){n:By}(hn:n∈hC V.aC):ao P 124 [.agg V.row,.str n] h (λv _=>∃x∈V.aH,x.1=fQ V.aC n/\v=.agg (bI x)):=by
 refine .dU 13 T.mix T.c124 ?_;intro ts hlen t0 t1;unfold fn124 gA;have NJ:=@aE.box _ _ o;have hlt:bC (hC V.aC) n<V.aH.length:=by have:=dS hn;simpa [hC,RV.aC]using this
 have ei:dM (λx:mE×AV=>decide (x.1.name=n)) V.aH=(bC (hC V.aC) n:Int):=(iY (f:=λx:mE×AV=>x.1.name) (by rw[<-jF];exact hn)).trans (by rw[jF]);have ix:aV 3 V.s4 (.i (bC (hC V.aC) n:Int))=some (dG V.s4 3 (bC (hC V.aC) n),.aq):=o.i4.eX hlt;have ld:∀{k:af},Ext h k->au (some 3) (dG V.s4 3 (bC (hC V.aC) n)) (λb=>k[b]?)=some (.agg (bI (V.aH[bC (hC V.aC) n])),.aq):=λ{k} e=>o.i4.lO hlt e
 have sp:(V.aH[bC (hC V.aC) n]).1=fQ V.aC n:=by
  have:=fp (f:=mE.name) (l:=V.aC.aH) (n:=n) (d:=zH) hn;rw[show fQ V.aC n=_ from this];exact Bc
 have on:=o.gB.2.2 (V.aH[bC (hC V.aC) n]) (TE _);have Pf:V.aH[bC (hC V.aC) n]∈V.aH:=TE _;generalize V.aH[bC (hC V.aC) n]=x at *;unfold bI at ld ⊢;refine Rs (A4 t0 t1 @NJ @qm) ?_;refine WF.ce T.c145 (r145 T (o.i4.ext Xx) o.gB.2.2 (by have:=l.l4;omega) n) λg1=>?_
 exact z80
def r218{V}(o:aE h V)(l:ij V){n}(hn:n∈kP V.aC):ao P 218 [.agg V.row,.str n] h (λv _=>v=.agg (cS (lH V.aC n))):=by
 refine .dU 13 T.mix T.c218 ?_;intro ts hlen t0 t1;unfold fn218 gA;have NJ:=@aE.box _ _ o;have hlt:bC (kP V.aC) n<V.aO.length:=by have:=dS hn;simpa [kP,RV.aC]using this
 have ei:dM (λx:mA=>decide (x.name=n)) V.aO=(bC (kP V.aC) n:Int):=iY (f:=mA.name) hn;have ix:aV 4 V.s5 (.i (bC (kP V.aC) n:Int))=some (dG V.s5 4 (bC (kP V.aC) n),.aq):=o.i5.eX hlt;have ld:∀{k:af},Ext h k->au (some 4) (dG V.s5 4 (bC (kP V.aC) n)) (λb=>k[b]?)=some (.agg (cS (V.aO[bC (kP V.aC) n])),.aq):=λ{k} e=>o.i5.lO hlt e
 have sp:lH V.aC n=V.aO[bC (kP V.aC) n]:=fp hn;rw[sp];unfold cS at ld ⊢;refine Rs (A4 t0 t1 @NJ @kv) ?_;refine WF.ce T.c146 (r146 T (o.i5.ext Xx) (by have:=l.l5;omega) n) λg1=>?_
 exact Ef
def IL{V}(o:aE h V)(l:ij V)(n:By):ao P 86 [.agg V.row,.i 0,.str n] h (λv _=>v=.bool (ez V.aC 0 n)):=by
 refine .ue 47 T.mix T.c86 ?_;intro ts hlen t0 t1 t2;unfold fn86;have NJ:=@aE.box _ _ o;have eh:ez V.aC 0 n=decide (0<=dM (λx=>decide (x.name=n)) V.lines):=(iZ (f:=jx.name)).symm;rw[eh]
 skip
 refine Rs (A7 t0 t1 t2 @NJ @oS @T5 @Uq) ?_;refine WF.ce T.c142 (r142 T (o.i0.ext Xx) (by have:=l.l0;omega) n) λg1=>?_
 exact Dq
def IK{V}(o:aE h V)(l:ij V)(n:By):ao P 86 [.agg V.row,.i 1,.str n] h (λv _=>v=.bool (ez V.aC 1 n)):=by
 refine .ue 47 T.mix T.c86 ?_;intro ts hlen t0 t1 t2;unfold fn86;have NJ:=@aE.box _ _ o;have eh:ez V.aC 1 n=decide (0<=dM (λx=>decide (x.name=n)) V.aJ):=(iZ (f:=ui.name)).symm;rw[eh]
 skip
 have d0:((1:Int)=0)=False:=UI De;refine Rs (A8 t0 t1 t2 @NJ @sP @T5 @Uq @d0) ?_;refine WF.ce T.c143 (r143 T (o.i1.ext Xx) (by have:=l.l1;omega) n) λg1=>?_
 exact Dq
def IJ{V:RV}(o:aE h V)(l:ij V)(n:By):ao P 86 [.agg V.row,.i 2,.str n] h (λv _=>v=.bool (ez V.aC 2 n)):=by
 refine .ue 47 T.mix T.c86 ?_;intro ts hlen t0 t1 t2;unfold fn86;have NJ:=@aE.box _ _ o;have eh:ez V.aC 2 n=decide (0<=dM (λx=>decide (x.1.name=n)) V.al):=by
  rw[iZ (f:=λx:km×AV=>x.1.name),<-o9];rfl
 rw[eh]
 skip
 have d0:((2:Int)=0)=False:=UI De;have d1:((2:Int)=1)=False:=UI De;refine Rs (A9 t0 t1 t2 @NJ @jB @T5 @Uq @d0 @d1) ?_;refine WF.ce T.c136 (r136 T (o.i2.ext Xx) o.gB.1 (by have:=l.l2;omega) n) λg1=>?_
 exact Dq
def II{V:RV}(o:aE h V)(l:ij V)(n:By):ao P 86 [.agg V.row,.i 3,.str n] h (λv _=>v=.bool (ez V.aC 3 n)):=by
 refine .ue 47 T.mix T.c86 ?_;intro ts hlen t0 t1 t2;unfold fn86;have NJ:=@aE.box _ _ o;have eh:ez V.aC 3 n=decide (0<=dM (λx=>decide (x.1.name=n)) V.aI):=by
  rw[iZ (f:=λx:jo×AV=>x.1.name),<-pa];rfl
 rw[eh]
 skip
 have d0:((3:Int)=0)=False:=UI De;have d1:((3:Int)=1)=False:=UI De;have d2:((3:Int)=2)=False:=UI De;refine Rs (yD t0 t1 t2 @NJ @kB @T5 @Uq @d0 @d1 @d2) ?_;refine WF.ce T.c144 (r144 T (o.i3.ext Xx) o.gB.2.1 (by have:=l.l3;omega) n) λg1=>?_
 exact Dq
def IH{V:RV}(o:aE h V)(l:ij V)(n:By):ao P 86 [.agg V.row,.i 4,.str n] h (λv _=>v=.bool (ez V.aC 4 n)):=by
 refine .ue 47 T.mix T.c86 ?_;intro ts hlen t0 t1 t2;unfold fn86;have NJ:=@aE.box _ _ o;have eh:ez V.aC 4 n=decide (0<=dM (λx=>decide (x.1.name=n)) V.aH):=by
  rw[iZ (f:=λx:mE×AV=>x.1.name),<-jF];rfl
 rw[eh]
 skip
 have d0:((4:Int)=0)=False:=UI De;have d1:((4:Int)=1)=False:=UI De;have d2:((4:Int)=2)=False:=UI De;have d3:((4:Int)=3)=False:=UI De;refine Rs (AZ t0 t1 t2 @NJ @qm @T5 @Uq @d0 @d1 @d2 @d3) ?_;refine WF.ce T.c145 (r145 T (o.i4.ext Xx) o.gB.2.2 (by have:=l.l4;omega) n) λg1=>?_
 exact Dq
def IG{V}(o:aE h V)(l:ij V)(n:By):ao P 86 [.agg V.row,.i 5,.str n] h (λv _=>v=.bool (ez V.aC 5 n)):=by
 refine .ue 47 T.mix T.c86 ?_;intro ts hlen t0 t1 t2;unfold fn86;have NJ:=@aE.box _ _ o;have eh:ez V.aC 5 n=decide (0<=dM (λx=>decide (x.name=n)) V.aO):=(iZ (f:=mA.name)).symm;rw[eh]
 skip
 have d0:((5:Int)=0)=False:=UI De;have d1:((5:Int)=1)=False:=UI De;have d2:((5:Int)=2)=False:=UI De;have d3:((5:Int)=3)=False:=UI De;have d4:((5:Int)=4)=False:=UI De;refine Rs (GH t0 t1 t2 @NJ @kv @T5 @Uq @d0 @d1 @d2 @d3 @d4) ?_;refine WF.ce T.c146 (r146 T (o.i5.ext Xx) (by have:=l.l5;omega) n) λg1=>?_
 exact Dq
def r86{V:RV}(o:aE h V)(l:ij V){t:Nat}(ht:t<6)(n:By):ao P 86 [.agg V.row,.i t,.str n] h (λv _=>v=.bool (ez V.aC t n)):=by
 match t,ht with
 | 0,_=>exact IL T o l n
 | 1,_=>exact IK T o l n
 | 2,_=>exact IJ T o l n
 | 3,_=>exact II T o l n
 | 4,_=>exact IH T o l n
 | 5,_=>exact IG T o l n
def r135(x:ui)(t:Int):ao P 135 [.agg (dW x),.i t] h (λv _=>v=.bool (decide (t<=x.last))):=by
 refine .of T.mix T.c135 ?_;unfold fn135 gA dW;exact Wn Tv
def r76{V}(o:aE h V)(l:ij V){x}(hx:aA h x.2 1 (x.1.aJ.map an))(hl:x.1.aJ.length<2^30)(hk:∀n∈x.1.aJ,n∈kJ V.aC)(t:Int):
  ao P 76 [.agg V.row,.agg (aW x),.i t] h (λv _=>v=.bool (js V.aC x.1 t)):=by
 refine .ue 24 T.mix T.c76 ?_;intro ts hlen t0 t1 t2;unfold fn76 gA;have NJ:=@aE.box _ _ o;have ox:=hx.one;unfold aW at t1;refine Rs (A6 t0 t1 t2 @NJ @ox hx.bh) ?_;refine WL.inv T.mix (λn ts h'=>∃k:Nat,k<=x.1.aJ.length/\n=x.1.aJ.length-k/\Ext (h++[ai.b V.row]) h'/\js V.aC x.1 t=(x.1.aJ.drop k).any (nC V.aC t)/\
   ts.length=24/\slot ts 2=.i t/\slot ts 3=.ptr h.length 0/\slot ts 7=.bool false/\slot ts 11=x.2/\slot ts 12=.i x.1.aJ.length/\slot ts 13=.i k) x.1.aJ.length
  ⟨0,Om,rfl,Xx,rfl,Sn,(Sq t2),(Sq t0),(Sq t0),(Sq t0),(Sq t0),(Nx t0)⟩ ?_
 rintro _ ts _ ⟨k,hk',rfl,⟨g,rfl⟩,hs,hlen,t2,t3,t7,t11,t12,t13⟩;by_cases hlt:k<x.1.aJ.length
 ·have hd:x.1.aJ.drop k=x.1.aJ[k]::x.1.aJ.drop (k+1):=Si
  have e3:=hX hlt;have ix:=hx.eX (kk:=.i64) hlt;have ld:∀{k':af},Ext h k'->au none (dG x.2 1 k) (λb=>k'[b]?)=some (.str x.1.aJ[k],.aq):=λ{k'} e=>hx.kV hlt rfl e
  refine Rs (yD t2 t3 t7 t11 t12 t13 e3 ix @ld @bu) ?_;refine WF.ce T.c134 (r134 T (o.ext Xx) l (hk _ (TE hlt))) λg1=>?_
  refine Rs (A6 t2 t3 t7 t11 t12 t13) ?_;refine WF.ce T.c135 (r135 T _ t) λg2=>?_
  have hr:decide (t<=(jr V.aC x.1.aJ[k]).last)=nC V.aC t x.1.aJ[k]:=rfl;rw[hr];rw[hd,List.any_cons]at hs;cases ON:nC V.aC t x.1.aJ[k]with
  |true=>
   rw[ON,Bool.true_or]at hs;rw[hs];exact Rs (A6 t2 t3 t7 t11 t12 t13) Tv
  |false=>
   rw[ON,Vi]at hs;have e5:=wrapN (n:=k) Om;refine Rs (A7 t2 t3 t7 t11 t12 t13 e5) ?_;exact⟨_,Om,k+1,Om,rfl,hs,rfl⟩
 ·have e3:=jf hlt;have e4:k=x.1.aJ.length:=Om
  rw[e4,UQ]at hs;rw[hs];refine Rs (A7 t2 t3 t7 t11 t12 t13 e3) ?_;rfl
end
structure Mi(V:RV):Prop where
 sh:∀x∈V.al,(∀n∈x.1.aJ,n∈kJ V.aC)/\x.1.aJ.length<2^30
def jl.zX{V}(w:jl V.aC):Mi V:=by
 refine⟨λx hx=>?_⟩;have:=(w.sh x.1 (TR hx)).2.2;have hle:=o7 this.1 (λt ht=>this.2 t ht);have h1:=w.l1;have hl1:(kJ V.aC).length=V.aC.aJ.length:=by simp[kJ]
 exact⟨this.2,Om⟩
section
variable {P:Program}(T:dB P) {h:af}
include T
def r139{V}(o:aE h V)(l:ij V)(ir:Mi V){x}(hm:x∈V.al){t b c}(hb:h[b]? =some (.b V.row))(hc:h[c]? =some (.b [.i t])):
  ao P 139 [.agg (aW x),.ptr b 0,.ptr c 0] h (λv _=>v=.bool (!js V.aC x.1 t)):=by
 refine .ue 10 T.mix T.c139 ?_;intro ts hlen t0 t1 t2;unfold fn139 gA;have ox:=(o.e2 x hm).one;have lb:∀{k:af}{n:Option Nat}{a:Nat},Ext h k->au n (.ptr b a) (λz=>k[z]?)=dy n a (.b V.row):=λe=>az (e.some hb)
 have lc:∀{k:af}{n:Option Nat}{a:Nat},Ext h k->au n (.ptr c a) (λz=>k[z]?)=dy n a (.b [.i t]):=λe=>az (e.some hc)
 have hsf:=λ(k:af) (e:Ext h k)=>r76 T (o.ext e) l ((o.e2 x hm).ext e) (ir.sh x hm).2 (ir.sh x hm).1 t
 unfold aW at t0 hsf;refine Rs (A7 t0 t1 t2 @ox @lb @lc @bu) ?_;refine WF.ce T.c76 (hsf _ Xx) λg1=>?_
 exact Dq
def r80{V}(o:aE h V)(l:ij V)(ir:Mi V)(t:Int):ao P 80 [.agg V.row,.i t] h (λv h'=>aA h' v 1 ((iO V.aC t).map an)):=by
 refine .dU 10 T.mix T.c80 ?_;intro ts hlen t0 t1;unfold fn80 gA;have NJ:=@aE.box _ _ o;refine Rs (A4 t0 t1 @NJ @jB) ?_;have hm:∀x,x∈V.al->∀k,Ext (h++[ai.b V.row]++[ai.b [AV.i t]]) k->aQ P (.func (.func 139) [] [.ptr h.length 0,.ptr (h++[ai.b V.row]).length 0]) [.agg (aW x)] k (λv _=>v=.bool (!js V.aC x.1 t)):=λx hx k e=>
  aQ.of (a:=[]) T.c139 (r139 T (o.ext (Ext.trans Xx e)) l ir hx (e.some rJ) (e.some bF))
 refine WF.res T.c138 (r138 T (o.i2.ext Xx) o.gB.1 (by have:=l.l2;omega) (λx=>!js V.aC x.1 t) hm) ?_;rintro s1 g1 hf;refine Rs (A2 t0 t1) ?_;have Of:(V.al.filter λx=>!js V.aC x.1 t).length<=V.al.length:=Uc _ _;refine WF.res T.c137 (r137 T hf.aN (λx hx=>o.gB.1 x ((UK.1 hx).1)) (by have:=l.l2;omega) (λx=>x.1.name) (λx hx k e=>aQ.of (a:=[]) (c:=[]) T.c140 (r140 T x (o.gB.1 x ((UK.1 hx).1))))) ?_;rintro s2 g2 PB;have eu:iO V.aC t=(V.al.filter λx=>!js V.aC x.1 t).map λx=>x.1.name:=by
  simp only[iO,RV.aC,Vq,U7];rfl
 rw[eu];have:=PB.aN;refine Rs (A2 t0 t1) ?_;exact this
def r255{x}(ox:x.2.one=true){n b}(hb:h[b]? =some (.b [.str n])):ao P 255 [.agg (aW x),.ptr b 0] h (λv _=>v=.bool (decide (x.1.line=n))):=by
 refine .dU 8 T.mix T.c255 ?_;intro ts hlen t0 t1;unfold fn255 gA;have lb:∀{k:af}{n':Option Nat}{a:Nat},Ext h k->au n' (.ptr b a) (λz=>k[z]?)=dy n' a (.b [.str n]):=λe=>az (e.some hb)
 unfold aW at t0;exact Rs (A4 t0 t1 @ox @lb) Tv
def r206{V}(o:aE h V)(l:ij V)(n:By):ao P 206 [.agg V.row,.str n] h (λv h'=>aA h' v 3 ((V.al.filter λx=>decide (x.1.line=n)).map aW)):=by
 refine .dU 9 T.mix T.c206 ?_;intro ts hlen t0 t1;unfold fn206 gA;have NJ:=@aE.box _ _ o;refine Rs (A4 t0 t1 @NJ @jB) ?_;refine WF.res T.c138 (r138 T (o.i2.ext Xx) o.gB.1 (by have:=l.l2;omega) (λx=>decide (x.1.line=n)) (λx hx k e=>aQ.of (a:=[]) (c:=[.ptr (h++[ai.b V.row]).length 0]) T.c255 (r255 T (o.gB.1 x hx) (e.some bF)))) ?_;rintro s1 g1 hf;have:=hf.aN;refine Rs (A2 t0 t1) ?_;exact this
def r269{x n b}(hb:h[b]? =some (.b [.str n])):ao P 269 [.agg (cS x),.ptr b 0] h (λv _=>v=.bool (decide (x.A1=n))):=by
 refine .dU 8 T.mix T.c269 ?_;intro ts hlen t0 t1;unfold fn269 Dr;have lb:∀{k:af}{n':Option Nat}{a:Nat},Ext h k->au n' (.ptr b a) (λz=>k[z]?)=dy n' a (.b [.str n]):=λe=>az (e.some hb)
 unfold cS at t0;exact Rs (A3 t0 t1 @lb) Tv
def r251{V}(o:aE h V)(l:ij V)(n:By):ao P 251 [.agg V.row,.str n] h (λv _=>v=.bool (Ai V.aC n)):=by
 refine .dU 9 T.mix T.c251 ?_;intro ts hlen t0 t1;unfold fn251 gA;have NJ:=@aE.box _ _ o;refine Rs (A4 t0 t1 @NJ @kv) ?_;refine WF.ce T.c268 (r268 T (o.i5.ext Xx) (by have:=l.l5;omega) (λx=>decide (x.A1=n)) (λx hx k e=>aQ.of (a:=[]) (c:=[.ptr (h++[ai.b V.row]).length 0]) T.c269 (r269 T (e.some bF)))) λg1=>?_
 refine Rs (A2 t0 t1) ?_;rfl
end
end Go.Abs
namespace Go.Abs
def WF.Hj{P ro ks ts h h' Q fv args d l v}(H:dP P fv args h v h')(K:WP P ro l ks (put ts d v) h' Q):WF P ro false fv args d l ks ts h Q:=
 ⟨v,h',H,λhq=>absurd hq Si,K⟩
structure IterM(P:Program)(f:FuncId)(a c:List AV)(L:List (List AV))(pre:af->Prop):Prop where
 run:∀(l:Nat) (h:af) (J:Nat->Nat->af->Prop) (D:af->Prop),(∀m i k,J m i k->pre k)->(∀m i k g,J m i k->J m i (k++g))->
  (∀m i (hi:i<L.length) k,J m i k->∃b k',dP P (.func (.yield l) [] []) L[i] k (.bool b) k'/\(∀x,l<x->x<m->k'[x]? =k[x]?)/\(if b=true then J m (i+1) k' else D k'))->
  (∀m k,J m L.length k->D k)->l+1=h.length->pre h->(∀g,J (h++g).length 0 (h++g))->cT P f (a++[.func (.yield l) [] []]++c) h (λ_ k=>D k)
section
variable {P:Program}{ks:List Kt}{ts:TS}{h:af}{Q:Ex->TS->af->Prop}
def WC.iterM(hmix:P.follows .mixedOrders=true){f A a c L pre g ps asg body}(hA:bf P f=some A)
  (hg:val ts g=.func (.func f) a c) (hi:IterM P f a c L pre) (hps:∀x∈L,x.length=ps.length) (I:Nat->Nat->af->af->Prop) (Fin:Ex->af->af->Prop)
  (h0:∀g,I (h.length+1+g.length) 0 h g) (hcl:∀m i h' g g2,I m i h' g->I m i h' (g++g2)) (hp0:∀X,pre (h++[X])) (hpre:∀m i h' g X,h'.length=h.length->I m i h' g->pre (h'++[X]++g))
  (step:∀m i (hi:i<L.length) h' g (R B:ai),h'.length=h.length->I m i h' g->
   WC P zW asg [] (setArgs ts ps L[i]) (h'++[R]++g) λe1 Qp h2=>e1=.normal/\∃h1 g1,h2=h1++[R]++g1/\h1.length=h.length/\
    WC P zW body [] Qp (h1++[B]++g1) λe2 _ h4=>∃h3 g3,h4=h3++[B]++g3/\h3.length=h.length/\(∀x,x+h.length+1<m->g3[x]? =g[x]?)/\(if e2=.normal then I m (i+1) h3 g3 else Fin e2 h3 g3))
  (done:∀e h' g,h'.length=h.length->(if e=.normal then ∃m,I m L.length h' g else Fin e h' g)->WE P bS e ks ts (h'++[ai.dead]++g) Q):WC P bS (.eM g ps asg body) ks ts h Q:=by
 let J:Nat->Nat->af->Prop:=λm i k=>∃h' g,k=h'++[.loop .ready .normal ts ps asg body]++g/\h'.length=h.length/\I m i h' g
 let D:af->Prop:=λk=>∃e h' g st,k=h'++[.loop st e ts ps asg body]++g/\h'.length=h.length/\st≠.busy/\(if e=.normal then ∃m,I m L.length h' g else Fin e h' g)
 obtain⟨v,h2,hs,e,h',g',st,rfl,hl,bp,OZ⟩:=hi.run h.length (h++[.loop .ready .normal ts ps asg body]) J D
  (λm i k hJ=>by obtain⟨h',g,rfl,h1,h2⟩:=hJ;exact hpre m i h' g _ h1 h2)
  (λm i k g2 hJ=>by obtain⟨h',g,rfl,h1,h2⟩:=hJ;exact⟨h',g++g2,by rw[Ti],h1,hcl _ _ _ _ _ h2⟩)
  (λm i hi k hJ=>by
   obtain⟨h',g,rfl,h1,h2⟩:=hJ;obtain⟨e1,Qp,k2,q1,rfl,h3,g3,rfl,h4,q2⟩:=W.sound hmix (step m i hi h' g (.loop .ready .normal ts ps asg body) (.loop .busy .normal ts ps asg body) h1 h2);obtain⟨e2,ts3,k3,q3,h5,g5,rfl,h6,q5,q4⟩:=W.sound hmix q2;have hy:dP P (.func (.yield h.length) [] []) L[i] (h'++[.loop .ready .normal ts ps asg body]++g) (.bool (decide (e2=.normal))) (List.set (h5++[ai.loop .busy .normal ts ps asg body]++g5) h.length (ai.loop (if e2=.normal then .ready else .done) e2 ts ps asg body)):=
    dP.yield (kT h1) (hps _ (TE hi)) (λr=>q1 (some r) ⟨r,rfl⟩) (kT h4) (λr=>by rw[pk h4];exact q3 (some r) ⟨r,rfl⟩) (kT h6)
   rw[pk h6]at hy;refine⟨decide (e2=.normal),_,hy,?_,?_⟩
   ·intro x hx P6;rw[To (by simp;omega),To (by simp;omega)];have:=q5 (x-h.length-1) Om;simp only[Tg,Tl,Tr,h6,h1,TZ,Nat.sub_sub]at this ⊢;exact this
   by_cases he:e2=.normal
   ·exact z107
   ·rw[Tt he]at q4;simp only[he,Uq,T8,TT];exact⟨e2,h5,g5,.done,rfl,h6,Si,by rw[Tt he];exact q4⟩)
  (λm k hJ=>by obtain⟨h',g,rfl,h1,h2⟩:=hJ;exact⟨.normal,h',g,.ready,rfl,h1,Si,by rw[Ty rfl];exact⟨m,h2⟩⟩)
  Si (hp0 _) (λg=>⟨h,g,rfl,rfl,by have:=h0 g;simpa only[Tg,Tl,Tr,TZ]using this⟩)
 exact z49
end
def WC.DG{P ro c ts h Q Q'}(H:WC P ro c [] ts h Q)(hq:∀e ts' h',Q e ts' h'->Q' e ts' h'):WC P ro c [] ts h Q':=W.mono H hq
def od{A B:af}{K K':ai}{b:Nat}(h:b≠A.length):(A++[K]++B)[b]? =(A++[K']++B)[b]? :=by
 by_cases h1:b<A.length
 ·rw[Ti,Ti,Tj h1,Tj h1]
 ·exact JX
def F2{A B:af}{K:ai}:(A++[K]++B)[A.length]? =some K:=by
 exact z117
def cP(x:By×Bool):AV×AV:=(.str x.1,.bool x.2)
def fh:List (By×Bool)->By->Bool
 |[],_=>false
 |(a,b)::r,w=>if w=a then b else fh r w
def pH:List (By×Bool)->By->Bool->List (By×Bool)
 |[],w,b=>[(w,b)]
 |(a,c)::r,w,b=>if w=a then(w,b)::r else(a,c)::pH r w b
theorem pJ:∀{M}{w w'}{b},fh (pH M w b) w' =if w' =w then b else fh M w'
 |[],w,w',b=>by rw[pH,fh];rfl
 |(a,c)::r,w,w',b=>by
  rw[pH];by_cases h1:w=a
  ·subst h1;rw[Ty rfl,fh,fh];by_cases h2:w' =w
   ·rw[Ty h2,Ty h2]
   ·rw[Tt h2,Tt h2,Tt h2]
  ·rw[Tt h1,fh,fh,pJ];by_cases h2:w' =a
   ·subst h2;rw[Ty rfl,Tt (Vl h1),Ty rfl]
   ·rw[Tt h2,Tt h2]
theorem qM:∀{M}{w},∃o:Option AV,gF .s (.str w) (M.map cP)=some o/\(o=some (.bool (fh M w))\/(o=none/\fh M w=false))
 |[],w=>⟨none,rfl,.inr ⟨rfl,rfl⟩⟩
 |(a,c)::r,w=>by
  by_cases h1:w=a
  ·subst h1;refine⟨some (.bool c),?_,.inl ?_⟩
   ·simp only[Un,cP,gF,cJ,BEq.rfl]
   ·rw[fh,Ty rfl]
  ·obtain⟨o,h2,h3⟩:=qM (M:=r) (w:=w);have hb:(w==a)=false:=by simp[h1]
   refine⟨o,?_,?_⟩
   ·simp only[Un,cP,gF,cJ,hb];exact h2
   ·rw[fh,Tt h1];exact h3
theorem sg:∀{M}{w}{b},mI .s (.str w) (.bool b) (M.map cP)=some ((pH M w b).map cP)
 |[],w,b=>rfl
 |(a,c)::r,w,b=>by
  by_cases h1:w=a
  ·subst h1;rw[pH,Ty rfl];simp only[Un,cP,mI,cJ,BEq.rfl]
  ·have hb:(w==a)=false:=by simp[h1]
   have:=sg (M:=r) (w:=w) (b:=b);rw[pH,Tt h1];show(match some (w==a)with|some true=>some ((AV.str w,AV.bool b)::r.map cP)|some false=>(mI .s (.str w) (.bool b) (r.map cP)).map ((AV.str a,AV.bool c)::·)|none=>none)=_;rw[hb,this];rfl
def ru(kk:CK)(m k x:AV)(G:Nat->Option ai):Option (AV×fR):=
 match m with
 |.map r=>
  match G r with
  |some (.aK es)=>
   match mI kk k x es with
   |some es'=>some (ar,.set r (.aK es'))
   |none=>none
  |_=>none
 |_=>none
def rr{kk r k x G es es'}(hb:G r=some (.aK es))(hu:mI kk k x es=some es'):ru kk (.map r) k x G=some (ar,.set r (.aK es')):=by
 simp only[ru,hb,hu]
def gy{kk m k x ρ G N}:stepT (.eO kk m k x) ρ G N=ru kk (ρ m) (ρ k) (ρ x) G:=rfl
def fJ(kk:CK)(z:AV)(ok:Bool)(m k:AV)(G:Nat->Option ai):Option (AV×fR):=
 match m with
 |.cH=>some (if ok then .dh [z,.bool false]else z,.aq)
 |.map r=>
  match G r with
  |some (.aK es)=>
   match gF kk k es with
   |some (some v)=>some (if ok then .dh [v,.bool true]else v,.aq)
   |some none=>some (if ok then .dh [z,.bool false]else z,.aq)
   |none=>none
  |_=>none
 |_=>none
def bn{kk z ok m k ρ G N}:stepT (.look kk z ok m k) ρ G N=fJ kk z ok (ρ m) (ρ k) G:=rfl
def jH(z:AV)(ok:Bool):Option AV->Option (AV×fR)
 |some v=>some (if ok then .dh [v,.bool true]else v,.aq)
 |none=>some (if ok then .dh [z,.bool false]else z,.aq)
def ph{kk z ok r k G es o}(hb:G r=some (.aK es))(hu:gF kk k es=some o):
  fJ kk z ok (.map r) k G=jH z ok o:=by
 simp only[fJ,hb,hu];cases o<;>rfl
def mP{r w G M}(hb:G r=some (.aK (M.map cP))):fJ .s (.bool false) false (.map r) (.str w) G=some (.bool (fh M w),.aq):=by
 obtain⟨o,h1,h2⟩:=qM (M:=M) (w:=w);rw[ph hb h1];rcases h2 with rfl|⟨rfl,h2⟩
 ·rfl
 ·rw[h2];rfl
def pe{r w b G M}(hb:G r=some (.aK (M.map cP))):ru .s (.map r) (.str w) (.bool b) G=some (ar,.set r (.aK ((pH M w b).map cP))):=rr hb sg
def aj.tl:aj->aj
 |.seq _ b=>b
 |c=>c
def aj.hd:aj->aj
 |.seq a _=>a
 |c=>c
def aj.dr:Nat->aj->aj
 | 0,c=>c
 |n+1,c=>c.tl.dr n
def aj.uS:aj->aj
 |.block _ a=>a
 |.loop a=>a
 |c=>c
def aj.Bx:aj->aj
 |.eM _ _ a _=>a
 |c=>c
def aj.A0:aj->aj
 |.eM _ _ _ b=>b
 |c=>c
def Fr.swap'{N A B g s es cs}(hs:Fr N (A++g) s es cs)(hA:A.length=N)(hB:B.length=N):Fr N (B++g) s es cs:=by
 subst hA;exact hs.swap hB
set_option maxRecDepth 10000
attribute [local irreducible] WP WC WE WB WR WF WL WG eD
def Ig:aj:=((fn214).body.tl).hd
def EX:aj:=Ig.tl.uS
def KV:aj:=(fn214).body.tl.tl
def Ie:(fn214).body=.seq ((fn214).body.hd) (.seq (.seq Ig.hd (.block 0 (.eM (.t 16) [17,18] EX.Bx EX.A0))) KV):=rfl
section
variable {P:Program}(T:dB P) {h:af}
include T
def zK{x:jo×AV}{Hm:List (By×Bool)->af}{mb bb xb:Nat}(a1:∀M,(Hm M)[mb]? =some (.aK (M.map cP)))(a2:∀M,(Hm M)[bb]? =some (.b [.map mb]))(a3:∀M,(Hm M)[xb]? =some (.b (aL x)))
  (a4:∀M K:List (By×Bool),(Hm M).set mb (.aK (K.map cP))=Hm K) (a5:∀M,aA (Hm M) x.2 1 (x.1.bt.map an)) (hl:x.1.bt.length<2^30) {ts:TS}(hlen:ts.length=56) (t4:slot ts 4=.ptr bb 0) (t6:slot ts 6=.ptr xb 0)
  {M:List (By×Bool)}{S:List (By)}(hM:∀w,fh M w=decide (w∈S)):
  WC P zW EX.A0 [] ts (Hm M) λe _ h4=>e=.normal/\∃M',h4=Hm M'/\∀w,fh M' w=decide (w∈(if x.1.name∈S then S++x.1.bt else S)):=by
 have l2:∀{M n o},au n (.ptr bb o) (λz=>(Hm M)[z]?)=dy n o (.b [.map mb]):=λ{M _ _}=>az (a2 M)
 have l3:∀{M n o},au n (.ptr xb o) (λz=>(Hm M)[z]?)=dy n o (.b [.str x.1.name,.str x.1.gives,.str x.1.line,x.2]):=λ{M _ _}=>az (a3 M)
 have lk:∀{M w},fJ .s (.bool false) false (.map mb) (.str w) (λz=>(Hm M)[z]?)=some (.bool (fh M w),.aq):=λ{M _}=>mP (a1 M)
 have mp:∀{M w b},ru .s (.map mb) (.str w) (.bool b) (λz=>(Hm M)[z]?)=some (ar,.set mb (.aK ((pH M w b).map cP))):=λ{M _ _}=>pe (a1 M)
 have QP:=λM G=>(a5 M).bh G
 unfold EX Ig fn214 gA;simp only[aj.tl,aj.hd,aj.uS,aj.A0]
 repeat (first|simp (config:={maxSteps:=1000000}) only[bx,bo,bL,bM,reduceAdd,reduceMul,reduceLeDiff,reduceEqDiff,bP,hlen,TT,TQ,t4,t6,l2,l3,QP M]|simp (config:={maxSteps:=1000000}) (disch:=first|(simp only[Tg,Tl,Tr]<;>omega)|rfl|omega|fail) only[gL,bx,bo,bL,bM,reduceAdd,reduceMul,reduceLeDiff,reduceEqDiff,bP,hlen,TT,TQ,t4,t6,l2,l3,QP M])
 refine WL.inv T.mix (λn ts h'=>∃(k:Nat) (M':List (By×Bool)),k<=x.1.bt.length/\n=x.1.bt.length-k/\h' =Hm M'/\(∀w,fh M' w=decide (w∈S\/(x.1.name∈S/\w∈x.1.bt.take k)))/\
   ts.length=56/\slot ts 4=.ptr bb 0/\slot ts 6=.ptr xb 0/\slot ts 20=x.2/\slot ts 21=.i x.1.bt.length/\slot ts 22=.i k) x.1.bt.length
  ⟨0,M,Om,rfl,rfl,λw=>by rw[hM];simp,Sn,(Sq t4),(Sq t6),(Sq t6),(Sq t6),my⟩ ?_
 clear t4 t6 hlen hM;clear M ts;rintro _ ts _ ⟨k,M,hk',rfl,rfl,hM,hlen,t4,t6,t20,t21,t22⟩;by_cases hlt:k<x.1.bt.length
 ·have e3:=hX hlt;have ix:=(a5 M).eX (kk:=.i64) hlt;have ld:au none (dG x.2 1 k) (λb=>(Hm M)[b]?)=some (.str x.1.bt[k],.aq):=(a5 M).kV hlt rfl (Ext.refl _);have e5:=wrapN (n:=k) Om;have hnew:∀w,fh (pH M x.1.bt[k] (fh M x.1.bt[k]||fh M x.1.name)) w=decide (w∈S\/(x.1.name∈S/\w∈x.1.bt.take (k+1))):=by
   intro w;rw[pJ];have ht:x.1.bt.take (k+1)=x.1.bt.take k++[x.1.bt[k]]:=by rw[T9,Tk hlt];rfl
   rw[ht];by_cases hw:w=x.1.bt[k]
   ·rw[Ty hw,hM,hM,hw,<-Bool.decide_or,UW,Tn,TD];constructor
    ·rintro((h1|h1)|(h1|h1))
     ·exact .inl h1
     ·exact .inr ⟨h1.1,.inl h1.2⟩
     ·exact .inr ⟨h1,.inr rfl⟩
     ·exact .inr ⟨h1.1,.inr rfl⟩
    ·rintro(h1|h1)
     ·exact .inl (.inl h1)
     ·exact .inr (.inl h1.1)
   ·rw[Tt hw,hM,UW,Tn,TD];simp only[hw,UO]
  cases hb:fh M x.1.bt[k]with
  |true=>
   rw[hb,Bool.true_or]at hnew;exact ME
  |false=>
   rw[hb,Vi]at hnew;exact ME
 ·have e3:=jf hlt;have e4:k=x.1.bt.length:=Om
  rw[e4,T7]at hM;refine Rs (A6 t4 t6 t20 t21 t22 e3) ?_;refine⟨M,rfl,λw=>?_⟩;rw[hM,UW];by_cases hx:x.1.name∈S<;>simp[hx]
end
def KT:jo×AV:=(EW,.ah)
def qR(X:List (jo×AV)):List (List AV):=(List.range X.length).map λj=>[.i ((X.length-1-j:Nat):Int),.agg (aL (X.getD (X.length-1-j) KT))]
def gu{X}:(qR X).length=X.length:=by simp[qR]
def qQ{X j}(hj:j<(qR X).length):(qR X)[j]=[.i ((X.length-1-j:Nat):Int),.agg (aL (X[X.length-1-j]'(by rw[gu]at hj;omega)))]:=by
 have h1:X.length-1-j<X.length:=by rw[gu]at hj;omega
 simp only[qR,Ux,List.getElem_range,TF,Tk h1,Vk]
structure nU(V:RV)(m:By)(cm cr:Nat)(k:af):Prop where
 m:k[cm]? =some (.b [.str m])
 r:k[cr]? =some (.b V.row)
 o:aE k V
theorem nU.ext{V m cm cr k k'}(p:nU V m cm cr k)(e:Ext k k'):nU V m cm cr k':=⟨e.some p.m,e.some p.r,p.o.ext e⟩
def gC(V:RV)(m:By):List (jo×AV):=V.aI.filter λx=>decide (x.1.name∈eG m V.aC.aI.reverse)
def xO{m:By}{l:List jo}{i:Nat}(hi:i<l.length):eG m (l.take (i+1))=(if l[i].name∈eG m (l.take i)then eG m (l.take i)++l[i].bt else eG m (l.take i)):=by
 rw[T9,Tk hi,eG,List.foldl_append];rfl
def xZ{α:Type}{p:α->Bool}{l:List α}{k:Nat}(hk:k<l.length)(hp:p l[k]=true):∃h:((l.take k).filter p).length<(l.filter p).length,(l.filter p)[((l.take k).filter p).length]=l[k]:=by
 have e:l.filter p=(l.take k).filter p++(l[k]:: (l.drop (k+1)).filter p):=by
  conv=>lhs;rw[<-Uz k l,U9 hk,List.filter_append,List.filter_cons,Ty hp]
 have h:((l.take k).filter p).length<(l.filter p).length:=by rw[e];simp
 refine⟨h,?_⟩;have:(l.filter p)[((l.take k).filter p).length]? =some l[k]:=by rw[e,To (Ts _)];simp
 exact(Th.1 this).2
def Aa{α:Type}{p:α->Bool}{l:List α}{k:Nat}(hk:k<l.length):((l.take (k+1)).filter p).length=if p l[k]=true then((l.take k).filter p).length+1 else((l.take k).filter p).length:=by
 rw[T9,Tk hk,List.filter_append,Tg];cases h:p l[k]<;>simp[h]
def At{N}:mZ .cH N=some (.ptr N 0,.push (.b [.cH])):=rfl
def Hu{r N}:iP 1 0 (.map r) N (.b [.cH])=some (ar,.set N (.b [.map r])):=rfl
section
variable {P:Program}(T:dB P) {h:af}
include T
def r215{s}(o:s.one=true):ao P 215 [s] h (λv h'=>v=.func (.func 259) [] [.ptr h.length 0]/\h' =h++[.b [s]]):=by
 refine .of T.mix T.c215 ?_;unfold fn215 gA;exact Ws @o Tv
def xW{b s X}(hl:X.length<2^30):
  Iter P 259 [] [.ptr b 0] (qR X) (λk=>k[b]? =some (.b [s])/\aA k s 4 (X.map aL)):=by
 refine⟨λl h1 J Dn hpre happ Od Pj h0=>cT.of T.mix T.c259 ?_⟩;obtain⟨ts,NK⟩:∃ts,ts=aM 19 ([]++[.func (.yield l) [] []]++[.ptr b 0]):=⟨_,rfl⟩;have hlen:ts.length=19:=by rw[NK];rfl
 have t0:slot ts 0=.func (.yield l) [] []:=by rw[NK];rfl
 have t1:slot ts 1=.ptr b 0:=by rw[NK];rfl
 unfold fn259 gA;show WC P bS _ [] (aM 19 ([]++[.func (.yield l) [] []]++[.ptr b 0])) h1 _;rw[<-NK];clear NK;have p0:=hpre 0 h1 h0;have l0:∀{n o},au n (.ptr b o) (λz=>h1[z]?)=dy n o (.b [s]):=λ{_ _}=>az p0.1
 have e0:IntKind.i64.wrap ((X.length:Int)-1)=(X.length:Int)-1-(0:Nat):=by rw[aR Om Om];omega
 refine Rs (A5 t0 t1 @l0 p0.2.bh e0) ?_;refine WL.inv T.mix (λn ts h'=>∃k:Nat,k<=X.length/\n=X.length-k/\J k h'/\ts.length=19/\slot ts 0=.func (.yield l) [] []/\slot ts 1=.ptr b 0/\slot ts 3=.i ((X.length:Int)-1-k)) X.length
  ⟨0,Om,rfl,h0,Sn,(Sq t0),(Sq t1),(Sq t0)⟩ ?_
 clear t0 t1 hlen l0 p0;clear ts;rintro _ ts h' ⟨k,hk,rfl,hJ,hlen,t0,t1,t3⟩;obtain⟨p1,p2⟩:=hpre _ _ hJ;have l0:∀{n o},au n (.ptr b o) (λz=>h'[z]?)=dy n o (.b [s]):=λ{_ _}=>az p1
 by_cases hlt:k<X.length
 ·have hj:X.length-1-k<X.length:=Om
  have ei:(X.length:Int)-1-k=((X.length-1-k:Nat):Int):=Om
  have e3:decide ((0:Int)<=((X.length-1-k:Nat):Int))=true:=Tq Om;have ix:=p2.eX (kk:=.i64) hj;have ld:au (some 4) (dG s 4 (X.length-1-k)) (λb=>h'[b]?)=some (.agg (aL X[X.length-1-k]),.aq):=p2.lO hj (Ext.refl _);have hwk:IntKind.i64.wrap (((X.length-1-k:Nat):Int)-1)=(X.length:Int)-1-((k+1:Nat):Int):=by rw[aR Om Om];omega
  rw[ei]at t3;refine Rs (A7 t0 t1 t3 @l0 e3 ix @ld) ?_;obtain⟨bb,k',q1,q2⟩:=Od k (by rw[gu];exact hlt) h' hJ;rw[qQ]at q1;refine WF.Hj q1 ?_;cases bb with
  |true=>
   refine Rs (A5 t0 t1 t3 @TU @hwk) ?_;exact⟨_,Om,k+1,Om,rfl,q2,rfl⟩
  |false=>
   refine Rs (A4 t0 t1 t3 @TW) ?_;exact q2
 ·have e3:decide ((0:Int)<=(X.length:Int)-1-k)=false:=Tm Om;have e4:k=X.length:=Om
  refine Rs (A4 t0 t1 t3 e3) ?_;refine Pj h' ?_;rw[gu,<-e4];exact hJ
def r119{V}(o:aE h V)(m:By):ao P 119 [.agg V.row,.str m] h (λv h'=>v=.func (.func 214) [] [.ptr (h.length+1) 0,.ptr h.length 0]/\nU V m (h.length+1) h.length h'):=by
 refine .dU 6 T.mix T.c119 ?_;intro ts hlen t0 t1;unfold fn119 gA;have NJ:=@aE.box _ _ o;have hl2:(h++[ai.b V.row]).length=h.length+1:=Si
 refine Rs (A3 t0 t1 @NJ) ?_;rw[hl2];refine⟨rfl,?_,rJ,o.ext Xx⟩;rw[<-hl2];exact bF
def pr{V:RV}(l:ij V)(hin:∀x∈V.aI,x.1.bt.length<2^30)(m:By)(cm cr:Nat):
  IterM P 214 [] [.ptr cm 0,.ptr cr 0] ((gC V m).map λx=>[.agg (aL x)]) (nU V m cm cr):=by
 refine⟨λlp h J Dn hpre happ Od Pj hlp p0 h0=>cT.of T.mix T.c214 ?_⟩;obtain⟨ts,NK⟩:∃ts,ts=aM 56 ([]++[.func (.yield lp) [] []]++[.ptr cm 0,.ptr cr 0]):=⟨_,rfl⟩;have hlen:ts.length=56:=by rw[NK];rfl
 have t0:slot ts 0=.func (.yield lp) [] []:=by rw[NK];rfl
 have t1:slot ts 1=.ptr cm 0:=by rw[NK];rfl
 have t2:slot ts 2=.ptr cr 0:=by rw[NK];rfl
 show WC P bS (fn214).body [] (aM 56 ([]++[.func (.yield lp) [] []]++[.ptr cm 0,.ptr cr 0])) h _;rw[<-NK,Ie];clear NK;obtain⟨RR,Ou⟩:∃RR,RR=KV:=⟨_,rfl⟩;obtain⟨RA,Sl⟩:∃RA,RA=EX.Bx:=⟨_,rfl⟩;obtain⟨RB,Sk⟩:∃RB,RB=EX.A0:=⟨_,rfl⟩;rw[<-Ou,<-Sl,<-Sk];unfold Ig fn214 gA;simp only[aj.tl,aj.hd];have lm:=@iL _ _ _ p0.m;have lr:=@iL _ _ _ p0.r;have u0:ru .s (.map h.length) (.str m) (.bool true) (λz=>(h++[ai.aK []])[z]?)=some (ar,.set h.length (.aK ([(m,true)].map cP))):=pe (M:=[]) bF;refine Rs (yD t0 t1 t2 @lm @lr @gy @u0 @kB @At @Hu) ?_;refine WF.res T.c215 (r215 T p0.o.i3.one) ?_;rintro _ g1 ⟨rfl,hg⟩;have hg:=UZ hg
 subst hg;refine Rs (A3 t0 t1 t2) ?_;have hlV:V.aC.aI.length=V.aI.length:=by simp[RV.aC]
 refine WC.iter T.mix T.c259 (a:=[]) (c:=[.ptr (h++[ai.aK (List.map cP [(m,true)])]++[ai.b [AV.map h.length]]).length 0]) (Sq t0) (xW T (s:=V.s3) (X:=V.aI) (by have:=l.l3;omega)) (λy hy=>by obtain⟨z,_,rfl⟩:=TI.1 hy;rfl)
  (λi h' g=>∃M:List (By×Bool),h' =h++[ai.aK (M.map cP)]++[ai.b [AV.map h.length]]++[ai.b [V.s3]]/\∀w,fh M w=decide (w∈eG m (V.aC.aI.reverse.take i))) (λ_ _ _=>False)
  ⟨[(m,true)],rfl,λw=>?_⟩ (λi h' g g' hI=>hI) (λi h' g X hl hI=>?_) (λi hi h' g R B N1 hI=>?_) (λe h' g hl hI=>?_)
 ·show(if w=m then true else false)=decide (w∈[m]);by_cases hw:w=m<;>simp[hw]
 ·obtain⟨M,rfl,_⟩:=hI;refine⟨?_,p0.o.i3.ext Xx⟩;have e:(h++[ai.aK (List.map cP [(m,true)])]++[ai.b [AV.map h.length]]).length=(h++[ai.aK (M.map cP)]++[ai.b [AV.map h.length]]).length:=Si
  rw[e];exact yi
 ·obtain⟨M,rfl,hM⟩:=hI;have hi':i<V.aI.length:=by rw[<-gu];exact hi
  have hj:V.aI.length-1-i<V.aI.length:=Om
  rw[qQ,Sl];have P6:V.aI[V.aI.length-1-i]∈V.aI:=TE _;have hxr:V.aC.aI.reverse[i]'(by rw[List.length_reverse];omega)=(V.aI[V.aI.length-1-i]).1:=by
   rw[List.getElem_reverse];simp only[RV.aC,Ux,Tu]
  have hns:=xO (m:=m) (l:=V.aC.aI.reverse) (i:=i) (by rw[List.length_reverse];omega);rw[hxr]at hns;generalize V.aI[V.aI.length-1-i]=x at *;have ox:=p0.o.gB.2.1 x P6;unfold EX Ig fn214 gA;simp only[aj.tl,aj.hd,aj.uS,aj.Bx,setArgs,aL];refine Rs (A4 t0 t1 t2 @ox) ?_;refine⟨_,g++[ai.b [AV.str x.1.name,.str x.1.gives,.str x.1.line,x.2]],by rw[<-Ti],N1,?_⟩;have xin:=p0.o.e3 x P6;rw[Sk];refine WC.DG (zK T (x:=x) (mb:=h.length) (bb:=(h++[ai.aK (List.map cP [(m,true)])]).length) (xb:=(h++[ai.aK (List.map cP M)]++[ai.b [AV.map h.length]]++[ai.b [V.s3]]++[R]++g).length)
   (Hm:=λM=>h++[ai.aK (List.map cP M)]++[ai.b [AV.map h.length]]++[ai.b [V.s3]]++[B]++(g++[ai.b (aL x)]))
   (λM=>rI) (λM=>?_) (λM'=>?_) (λM K=>?_) (λM=>xin.ext Xx) (hin x P6) ?_ (Sq t0) (Sq t0) hM) ?_
  ·have eL:(h++[ai.aK (List.map cP [(m,true)])]).length=(h++[ai.aK (List.map cP M)]).length:=Si
   rw[eL];exact p9
  ·have eL:(h++[ai.aK (List.map cP M)]++[ai.b [AV.map h.length]]++[ai.b [V.s3]]++[B]++g).length=(h++[ai.aK (List.map cP M')]++[ai.b [AV.map h.length]]++[ai.b [V.s3]]++[B]++g).length:=Si
   rw[<-Ti];have eR:(h++[ai.aK (List.map cP M)]++[ai.b [AV.map h.length]]++[ai.b [V.s3]]++[R]++g).length=(h++[ai.aK (List.map cP M')]++[ai.b [AV.map h.length]]++[ai.b [V.s3]]++[B]++g).length:=Si
   rw[eR];exact bF
  ·exact yY
  ·simp only[bP,hlen]
  ·rintro e _ _ ⟨rfl,M',rfl,hM'⟩;refine⟨_,_,rfl,Si,?_⟩;rw[Ty rfl];exact⟨M',rfl,λw=>by rw[hM',hns]⟩
 ·by_cases N9:e=.normal
  case neg=>rw[Tt N9]at hI;exact hI.elim
  subst N9;rw[Ty rfl]at hI;obtain⟨M,rfl,hM⟩:=hI;have hM:∀w,fh M w=decide (w∈eG m V.aC.aI.reverse):=λw=>by
   rw[hM,TV (by rw[List.length_reverse,gu,hlV];exact Ts _)]
  rw[Ou];obtain⟨K0,Rm⟩:∃K0,K0=h++[ai.aK (M.map cP)]++[ai.b [AV.map h.length]]++[ai.b [V.s3]]++[ai.dead]++g:=⟨_,rfl⟩;have eK:Ext h K0:=by rw[Rm];exact Xx
  have k1:K0[h.length]? =some (.aK (M.map cP)):=by rw[Rm];exact rI
  have k2:K0[(h++[ai.aK (List.map cP [(m,true)])]).length]? =some (.b [AV.map h.length]):=by
   have eL:(h++[ai.aK (List.map cP [(m,true)])]).length=(h++[ai.aK (List.map cP M)]).length:=Si
   rw[Rm,eL];exact p9
  have hJ0:J K0.length 0 K0:=by
   obtain⟨g',NY⟩:=eK;have:=h0 g'
   rwa [<-NY]at this
  have Rz:(h++[ai.aK (List.map cP [(m,true)])]).length<K0.length:=by rw[Rm];simp only[Tg,Tl,Tr];omega
  have hbb:(h++[ai.aK (List.map cP [(m,true)])]).length=h.length+1:=Si
  rw[<-Rm];generalize K0.length=mm at hJ0 Rz;have lr0:∀{n o},au n (.ptr cr o) (λz=>K0[z]?)=dy n o (.b V.row):=λ{_ _}=>az (eK.some p0.r)
  have hlm3:=λG=>p0.o.i3.bh G
  unfold KV fn214 gA;simp only[aj.tl];refine Rs (A6 t0 t1 t2 @lr0 @kB @hlm3) ?_;rw[hbb]at k2 Rz;refine WL.inv T.mix (λn ts h'=>∃k:Nat,k<=V.aI.length/\n=V.aI.length-k/\J mm ((V.aI.take k).filter λx=>decide (x.1.name∈eG m V.aC.aI.reverse)).length h'/\h'[h.length]? =some (.aK (M.map cP))/\h'[h.length+1]? =some (.b [AV.map h.length])/\
    ts.length=56/\slot ts 0=.func (.yield lp) [] []/\slot ts 4=.ptr (h.length+1) 0/\slot ts 39=V.s3/\slot ts 40=.i V.aI.length/\slot ts 41=.i k) V.aI.length
   ⟨0,Om,rfl,hJ0,k1,k2,Sn,(Sq t0),(Sq (A2 t0 @hbb)),(Sq t0),(Sq t0),my⟩ ?_
  clear t0 t1 t2 hlen lr lm u0 lr0 hJ0 k1 k2 hlm3;clear ts;rintro _ ts h' ⟨k,hk,rfl,hJ,k1,k2,hlen,t0,t4,t39,t40,t41⟩;by_cases hlt:k<V.aI.length
  ·have p1:=hpre _ _ _ hJ;have P6:V.aI[k]∈V.aI:=TE _;have ix:=p1.o.i3.eX (kk:=.i64) hlt;have ld:au (some 4) (dG V.s3 4 k) (λb=>h'[b]?)=some (.agg (aL V.aI[k]),.aq):=p1.o.i3.lO hlt (Ext.refl _);have ox:=p1.o.gB.2.1 _ P6;have e3:=hX hlt;have e5:IntKind.i64.wrap ((k:Int)+1)=((k+1:Nat):Int):=wrapN (by have:=l.l3;omega);have l2:∀{z n o},Ext h' z->au n (.ptr (h.length+1) o) (λb=>z[b]?)=dy n o (.b [AV.map h.length]):=λ{_ _ _} e=>az (e.some k2)
   have lk:∀{C w},fJ .s (.bool false) false (.map h.length) (.str w) (λz=>(h'++[C])[z]?)=some (.bool (fh M w),.aq):=λ{C _}=>mP ((Ext.app [C] (Ext.refl h')).some k1)
   have hf:=xZ (p:=λx:jo×AV=>decide (x.1.name∈eG m V.aC.aI.reverse)) hlt;have hs:=Aa (p:=λx:jo×AV=>decide (x.1.name∈eG m V.aC.aI.reverse)) hlt;have hMx:=hM V.aI[k].1.name;generalize V.aI[k]=x at *;unfold aL at ld;cases hb:fh M x.1.name with
   |true=>
    rw[hb]at hMx;obtain⟨Qw,PB⟩:=hf hMx.symm;refine Rs (GG t0 t4 t39 t40 t41 ix @ld @ox e3 @l2 @bn @lk @hb) ?_;obtain⟨bb,k',q1,q2,q3⟩:=Od mm _ (by rw[Tu];exact Qw) _ (happ _ _ _ [ai.b [AV.str x.1.name,.str x.1.gives,.str x.1.line,x.2]] hJ);rw[Ux]at q1;have hf2':(gC V m)[((V.aI.take k).filter λx=>decide (x.1.name∈eG m V.aC.aI.reverse)).length]'Qw=x:=PB;have q1:dP P (.func (.yield lp) [] []) [AV.agg (aL x)] (h'++[ai.b [AV.str x.1.name,.str x.1.gives,.str x.1.line,x.2]]) (.bool bb) k':=by
     refine Eq.mp ?_ q1;congr 1;exact TO (λy=>[AV.agg (aL y)]) hf2'
    unfold aL at q1;refine WF.Hj q1 ?_;cases bb with
    |true=>
     refine Rs (A7 t0 t4 t39 t40 t41 @TU e5) ?_;have hlt1:=(Th.1 k1).1;have PV:=(Th.1 k2).1;refine⟨_,Om,k+1,Om,rfl,?_,?_,?_,rfl⟩
     ·rw[hs,<-hMx,Ty rfl];exact q3
     ·rw[q2 _ Om Om,Tj hlt1];exact k1
     ·rw[q2 _ Om Om,Tj PV];exact k2
    |false=>
     refine Rs (A6 t0 t4 t39 t40 t41 @TW) ?_;exact q3
   |false=>
    rw[hb]at hMx;refine Rs (JQ t0 t4 t39 t40 t41 ix @ld @ox e3 @l2 @bn @lk @hb e5) ?_;have hlt1:=(Th.1 k1).1;have PV:=(Th.1 k2).1;refine⟨_,Om,k+1,Om,rfl,?_,?_,?_,rfl⟩
    ·rw[hs,<-hMx,Tt De];exact happ _ _ _ _ hJ
    ·rw[Tj hlt1];exact k1
    ·rw[Tj PV];exact k2
  ·have e3:=jf hlt;have e4:k=V.aI.length:=Om
   rw[e4,T7]at hJ;refine Rs (A6 t0 t4 t39 t40 t41 e3) ?_;refine Pj mm h' ?_;rw[Tu];exact hJ
end
def Bf:aj:=((fn122).body.tl.tl).hd
def HB:aj:=Bf.tl.uS
def Ks:aj:=(fn122).body.tl.tl.tl
def HA:(fn122).body=.seq ((fn122).body.hd) (.seq ((fn122).body.tl.hd) (.seq (.seq Bf.hd (.block 0 (.eM (.t 10) [11] HB.Bx HB.A0))) Ks)):=rfl
def Et{r N}:iP 1 0 (.map r) N (.b [.cH])=some (ar,.set N (.b [.map r])):=rfl
def qx{V m}:(gC V m).map Prod.fst=te V.aC m:=by
 rw[gC,te];show _=List.filter _ (List.map Prod.fst V.aI);rw[Vq];rfl
section
variable {P:Program}(T:dB P) {h:af}
include T
def r217{x b c M}(hb:h[b]? =some (.b [.map c]))(hc:h[c]? =some (.aK (M.map cP))):ao P 217 [.agg (bX x),.ptr b 0] h (λv _=>v=.bool (fh M x.name)):=by
 refine .dU 8 T.mix T.c217 ?_;intro ts hlen t0 t1;unfold fn217 gA;have lb:∀{k:af}{n':Option Nat}{a:Nat},Ext h k->au n' (.ptr b a) (λz=>k[z]?)=dy n' a (.b [.map c]):=λe=>az (e.some hb)
 have lk:∀{C w},fJ .s (.bool false) false (.map c) (.str w) (λz=>(h++[C])[z]?)=some (.bool (fh M w),.aq):=λ{C _}=>mP ((Ext.app [C] (Ext.refl h)).some hc)
 unfold bX at t0;exact Rs (A5 t0 t1 @lb @bn @lk) Tv
def r122{V}(o:aE h V)(l:ij V)(hin:∀x∈V.aI,x.1.bt.length<2^30)(m:By):ao P 122 [.agg V.row,.str m] h (λv h'=>aA h' v 3 ((jA V.aC m).map bX)):=by
 refine .of T.mix T.c122 ?_;obtain⟨ts,NK⟩:∃ts,ts=aM 19 [.agg V.row,.str m]:=⟨_,rfl⟩;have hlen:ts.length=19:=by rw[NK];rfl
 have t0:slot ts 0=.agg V.row:=by rw[NK];rfl
 have t1:slot ts 1=.str m:=by rw[NK];rfl
 show WC P bS (fn122).body [] (aM 19 [.agg V.row,.str m]) h _;rw[<-NK,HA];clear NK;obtain⟨RR,Ou⟩:∃RR,RR=Ks:=⟨_,rfl⟩;obtain⟨RA,Sl⟩:∃RA,RA=HB.Bx:=⟨_,rfl⟩;obtain⟨RB,Sk⟩:∃RB,RB=HB.A0:=⟨_,rfl⟩;rw[<-Ou,<-Sl,<-Sk];unfold Bf fn122 gA;simp only[aj.tl,aj.hd];have NJ:=@aE.box _ _ o;refine Rs (A6 t0 t1 @NJ @At @Et @bu) ?_;obtain⟨H0,Tc⟩:∃H0,H0=h++[ai.b V.row]:=⟨_,rfl⟩;have e0:Ext h H0:=by rw[Tc];exact Xx
 rw[<-Tc];refine WF.res T.c119 (r119 T (o.ext (e0.trans Xx)) m) ?_;rintro _ g1 ⟨rfl,hp⟩;refine Rs (A2 t0 t1) ?_;obtain⟨cm,hcm⟩:∃cm,cm=(H0++[ai.aK []]++[ai.b [AV.map H0.length]]).length:=⟨_,rfl⟩;rw[<-hcm]at hp ⊢;have pmap:∀(M:List (By×Bool)) (Z:af),nU V m (cm+1) cm (H0++[ai.aK (M.map cP)]++[ai.b [AV.map H0.length]]++g1++Z):=by
  intro M Z;have hne:∀b,b≠H0.length->(H0++[ai.aK (M.map cP)]++[ai.b [AV.map H0.length]]++g1)[b]? =(H0++[ai.aK []]++[ai.b [AV.map H0.length]]++g1)[b]? :=λb hb=>by
   have:=od (A:=H0) (B:=[ai.b [AV.map H0.length]]++g1) (K:=ai.aK (M.map cP)) (K':=ai.aK []) (b:=b) hb
   simpa only[Ti]using this
  have hcl:cm=H0.length+2:=by rw[hcm];simp
  refine nU.ext ⟨(hne _ Om).trans hp.m,(hne _ Om).trans hp.r,(o.ext e0).ext Xx⟩ (Ext.app Z (Ext.refl _))
 refine WC.iterM T.mix T.c214 (a:=[]) (c:=[.ptr (cm+1) 0,.ptr cm 0]) (Sq t0) (pr T l hin m (cm+1) cm) (λy hy=>by obtain⟨z,_,rfl⟩:=TI.1 hy;rfl)
  (λmm i h' g=>∃M:List (By×Bool),h' =H0++[ai.aK (M.map cP)]++[ai.b [AV.map H0.length]]++g1/\mm<=h'.length+1+g.length/\∀w,fh M w=decide (w∈((gC V m).take i).map λx=>x.1.line)) (λ_ _ _=>False)
  (λg=>⟨[],rfl,Ts _,λw=>rfl⟩) (λmm i h' g g' hI=>by obtain⟨M,a1,a2,a3⟩:=hI;exact⟨M,a1,by rw[Tg];omega,a3⟩) (λX=>pmap [] [X]) (λmm i h' g X hl hI=>?_) (λmm i hi h' g R B N1 hI=>?_) (λe h' g hl hI=>?_)
 ·obtain⟨M,rfl,_⟩:=hI;rw[Ti (H0++[ai.aK (M.map cP)]++[ai.b [AV.map H0.length]]++g1)];exact pmap M _
 ·obtain⟨M,rfl,Rz,hM⟩:=hI;have hi':i<(gC V m).length:=by simpa using hi
  rw[Ux,Sl,Sk];have P6:(gC V m)[i]∈V.aI:=(UK.1 (TE hi')).1;have Oy:((gC V m).take (i+1)).map (λx=>x.1.line)=((gC V m).take i).map (λx=>x.1.line)++[(gC V m)[i].1.line]:=by
   rw[T9,Tk hi',Tx];rfl
  generalize (gC V m)[i]=x at *;have ox:=o.gB.2.1 x P6;have eL:∀K:List (By×Bool),(H0++[ai.aK (K.map cP)]).length=(H0++[ai.aK []]).length:=λK=>by simp
  have u0:∀{Z Y:af},ru .s (.map H0.length) (.str x.1.line) (.bool true) (λz=>(H0++[ai.aK (M.map cP)]++[ai.b [AV.map H0.length]]++g1++[B]++Z++Y)[z]?)=some (ar,.set H0.length (.aK ((pH M x.1.line true).map cP))):=λ{Z Y}=>pe AB
  have lb:∀{Z Y:af}{n a},au n (.ptr (H0++[ai.aK []]).length a) (λz=>(H0++[ai.aK (M.map cP)]++[ai.b [AV.map H0.length]]++g1++[B]++Z++Y)[z]?)=dy n a (.b [.map H0.length]):=λ{Z Y _ _}=>by
   rw[<-eL M];exact az rI
  have lx:∀{n a},au n (.ptr (H0++[ai.aK (M.map cP)]++[ai.b [AV.map H0.length]]++g1++[R]++g).length a) (λz=>(H0++[ai.aK (M.map cP)]++[ai.b [AV.map H0.length]]++g1++[B]++g++[ai.b [AV.str x.1.name,.str x.1.gives,.str x.1.line,x.2]])[z]?)=dy n a (.b [AV.str x.1.name,.str x.1.gives,.str x.1.line,x.2]):=λ{_ _}=>by
   have:(H0++[ai.aK (M.map cP)]++[ai.b [AV.map H0.length]]++g1++[R]++g).length=(H0++[ai.aK (M.map cP)]++[ai.b [AV.map H0.length]]++g1++[B]++g).length:=Si
   rw[this];exact az bF
  unfold HB Bf fn122 gA;simp only[aj.tl,aj.hd,aj.uS,aj.Bx,aj.A0,setArgs,aL];refine Rs (A3 t0 t1 @ox) ?_;refine⟨_,g++[ai.b [AV.str x.1.name,.str x.1.gives,.str x.1.line,x.2]],by rw[<-Ti],N1,?_⟩;rw[<-Ti];refine Rs (A7 t0 t1 @ox @lb @lx @gy @u0) ?_;refine⟨_,g++[ai.b [AV.str x.1.name,.str x.1.gives,.str x.1.line,x.2]],by rw[<-Ti],Si,λy hy=>Tj ?_,_,rfl,?_,λw=>?_⟩
  ·simp only[Tg,Tl,Tr]at hy Rz;omega
  ·simp only[Tg,Tl,Tr]at Rz ⊢;omega
  ·rw[pJ,Oy];by_cases hw:w=x.1.line
   ·rw[Ty hw];simp[hw]
   ·rw[Tt hw,hM];simp[hw]
 ·by_cases N9:e=.normal
  case neg=>rw[Tt N9]at hI;exact hI.elim
  subst N9;rw[Ty rfl]at hI;obtain⟨mm,M,rfl,_,hM⟩:=hI;rw[Tu,T7]at hM;rw[Ou];have eL:(H0++[ai.aK (M.map cP)]).length=(H0++[ai.aK []]).length:=Si
  obtain⟨K0,Rm⟩:∃K0,K0=H0++[ai.aK (M.map cP)]++[ai.b [AV.map H0.length]]++g1++[ai.dead]++g:=⟨_,rfl⟩;have eK:Ext H0 K0:=by rw[Rm];exact Xx
  have k1:K0[H0.length]? =some (.aK (M.map cP)):=by rw[Rm];exact rI
  have k2:K0[(H0++[ai.aK []]).length]? =some (.b [AV.map H0.length]):=by
   rw[Rm,<-eL];exact p9
  rw[<-Rm];have lr:∀{k n a},Ext K0 k->au n (.ptr h.length a) (λz=>k[z]?)=dy n a (.b V.row):=λ{_ _ _} e=>az ((eK.trans e).some (by rw[Tc];exact bF))
  unfold Ks fn122 gA;simp only[aj.tl];refine Rs (A4 t0 t1 @lr @oS) ?_;refine WF.res T.c216 (r216 T (o.i0.ext (e0.trans (eK.trans Xx))) (by have:=l.l0;omega) (λx=>fh M x.name) (λx hx k e=>aQ.of (a:=[]) (c:=[.ptr (H0++[ai.aK []]).length 0]) T.c217 (r217 T (e.some k2) (e.some k1)))) ?_;rintro s1 g2 hf;have eh:=e0.trans eK;have es:V.lines.filter (λx=>fh M x.name)=jA V.aC m:=by
   refine List.filter_congr λx _=>?_
   rw[hM,<-qx,U7];rfl
  rw[es]at hf;have:=hf.aN;refine Rs (A2 t0 t1) ?_;exact⟨Ext.app _ eh,this⟩
end
def eT(x:Nat×Bool):List AV:=[.i (x.1:Int),.bool x.2]
def iD:Kd->AV
 |.eV=>.nilFunc
 |.line=>.func (.func 148) [] []
 |.tape=>.func (.func 151) [] []
 |.iR=>.func (.func 155) [] []
 |.copy=>.func (.func 157) [] []
 |.accept=>.func (.func 159) [] []
 |.source=>.func (.func 161) [] []
 |.iV=>.func (.func 163) [] []
 |.merge=>.func (.func 165) [] []
 |.run=>.func (.func 167) [] []
 |.gJ=>.func (.func 169) [] []
 |.fail=>.func (.func 171) [] []
 |.gK=>.func (.func 173) [] []
 |.rel=>.func (.func 175) [] []
def mR:Kd->AV
 |.eV=>.nilFunc
 |.line=>.func (.func 149) [] []
 |.tape=>.func (.func 152) [] []
 |.iR=>.func (.func 156) [] []
 |.copy=>.func (.func 158) [] []
 |.accept=>.func (.func 160) [] []
 |.source=>.func (.func 162) [] []
 |.iV=>.func (.func 164) [] []
 |.merge=>.func (.func 166) [] []
 |.run=>.func (.func 168) [] []
 |.gJ=>.func (.func 170) [] []
 |.fail=>.func (.func 172) [] []
 |.gK=>.func (.func 174) [] []
 |.rel=>.func (.func 176) [] []
def BW:Kd->Option Nat
 |.eV=>none
 |.line=>some 0
 |.tape=>some 3
 |.iR=>some 1
 |.copy=>some 3
 |.accept=>some 0
 |.source=>some 1
 |.iV=>none
 |.merge=>none
 |.run=>none
 |.gJ=>none
 |.fail=>none
 |.gK=>none
 |.rel=>none
def vE(h:af)(d:Kd)(v:AV):Prop:=
 match BW d with
 |none=>v=.nilFunc
 |some 3=>v=.func (.func 153) [] []
 |some i=>∃b,v=.func (.func 240) [] [.ptr b 0]/\h[b]? =some (.b [.i (i:Int)])
structure yu(h:af)(d:Kd)(v:AV):Prop where
 ex:∃rs a,v=.agg [rs,.i (cO d:Int),iD d,mR d,a]/\aA h rs 2 ((bV d).map eT)/\a.one=true/\vE h d a
def La(vf:Kd->AV):List (AV×AV):=DI.map λd=>(.str (bJ d),vf d)
structure rX(h:af)(r:Nat)(vf:Kd->AV):Prop where
 m:h[r]? =some (.aK (La vf))
 k:∀d,yu h d (vf d)
theorem wA{vf:Kd->AV}{k:By}:∀{L:List Kd},gF .s (.str k) (L.map λd=>(AV.str (bJ d),vf d))=some ((L.find? λd=>bJ d==k).map vf)
 |[]=>rfl
 |d::L=>by
  rw[Un,List.find?_cons];by_cases hk:k=bJ d
  ·subst hk;simp only[gF,cJ,BEq.rfl,U4]
  ·have h1:(k==bJ d)=false:=by simp[hk]
   have h2:(bJ d==k)=false:=by simp[Vl hk]
   simp only[gF,cJ,h1,h2];exact wA
def rX.look{h:af}{r:Nat}{vf:Kd->AV}(o:rX h r vf){z:AV}{ok:Bool}{k:By}:fJ .s z ok (.map r) (.str k) (λb=>h[b]?)=jH z ok ((gb k).map vf):=ph o.m wA
def Eb(h g:af)(s:AV)(rs:List (Nat×Bool)):Prop:=∀X,aA (h++[X]++g) s 2 (rs.map eT)
theorem Eb.app{h g s rs}(o:Eb h g s rs)(g':af):Eb h (g++g') s rs:=λX=>by rw[<-Ti];exact(o X).app g'
def NC(h g:af)(b:Nat)(i:Int):Prop:=∀X,(h++[X]++g)[b]? =some (ai.b [.i i])
theorem vE.app{h d v}(o:vE h d v)(g:af):vE (h++g) d v:=by
 unfold vE at *;split at o
 ·exact o
 ·exact o
 ·obtain⟨b,h1,h2⟩:=o;exact⟨b,h1,(Ext.app g (Ext.refl _)).some h2⟩
theorem yu.app{h d v}(o:yu h d v)(g:af):yu (h++g) d v:=by
 obtain⟨rs,a,e,hs,ha,hb⟩:=o.ex;exact⟨rs,a,e,hs.app g,ha,hb.app g⟩
def jI(ds:List Kd)(vf:Kd->AV):List (AV×AV):=ds.map λd=>(.str (bJ d),vf d)
def BV(vf:Kd->AV)(d:Kd)(v:AV):Kd->AV:=λx=>if x=d then v else vf x
def yz(a:Nat)(F:List (Nat×AV)):Bool:=decide (a<56)&&decide (a≠1)&&F.all λp=>decide (p.1≠a)
structure pR(h:af)(ts:TS)(g:af)(ds:List Kd)(vf:Kd->AV)(F:List (Nat×AV)):Prop where
 l:ts.length=56
 m:slot ts 1=.map h.length
 f:∀p∈F,slot ts p.1=p.2
 e:∀d∈ds,∀X,yu (h++[X]++g) d (vf d)
def pR.put{h ts g ds vf F}(s:pR h ts g ds vf F){a v}(g':af)(hc:yz a F=true):pR h (ts.set a v) (g++g') ds vf ((a,v)::F):=by
 simp only[yz,TL,T3,TM]at hc;have hl:a+1<=ts.length:=by rw[s.l];omega
 refine⟨by simp only[bP,s.l],by simp only[bP,UI hc.1.2,s.m],λp hp=>?_,λd hd X=>?_⟩
 ·rcases TP.1 hp with rfl|hp
  ·simp only[bP,hl]
  ·simp only[bP,UI (λe=>hc.2 p hp (Eq.symm e)),s.f p hp]
 ·rw[<-Ti];exact(s.e d hd X).app g'
theorem yJ{vf k v}:∀{ds},ds.all (λx=>!(bJ x==k))=true->mI .s (.str k) v (jI ds vf)=some (jI ds vf++[(.str k,v)])
 |[],_=>rfl
 |d::ds,hd=>by
  rw[Vu,TL]at hd;have h2:(bJ d==k)=false:=by simpa using hd.1
  have h3:¬bJ d=k:=by simpa using hd.1
  have h1:(k==bJ d)=false:=by simp[Vl h3]
  have:=yJ (vf:=vf) (v:=v) hd.2;unfold jI at *;simp only[Un,mI,cJ,h1,h2,this,U4,Uu]
def fP:AV.one .nilFunc=true:=rfl
section
variable {P:Program}(T:dB P) {h:af}
include T
def r147(t:Int):ao P 147 [.i t] h (λv _=>v=.agg [.i t,.bool false]):=by
 refine .of T.mix T.c147 ?_;unfold fn147 gA;exact Wn Tv
def r154(t:Int):ao P 154 [.i t] h (λv _=>v=.agg [.i t,.bool true]):=by
 refine .of T.mix T.c154 ?_;unfold fn154 gA;exact Wn Tv
def r150(i:Int):ao P 150 [.i i] h (λv h'=>v=.func (.func 240) [] [.ptr h.length 0]/\h' =h++[.b [.i i]]):=by
 refine .of T.mix T.c150 ?_;unfold fn150 gA;exact Wn Tv
section
variable {ks:List Kt}{ts:TS}{Q:Ex->TS->af->Prop}{g:af}{ds:List Kd}{vf:Kd->AV}{F:List (Nat×AV)}{a:Nat}{l:List aZ}
def gU{t}(s:pR h ts g ds vf F)(hc:yz a F=true)(K:∀ts' g',pR h ts' (g++g') ds vf ((a,.agg [.i t,.bool false])::F)->WP P bS l ks ts' (h++[.aK (jI ds vf)]++(g++g')) Q):
  WP P bS (.c a 147 [.c (.i t)]::l) ks ts (h++[.aK (jI ds vf)]++g) Q:=by
 refine Wn ?_;refine WF.ce T.c147 (r147 T t) λg1=>?_
 exact G3
def gT{t}(s:pR h ts g ds vf F)(hc:yz a F=true)(K:∀ts' g',pR h ts' (g++g') ds vf ((a,.agg [.i t,.bool true])::F)->WP P bS l ks ts' (h++[.aK (jI ds vf)]++(g++g')) Q):
  WP P bS (.c a 154 [.c (.i t)]::l) ks ts (h++[.aK (jI ds vf)]++g) Q:=by
 refine Wn ?_;refine WF.ce T.c154 (r154 T t) λg1=>?_
 exact G3
def BX{t}(s:pR h ts g ds vf F)(hc:yz a F=true)(K:∀ts' g' b,pR h ts' (g++g') ds vf ((a,.func (.func 240) [] [.ptr b 0])::F)->NC h (g++g') b t->WP P bS l ks ts' (h++[.aK (jI ds vf)]++(g++g')) Q):
  WP P bS (.c a 150 [.c (.i t)]::l) ks ts (h++[.aK (jI ds vf)]++g) Q:=by
 refine Wn ?_;refine WF.res T.c150 (r150 T t) ?_;rintro _ g1 ⟨rfl,hg⟩;have hg:=UZ hg;subst hg;rw[Ti (h++[ai.aK (jI ds vf)]) g];refine K _ _ _ (s.put _ hc) λX=>?_
 have e:(h++[ai.aK (jI ds vf)]++g).length=(h++[X]++g).length:=Si
 rw[e,<-Ti];exact bF
theorem zS{N}(s:pR h ts g ds vf F)(hc:yz a []=true){n xs}(hN:N=(h++[ai.aK (jI ds vf)]++g).length)(hn:xs.length=n)(K:∀ts' g' s,pR h ts' (g++g') ds vf [(a,s)]->Eb h (g++g') s xs->WP P bS l ks ts' (h++[.aK (jI ds vf)]++(g++g')) Q):
  WP P bS l ks (ts.set a (.slice N 0 n 2)) (h++[.aK (jI ds vf)]++g++[.cells (xs.map eT).flatten true true]) Q:=by
 subst hN;subst hn;rw[Ti (h++[ai.aK (jI ds vf)]) g];have s0:pR h ts g ds vf []:=⟨s.l,s.m,λ_ hp=>(by cases hp),s.e⟩;refine K _ _ _ (s0.put _ hc) λX=>?_
 have e:(h++[ai.aK (jI ds vf)]++g).length=(h++[X]++g).length:=Si
 rw[e,<-Ti];have:=(Fr.push (N:=0) (h:=h++[X]++g) (TJ _) (xs.map eT) (es:=2) (by intro c hc;obtain⟨x,_,rfl⟩:=TI.1 hc;rfl)).aN
 rwa [Tu]at this
def qH{a0 x0}(s:pR h ts g ds vf [(a0,.agg (eT x0))])(hc:yz a []=true)(K:∀ts' g' s,pR h ts' (g++g') ds vf [(a,s)]->Eb h (g++g') s [x0]->WP P bS l ks ts' (h++[.aK (jI ds vf)]++(g++g')) Q):
  WP P bS (.o a (.aD 2 1 [.i 0,.bool false] [(0,.t a0)])::l) ks ts (h++[.aK (jI ds vf)]++g) Q:=by
 have s0:slot ts a0=.agg [.i (x0.1:Int),.bool x0.2]:=s.f (a0,.agg (eT x0)) Si;refine Ws @s0 ?_;exact zS T s hc rfl rfl K
def tB{a0 a1 x0 x1}(s:pR h ts g ds vf [(a1,.agg (eT x1)),(a0,.agg (eT x0))])(hc:yz a []=true)(K:∀ts' g' s,pR h ts' (g++g') ds vf [(a,s)]->Eb h (g++g') s [x0,x1]->WP P bS l ks ts' (h++[.aK (jI ds vf)]++(g++g')) Q):
  WP P bS (.o a (.aD 2 2 [.i 0,.bool false] [(0,.t a0),(2,.t a1)])::l) ks ts (h++[.aK (jI ds vf)]++g) Q:=by
 have s0:slot ts a0=.agg [.i (x0.1:Int),.bool x0.2]:=s.f (a0,.agg (eT x0)) Si;have s1:slot ts a1=.agg [.i (x1.1:Int),.bool x1.2]:=s.f (a1,.agg (eT x1)) Si;refine Ws (A2 @s0 @s1) ?_;exact zS T s hc rfl rfl K
def DK{a0 a1 a2 x0 x1 x2}(s:pR h ts g ds vf [(a2,.agg (eT x2)),(a1,.agg (eT x1)),(a0,.agg (eT x0))])(hc:yz a []=true)(K:∀ts' g' s,pR h ts' (g++g') ds vf [(a,s)]->Eb h (g++g') s [x0,x1,x2]->WP P bS l ks ts' (h++[.aK (jI ds vf)]++(g++g')) Q):
  WP P bS (.o a (.aD 2 3 [.i 0,.bool false] [(0,.t a0),(2,.t a1),(4,.t a2)])::l) ks ts (h++[.aK (jI ds vf)]++g) Q:=by
 have s0:slot ts a0=.agg [.i (x0.1:Int),.bool x0.2]:=s.f (a0,.agg (eT x0)) Si;have s1:slot ts a1=.agg [.i (x1.1:Int),.bool x1.2]:=s.f (a1,.agg (eT x1)) Si;have s2:slot ts a2=.agg [.i (x2.1:Int),.bool x2.2]:=s.f (a2,.agg (eT x2)) Si;refine Ws (A3 @s0 @s1 @s2) ?_;exact zS T s hc rfl rfl K
theorem IA{v}:WP P bS [.o a (.dw (.c v))] ks ts h Q=WE P bS .normal ks (ts.set a v) h Q:=by
 unfold aZ.o;rw[AS,AQ,vI,nD]
theorem IB:WP P bS (.o a .lL::l) ks ts h Q=WP P bS l ks (ts.set a (.map h.length)) (h++[.aK []]) Q:=ua
theorem DJ{z ps v}(d:Kd)(s:pR h ts g ds vf F)(hc:yz a []=true)(hd:ds.all (λx=>!(bJ x==bJ d))=true)
  (hv:pG (dA z (ps.map λp=>(p.1,p.2.1,val ts p.2.2)))=some v) (ok:∀X,yu (h++[X]++g) d v)
  (K:∀ts',pR h ts' g (ds++[d]) (BV vf d v) []->WP P bS l ks ts' (h++[.aK (jI (ds++[d]) (BV vf d v))]++g) Q):
  WP P bS (.o a (.build z ps):: .x (.eO .s (.t 1) (.c (.str (bJ d))) (.t a))::l) ks ts (h++[.aK (jI ds vf)]++g) Q:=by
 have e1:ru .s (.map h.length) (.str (bJ d)) v (λb=>(h++[ai.aK (jI ds vf)]++g)[b]?)=some (ar,.set h.length (.aK (jI ds vf++[(.str (bJ d),v)]))):=rr rJ (yJ hd);have hn:∀x∈ds,x≠d:=λx hx e=>by
  have:=TM.1 hd x hx;rw[e]at this;simp at this
 have eL:jI ds vf++[(.str (bJ d),v)]=jI (ds++[d]) (BV vf d v):=by
  unfold jI;rw[Tx,List.map_singleton,BV,Ty rfl];exact TO (· ++_) (List.map_congr_left λx hx=>by rw[BV,Tt (hn x hx)])
 unfold aZ.o aZ.x;rw[pN,hv,rN,rS];simp only[yz,TL,T3]at hc;have hl:a+1<=ts.length:=by rw[s.l];omega
 have e2:val (put ts (some a) v) (.t 1)=.map h.length:=by
  simp only[nD,sf,bP,UI hc.1.2,s.m]
 have e3:val (put ts (some a) v) (.t a)=v:=by simp only[nD,sf,bP,hl]
 rw[gy,e2,e3,vI,e1,pM,zy,nD];have e4:(h++[ai.aK (jI ds vf)]++g).set h.length (.aK (jI ds vf++[(.str (bJ d),v)]))=h++[.aK (jI ds vf++[(.str (bJ d),v)])]++g:=vS;rw[e4,eL];refine K _ ⟨by simp only[bP,s.l],by simp only[bP,UI hc.1.2,s.m],λ_ hp=>(by cases hp),λx hx X=>?_⟩;rcases Tn.1 hx with hx|hx
 ·rw[BV,Tt (hn x hx)];exact s.e x hx X
 ·rw[TD.1 hx,BV,Ty rfl];exact ok X
def mS{i f2 f3 n x4 r a4}(d:Kd)(s:pR h ts g ds vf F)(hc:yz a []=true)(hd:ds.all (λx=>!(bJ x==bJ d))=true)(hi:(i,r)∈F)(hb:Eb h g r (bV d))(h4:val ts x4=a4)(o4:a4.one=true)(b4:∀X,vE (h++[X]++g) d a4)
  (hn:(cO d:Int)=n) (h2:iD d=.func (.func f2) [] []) (h3:mR d=.func (.func f3) [] [])
  (K:∀ts',pR h ts' g (ds++[d]) (BV vf d (.agg [r,.i n,iD d,mR d,a4])) []->WP P bS l ks ts' (h++[.aK (jI (ds++[d]) (BV vf d (.agg [r,.i n,iD d,mR d,a4])))]++g) Q):
  WP P bS (.o a (.build [.ah,.i 0,.nilFunc,.nilFunc,.nilFunc] [(0,1,.t i),(1,1,.c (.i n)),(2,1,.f f2),(3,1,.f f3),(4,1,x4)]):: .x (.eO .s (.t 1) (.c (.str (bJ d))) (.t a))::l) ks ts (h++[.aK (jI ds vf)]++g) Q:=by
 have s0:slot ts i=r:=s.f (i,r) hi;have o0:r.one=true:=(hb (.aK [])).one;refine DJ T d s hc hd ?_ (λX=>⟨r,a4,by rw[hn],hb X,o4,b4 X⟩) K;exact Ws (A6 @s0 @h4 @o0 @o4 @h2 @h3) Tv
end
def r90:ao P 90 [] h (λv h'=>∃vf,v=.map h.length/\rX h' h.length vf):=by
 refine .Nr 56 T.mix T.c90 ?_;intro ts hlen;unfold fn90;have m0:slot ((ts.set 0 AV.cH).set 1 (.map h.length)) 1=.map h.length:=by simp only[bP,hlen,reduceAdd,reduceLeDiff]
 have l0:((ts.set 0 AV.cH).set 1 (.map h.length)).length=56:=by simp only[bP,hlen]
 dsimp only[aj.j,aj.s,aj.r];rw[pO,pP,IA T,rV,pO,pP,IB T];rw[<-TH (h++[ai.aK []])];generalize (ts.set 0 AV.cH).set 1 (.map h.length)=ts at *;clear hlen;have s:pR h ts [] [] (λ_=>ar) []:=⟨l0,m0,λ_ hp=>(by cases hp),λ_ hd=>(by cases hd)⟩;clear l0 m0;refine DJ T .eV s rfl rfl (v:=.agg [.ah,.i 0,.nilFunc,.nilFunc,.nilFunc]) rfl (λX=>⟨_,_,rfl,.nil,rfl,rfl⟩) ?_;intro ts s;refine gU T (t:=0) s rfl ?_;intro ts g s;refine qH T (x0:=(0,false)) s rfl ?_;intro ts g r s b;refine BX T (t:=0) s rfl ?_;intro ts g p s c;refine mS T .line s rfl rfl (by simp only[TP,true_or,or_true]) (b.app g) (s.f (_,_) (T0 ..)) rfl (λX=>⟨p,rfl,c X⟩) rfl rfl rfl ?_
 intro ts s;refine gU T (t:=1) s rfl ?_;intro ts g s;refine qH T (x0:=(1,false)) s rfl ?_;intro ts g r s b;refine mS T .tape s rfl rfl (T0 ..) b rfl rfl (λ_=>rfl) rfl rfl rfl ?_;intro ts s;refine gU T (t:=2) s rfl ?_;intro ts g s;refine gT T (t:=0) s rfl ?_;intro ts g s;refine gT T (t:=1) s rfl ?_;intro ts g s;refine DK T (x0:=(2,false)) (x1:=(0,true)) (x2:=(1,true)) s rfl ?_;intro ts g r s b;refine BX T (t:=1) s rfl ?_;intro ts g p s c;refine mS T .iR s rfl rfl (by simp only[TP,true_or,or_true]) (b.app g) (s.f (_,_) (T0 ..)) rfl (λX=>⟨p,rfl,c X⟩) rfl rfl rfl ?_;intro ts s;refine gT T (t:=1) s rfl ?_
 intro ts g s;refine gT T (t:=1) s rfl ?_;intro ts g s;refine tB T (x0:=(1,true)) (x1:=(1,true)) s rfl ?_;intro ts g r s b;refine mS T .copy s rfl rfl (T0 ..) b rfl rfl (λ_=>rfl) rfl rfl rfl ?_;intro ts s;refine gT T (t:=0) s rfl ?_;intro ts g s;refine qH T (x0:=(0,true)) s rfl ?_;intro ts g r s b;refine BX T (t:=0) s rfl ?_;intro ts g p s c;refine mS T .accept s rfl rfl (by simp only[TP,true_or,or_true]) (b.app g) (s.f (_,_) (T0 ..)) rfl (λX=>⟨p,rfl,c X⟩) rfl rfl rfl ?_;intro ts s;refine gU T (t:=3) s rfl ?_;intro ts g s;refine gT T (t:=0) s rfl ?_;intro ts g s;refine tB T (x0:=(3,false)) (x1:=(0,true)) s rfl ?_
 intro ts g r s b;refine BX T (t:=1) s rfl ?_;intro ts g p s c;refine mS T .source s rfl rfl (by simp only[TP,true_or,or_true]) (b.app g) (s.f (_,_) (T0 ..)) rfl (λX=>⟨p,rfl,c X⟩) rfl rfl rfl ?_;intro ts s;refine gU T (t:=3) s rfl ?_;intro ts g s;refine gT T (t:=3) s rfl ?_;intro ts g s;refine tB T (x0:=(3,false)) (x1:=(3,true)) s rfl ?_;intro ts g r s b;refine mS T .iV s rfl rfl (T0 ..) b rfl rfl (λ_=>rfl) rfl rfl rfl ?_;intro ts s;refine gU T (t:=3) s rfl ?_;intro ts g s;refine gT T (t:=3) s rfl ?_;intro ts g s;refine gT T (t:=3) s rfl ?_;intro ts g s;refine DK T (x0:=(3,false)) (x1:=(3,true)) (x2:=(3,true)) s rfl ?_
 intro ts g r s b;refine mS T .merge s rfl rfl (T0 ..) b rfl rfl (λ_=>rfl) rfl rfl rfl ?_;intro ts s;refine gU T (t:=4) s rfl ?_;intro ts g s;refine gT T (t:=3) s rfl ?_;intro ts g s;refine tB T (x0:=(4,false)) (x1:=(3,true)) s rfl ?_;intro ts g r s b;refine mS T .run s rfl rfl (T0 ..) b rfl rfl (λ_=>rfl) rfl rfl rfl ?_;intro ts s;refine gT T (t:=4) s rfl ?_;intro ts g s;refine qH T (x0:=(4,true)) s rfl ?_;intro ts g r s b;refine mS T .gJ s rfl rfl (T0 ..) b rfl rfl (λ_=>rfl) rfl rfl rfl ?_;intro ts s;refine gT T (t:=4) s rfl ?_;intro ts g s;refine qH T (x0:=(4,true)) s rfl ?_;intro ts g r s b
 refine mS T .fail s rfl rfl (T0 ..) b rfl rfl (λ_=>rfl) rfl rfl rfl ?_;intro ts s;refine gU T (t:=5) s rfl ?_;intro ts g s;refine gT T (t:=4) s rfl ?_;intro ts g s;refine tB T (x0:=(5,false)) (x1:=(4,true)) s rfl ?_;intro ts g r s b;refine mS T .gK s rfl rfl (T0 ..) b rfl rfl (λ_=>rfl) rfl rfl rfl ?_;intro ts s;refine gT T (t:=5) s rfl ?_;intro ts g s;refine qH T (x0:=(5,true)) s rfl ?_;intro ts g r s b;refine mS T .rel s rfl rfl (T0 ..) b rfl rfl (λ_=>rfl) rfl rfl rfl ?_;intro ts s;have hlen:=s.l;have t1:=s.m;refine Rs t1 ?_;exact⟨_,rJ,λd=>s.e d (by cases d<;>decide) _⟩
end
end Go.Abs
