/- A part of the proof that HouseLogs holds. No condition. -/
import Derived.Test.YtgplmdgpmbegiaaGreatDoorLo4
import Derived.Test.YtgplmdgpmbegiaaGreatDoorLo0
set_option maxHeartbeats 4000000
set_option linter.all false
open Nat (reduceAdd reduceMul reduceLeDiff reduceEqDiff)
namespace Go.Abs
def dZ:
  (∀{b o:Nat}{n:Option Nat}{X:af}{K:ai}(_:b=X.length),aq n (.ptr b o) (λz=>(X++[K])[z]?)=dI n o K)/\
  (∀{b o:Nat}{n:Option Nat}{X a:af}(_:b<X.length),aq n (.ptr b o) (λz=>(X++a)[z]?)=aq n (.ptr b o) (λz=>X[z]?))/\
  (∀{b o y:Nat}{v:AV}{X:af}{K:ai}(_:b=X.length),bC y (.ptr b o) v (λz=>(X++[K])[z]?)=jq y o v b K)/\
  (∀{b o y:Nat}{v:AV}{X a:af}(_:b<X.length),bC y (.ptr b o) v (λz=>(X++a)[z]?)=bC y (.ptr b o) v (λz=>X[z]?))/\
  (∀{b:Nat}{X:af}{K K':ai}(_:b=X.length),(X++[K]).set b K' =X++[K'])/\
  (∀{b:Nat}{X a:af}{K':ai}(_:b<X.length),(X++a).set b K' =X.set b K'++a)/\
  (∀{b pos:Nat}{s:By}{X:af}(_:b=X.length),fa (.ptr b 0) (λz=>(X++[.iter s pos])[z]?)=dF b s pos)/\
  (∀{b:Nat}{X a:af}(_:b<X.length),fa (.ptr b 0) (λz=>(X++a)[z]?)=fa (.ptr b 0) (λz=>X[z]?)):=by
 refine⟨λh=>?_,λh=>?_,λh=>?_,λh=>?_,λh=>?_,λh=>?_,λh=>?_,λh=>?_⟩
 ·subst h;exact az bO
 ·simp only[aq,cN _ h]
 ·subst h;exact bp bO
 ·simp only[bC,cN _ h]
 ·subst h;exact wF
 ·exact dY _ _ h
 ·subst h;exact dh bO
 ·simp only[fa,cN _ h]
end Go.Abs
namespace Go.Abs
def lq{h':af}{X:ai}{g:af}{n:Nat}(hn:h'.length=n):(h'++[X]++g)[n]? =some X:=by
 subst hn;exact HW
def pG{h':af}{X Y:ai}{g:af}{n:Nat}(hn:h'.length=n):(h'++[X]++g).set n Y=h'++[Y]++g:=by
 subst hn;rw[Uf,U0 _ _ (Uq _),Vb,Uf];rfl
structure Iter(P:Program)(f:FuncId)(a c:List AV)(L:List (List AV))(pre:af->Prop):Prop where
 run:∀(l:Nat) (h:af) (J:Nat->af->Prop) (D:af->Prop),(∀i k,J i k->pre k)->(∀i k g,J i k->J i (k++g))->
  (∀i (hi:i<L.length) k,J i k->∃b k',eG P (.func (.yield l) [] []) L[i] k (.bool b) k'/\(if b=true then J (i+1) k' else D k'))->
  (∀k,J L.length k->D k)->J 0 h->c9 P f (a++[.func (.yield l) [] []]++c) h (λ_ k=>D k)
section
variable {P:Program}{ks:List Kt}{ts:TS}{h:af}{Q:Ex->TS->af->Prop}
def WC.iter(hmix:P.follows .mixedOrders=true){f A a c L pre g ps asg body}(hA:bz P f=some A)
  (hg:val ts g=.func (.func f) a c) (hi:Iter P f a c L pre) (hps:∀x∈L,x.length=ps.length) (I:Nat->af->af->Prop) (Fin:Ex->af->af->Prop)
  (h0:I 0 h []) (hcl:∀i h' g g2,I i h' g->I i h' (g++g2)) (hpre:∀i h' g X,h'.length=h.length->I i h' g->pre (h'++[X]++g))
  (step:∀i (hi:i<L.length) h' g (R B:ai),h'.length=h.length->I i h' g->
   WC P AM asg [] (setArgs ts ps L[i]) (h'++[R]++g) λe1 Q4 h2=>e1=.normal/\∃h1 g1,h2=h1++[R]++g1/\h1.length=h.length/\
    WC P AM body [] Q4 (h1++[B]++g1) λe2 _ h4=>∃h3 g3,h4=h3++[B]++g3/\h3.length=h.length/\(if e2=.normal then I (i+1) h3 g3 else Fin e2 h3 g3))
  (done:∀e h' g,h'.length=h.length->(if e=.normal then I L.length h' g else Fin e h' g)->WE P cB e ks ts (h'++[ai.dead]++g) Q):WC P cB (.ft g ps asg body) ks ts h Q:=by
 let J:Nat->af->Prop:=λi k=>∃h' g,k=h'++[.loop .ready .normal ts ps asg body]++g/\h'.length=h.length/\I i h' g
 let D:af->Prop:=λk=>∃e h' g st,k=h'++[.loop st e ts ps asg body]++g/\h'.length=h.length/\st≠.busy/\(if e=.normal then I L.length h' g else Fin e h' g)
 obtain⟨v,h2,hs,e,h',g',st,rfl,hl,bE,PF⟩:=hi.run h.length (h++[.loop .ready .normal ts ps asg body]) J D
  (λi k hJ=>by obtain⟨h',g,rfl,h1,h2⟩:=hJ;exact hpre i h' g _ h1 h2)
  (λi k g2 hJ=>by obtain⟨h',g,rfl,h1,h2⟩:=hJ;exact⟨h',g++g2,by rw[Uf],h1,hcl _ _ _ _ h2⟩)
  (λi hi k hJ=>by
   obtain⟨h',g,rfl,h1,h2⟩:=hJ;obtain⟨e1,Q4,k2,q1,rfl,h3,g3,rfl,h4,q2⟩:=W.sound hmix (step i hi h' g (.loop .ready .normal ts ps asg body) (.loop .busy .normal ts ps asg body) h1 h2);obtain⟨e2,ts3,k3,q3,h5,g5,rfl,h6,q4⟩:=W.sound hmix q2;have hy:eG P (.func (.yield h.length) [] []) L[i] (h'++[.loop .ready .normal ts ps asg body]++g) (.bool (decide (e2=.normal))) (List.set (h5++[ai.loop .busy .normal ts ps asg body]++g5) h.length (ai.loop (if e2=.normal then .ready else .done) e2 ts ps asg body)):=
    eG.yield (lq h1) (hps _ (UB hi)) (λr=>q1 (some r) ⟨r,rfl⟩) (lq h4) (λr=>by rw[pG h4];exact q3 (some r) ⟨r,rfl⟩) (lq h6)
   rw[pG h6]at hy;refine⟨decide (e2=.normal),_,hy,?_⟩;by_cases he:e2=.normal
   ·exact H7
   ·rw[Ur he]at q4;simp only[he,Va,U3,UC];exact⟨e2,h5,g5,.done,rfl,h6,Si,by rw[Ur he];exact q4⟩)
  (λk hJ=>by obtain⟨h',g,rfl,h1,h2⟩:=hJ;exact⟨.normal,h',g,.ready,rfl,h1,Si,by rw[Ut rfl];exact h2⟩)
  ⟨h,[],by rw[UE],rfl,h0⟩
 exact z49
end
end Go.Abs
namespace Go.Abs
theorem sZ:∀(l c pre:List AV),c.length=l.length->fq (pre++c) pre.length l=pre++l
 |[],c,pre,h=>by
  exact z175
 |x::l,[],pre,h=>by simp at h
 |x::l,y::c,pre,h=>by
  have e1:(pre++y::c).set pre.length x=(pre++[x])++c:=by
   exact HU
  have e2:pre.length+1=(pre++[x]).length:=Si
  rw[nf,e1,e2,sZ l c (pre++[x]) (by simpa using h),Uf];rfl
theorem n9{es:Nat}{v:AV}:∀{cs:List (List AV)},(∀x∈cs,x.length=es)->∀{i off:Nat}(hi:i<cs.length),off<es->cs.flatten.set (i*es+off) v=(cs.set i (cs[i].set off v)).flatten
 |[],_,i,off,hi,_=>absurd hi (Nat.not_lt_zero _)
 |c::cs,h,0,off,hi,ho=>by
  have hc:c.length=es:=h c (U4 ..);rw[Vj,Wk,UX,List.set_append_left _ _ Om];rfl
 |c::cs,h,i+1,off,hi,ho=>by
  have hc:c.length=es:=h c (U4 ..);have h1:=n9 (v:=v) (cs:=cs) (λx hx=>h x (UL _ hx)) (i:=i) (off:=off) (by simpa using hi) ho;rw[Vj,U0 _ _ (by rw[Vv];omega),show(i+1)*es+off-c.length=i*es+off by rw[Vv];omega,h1];rfl
def l9{es w N0 n:Nat}{z:List AV}{k k':IntKind}(h1:w*n<=2^48)(h2:n<2^63):qP es w z (.int k n) (.int k' n) N0=some (.slice N0 0 n es,.push (.cells (du n z) true true)):=by
 simp only[qP];rw[Ut ⟨Om,Om,by exact_mod_cast h1,by exact_mod_cast h2⟩];rfl
def Fr.zd{N n es h z}(hN:N<=h.length)(hz:z.length=es):Fr N (h++[.cells (du n z) true true]) (.slice h.length 0 n es) es (List.replicate n z):=by
 have:=Fr.push (h:=h) (es:=es) hN (List.replicate n z) (λx hx=>by rw[(List.mem_replicate.1 hx).2];exact hz);rw[Vn]at this;exact this
section
variable {P:Program}{ro:Option Nat->Prop}{ks:List Kt}{ts:TS}{Q:Ex->TS->af->Prop}{d:Option Nat}{l:List bo}
def WR.JX{q N b es w h y ys}(hb:h[b]? =some (.cells [] true false))(hN:N<=b)(hy:aB h y es ys)(dO:ys.length*w<=2^46)
  (K:∀s' g,Fr N (h++g) s' es ys->WP P ro l ks (put ts d s') (h++g) Q):WR P ro (nE es w (.slice b 0 0 es) y (λb=>h[b]?) h.length) q d l ks ts h Q:=by
 have hbl:b<h.length:=(Ue.1 hb).1;simp only[nE,hy.eE,UD];by_cases hk:ys.length=0
 ·have hys:ys=[]:=Vd.1 hk;subst hys;simp only[Ul,UD,List.flatten_nil,List.isEmpty_nil];rw[gV];have:=K (.slice b 0 0 es) [] (by rw[UE];exact Fr.mk (cs:=[]) hN hb Si)
  rwa [UE]at this
 ·simp only[Ur hk,UX,Ut dO,hb];rw[Ut Si,kI];exact K _ _ (Fr.push Om ys hy.rows)
def WR.tu{α:Type}{row:α->List AV}{L:List α}{h0 g:af}{s v:AV}{es i off:Nat}{x':α}(hs:Fr h0.length (h0++g) s es (L.map row))(hi:i<L.length)(ho:off<es)(hv:v.one=true)(hx:row x' =(row L[i]).set off v)
  (K:∀g',g'.length=g.length->Fr h0.length (h0++g') s es ((L.set i x').map row)->(∀b,(∀b0 o n e,s=.slice b0 o n e->b≠b0)->(h0++g')[b]? =(h0++g)[b]?)->WP P ro l ks (put ts d au) (h0++g') Q):
  WR P ro (bC 1 (rk s es i off) v (λb=>(h0++g)[b]?)) false d l ks ts (h0++g) Q:=by
 have Po:=hs.aM.rows;generalize Qp:L.map row=cs at hs;have hcl:cs.length=L.length:=by rw[<-Qp,Uv]
 cases hs with
 |nil=>simp at hcl;omega
 | @mk b _ _ tl hN hb he=>
  have O1:=dV he;have hie:i*es+off<cs.flatten.length:=by
   rw[O1,hcl];have:(i+1)*es<=L.length*es:=Vf _ hi;rw[Vv]at this;omega
  have aR:cs.flatten.set (i*es+off) v=((L.set i x').map row).flatten:=by
   have:=n9 (v:=v) he (i:=i) (off:=off) Om ho;rw[this,List.map_set,hx,Qp];congr 2;simp[<-Qp]
  have hbl:b<(h0++g).length:=(Ue.1 hb).1;show WR P ro (bC 1 (.ptr b (0+i*es+off)) v (λb=>(h0++g)[b]?)) false d l ks ts (h0++g) Q;rw[UX,bp hb,fC hv Om,p4,aR,U0 _ _ hN];refine K _ Si ?_ λb' hb'=>?_
  ·have hl2:((L.set i x').map row).length=cs.length:=by simp[hcl]
   rw[<-hl2];refine Fr.mk hN (tl:=tl) ?_ λy hy=>?_
   ·exact z131
   ·rw[List.map_set]at hy;rcases Wg hy with hy|hy
    ·exact he y (by rw[<-Qp];exact hy)
    ·rw[hy,hx,VA];exact he _ (by rw[<-Qp];exact UP (UB hi))
  ·exact Ib
def WR.JO{h0 g s sy es cs ys x y}(hx:val ts x=s)(hy:val ts y=sy)(hs:Fr h0.length (h0++g) s es cs)(hsy:aB (h0++g) sy es ys)(hl:cs.length=ys.length)
  (K:∀g' v,g'.length=g.length->Fr h0.length (h0++g') s es ys->(∀b,(∀b0 o n e,s=.slice b0 o n e->b≠b0)->(h0++g')[b]? =(h0++g)[b]?)->WP P ro l ks (put ts d v) (h0++g') Q):
  WR P ro (stepT (.xH es x y) (val ts) (λb=>(h0++g)[b]?) (h0++g).length) false d l ks ts (h0++g) Q:=by
 simp only[stepT,lz,hx,hy,hsy.eE];have Qa:=dV hsy.rows;cases hs with
 |nil=>
  have:ys=[]:=Vd.1 hl.symm;subst this;simp only;rw[gV];exact K g _ rfl .nil λ_ _=>rfl
 | @mk b _ _ tl hN hb he=>
  have hcl:=dV he;have QY:min ys.length cs.length=ys.length:=Om
  simp only[UD,QY];by_cases hk:ys.length=0
  ·have hys:ys=[]:=Vd.1 hk;have Qp:cs=[]:=Vd.1 Om;subst hys;subst Qp;simp only[Ul,UD];rw[gV];exact K g _ rfl (Fr.mk (cs:=[]) hN hb Si) λ_ _=>rfl
  ·have hbl:b<(h0++g).length:=(Ue.1 hb).1;simp only[Ur hk,hb,UX];rw[Ut (by rw[hcl,hl];omega),p4];have aR:fq cs.flatten 0 (ys.flatten.take (ys.length*es))=ys.flatten:=by
    rw[<-Qa,UU];have:=sZ ys.flatten cs.flatten [] (by rw[hcl,Qa,hl])
    simpa using this
   rw[aR,U0 _ _ hN];refine K _ _ Si ?_ λb' hb'=>?_
   ·rw[hl];refine Fr.mk hN (tl:=tl) ?_ hsy.rows;exact z131
   ·exact Ib
end
end Go.Abs
namespace Go.Abs
section
variable (P:Program) (ro:Option Nat->Prop)
def WQ(l:List bo)(cs:List Acc)(ks:List Kt)(ts:TS)(h:af)(Q:Ex->TS->af->Prop):Prop:=y8 h l ts cs λts' cs=>ef cs/\kq P ro ks Q .normal ts' (dz h cs)
def E0(r:Option AV)(d:Option Nat)(l:List bo)(cs:List Acc)(ks:List Kt)(ts:TS)(h:af)(Q:Ex->TS->af->Prop):Prop:=
 match r with
 |some v=>WQ P ro l cs ks (put ts d v) h Q
 |none=>False
def MH(a:AV)(r:Option (AV×gL))(d:Option Nat)(l:List bo)(cs:List Acc)(ks:List Kt)(ts:TS)(h:af)(Q:Ex->TS->af->Prop):Prop:=
 match a,r with
 |.ptr b _,some (v,.ar)=>WQ P ro l (cs++[.rd b]) ks (put ts d v) h Q
 |_,_=>False
def MG(a:AV)(r:Option (AV×gL))(d:Option Nat)(l:List bo)(cs:List Acc)(ks:List Kt)(ts:TS)(h:af)(Q:Ex->TS->af->Prop):Prop:=
 match a,r with
 |.ptr _ _,some (v,.set b k)=>WQ P ro l (cs++[.wr b k]) ks (put ts d v) h Q
 |_,_=>False
def Ku(a:AV)(b q:Bool)(k:mU)(d:Option Nat)(l:List bo)(cs:List Acc)(ks:List Kt)(ts:TS)(h:af)(Q:Ex->TS->af->Prop):Prop:=
 match a with
 |.bool t=>if t=b then WQ P ro ({dst:=d,k:=k,gd:=none,q:=q} ::l) cs ks ts h Q else WQ P ro l cs ks (put ts d au) h Q
 |_=>WQ P ro l cs ks (put ts d au) h Q
end
section
variable {P:Program}{ro:Option Nat->Prop}{ks:List Kt}{ts:TS}{h:af}{Q:Ex->TS->af->Prop}{d:Option Nat}{q:Bool}{l:List bo}{cs:List Acc}
def oP:WC P ro (.qd l) ks ts h Q=WQ P ro l [] ks ts h Q:=rfl
def BA:WQ P ro [] cs ks ts h Q=(ef cs/\WE P ro .normal ks ts (dz h cs) Q):=rfl
def mP{v}:E0 P ro (some v) d l cs ks ts h Q=WQ P ro l cs ks (put ts d v) h Q:=rfl
def mR{v b o}:MH P ro (.ptr b o) (some (v,.ar)) d l cs ks ts h Q=WQ P ro l (cs++[.rd b]) ks (put ts d v) h Q:=rfl
def mQ{v b b' o k}:MG P ro (.ptr b o) (some (v,.set b' k)) d l cs ks ts h Q=WQ P ro l (cs++[.wr b' k]) ks (put ts d v) h Q:=rfl
def jF{k}(hp:eV k=true){r}(hr:stepT k (val ts) (λz=>h[z]?) h.length=r.map λv=>(v,.ar)):
  WQ P ro ({dst:=d,k:=k,gd:=none,q:=q} ::l) cs ks ts h Q=E0 P ro r d l cs ks ts h Q:=by
 apply propext
 constructor
 ·rintro⟨v,c,⟨hn,_⟩|⟨_,hs⟩,H⟩
  ·exact absurd trivial hn
  rcases hs with⟨_,rfl,hs⟩|⟨n,a,b,off,hk,_⟩|⟨n,a,x,b,off,k',hk,_⟩
  ·have hs:stepT k (val ts) (λz=>h[z]?) h.length=some (v,.ar):=hs;rw[hr]at hs;cases r with
   |none=>cases hs
   |some v'=>cases hs;exact H
  ·have hk:k=.load n a:=hk;rw[hk]at hp;cases hp
  ·have hk:k=.store n a x:=hk;rw[hk]at hp;cases hp
 ·intro H;cases r with
  |none=>exact H.elim
  |some v=>exact⟨v,.no,.inr ⟨trivial,.inl ⟨hp,rfl,hr⟩⟩,H⟩
def oN{n a}:WQ P ro ({dst:=d,k:=.load n a,gd:=none,q:=q} ::l) cs ks ts h Q=MH P ro (val ts a) (aq n (val ts a) (λz=>h[z]?)) d l cs ks ts h Q:=by
 apply propext
 constructor
 ·rintro⟨v,c,⟨hn,_⟩|⟨_,hs⟩,H⟩
  ·exact absurd trivial hn
  rcases hs with⟨hp,_⟩|⟨n',a',b,off,hk,ha,rfl,hs⟩|⟨n',a',x,b,off,k',hk,_⟩
  ·cases hp
  ·cases hk;have hs:aq n (val ts a) (λz=>h[z]?)=some (v,.ar):=hs;rw[hs,ha];exact H
  ·cases hk
 ·intro H;unfold MH at H;split at H
  ·rename_i b o v ha hr;exact⟨v,.rd b,.inr ⟨trivial,.inr (.inl ⟨n,a,b,o,rfl,ha,rfl,hr⟩)⟩,H⟩
  ·exact H.elim
def mN{n a x}:WQ P ro ({dst:=d,k:=.store n a x,gd:=none,q:=q} ::l) cs ks ts h Q=MG P ro (val ts a) (bC n (val ts a) (val ts x) (λz=>h[z]?)) d l cs ks ts h Q:=by
 apply propext
 constructor
 ·rintro⟨v,c,⟨hn,_⟩|⟨_,hs⟩,H⟩
  ·exact absurd trivial hn
  rcases hs with⟨hp,_⟩|⟨n',a',b,off,hk,_⟩|⟨n',a',x',b,off,k',hk,ha,rfl,hs⟩
  ·cases hp
  ·cases hk
  ·cases hk;have hs:bC n (val ts a) (val ts x) (λz=>h[z]?)=some (v,.set b k'):=hs;rw[hs,ha];exact H
 ·intro H;unfold MG at H;split at H
  ·rename_i b o v b' k ha hr;have hb:b' =b:=by
    rw[ha]at hr;simp only[bC]at hr;split at hr
    ·split at hr
     ·cases hr;rfl
     ·cases hr
    ·cases hr
   subst hb;exact⟨v,.wr b' k,(.inr ⟨trivial,.inr (.inr ⟨n,a,x,b',o,k,rfl,ha,rfl,hr⟩)⟩),H⟩
  ·exact H.elim
def xQ{k g b}:WQ P ro ({dst:=d,k:=k,gd:=some (g,b),q:=q} ::l) cs ks ts h Q=Ku P ro (val ts (.t g)) b q k d l cs ks ts h Q:=by
 have key:∀t:Bool,val ts (.t g)=.bool t->(wanted (some (g,b)) ts↔t=b):=λt hg=>by
  show ts[g]? =some (.bool b)↔_;have hg:ts.getD g au=.bool t:=hg;have e:ts[g]? =some (.bool t):=by
   rw[UQ]at hg;cases hx:ts[g]? with
   |none=>rw[hx]at hg;cases hg
   |some y=>rw[hx]at hg;exact UM some hg
  rw[e];simp
 have neg:(∀t,val ts (.t g)≠.bool t)->¬wanted (some (g,b)) ts:=λhn hw=>by
  have hw:ts[g]? =some (.bool b):=hw;exact hn b (by show ts.getD g au=_;rw[UQ,hw];rfl)
 have no:¬wanted (some (g,b)) ts->WQ P ro ({dst:=d,k:=k,gd:=some (g,b),q:=q} ::l) cs ks ts h Q=WQ P ro l cs ks (put ts d au) h Q:=λhy=>by
  apply propext
  constructor
  ·rintro⟨v,c,⟨_,rfl,rfl⟩|⟨hn,hs⟩,H⟩
   ·exact H
   ·exact absurd hn hy
  ·intro H;exact⟨au,.no,.inl ⟨hy,rfl,rfl⟩,H⟩
 unfold Ku;split
 ·rename_i t ht;have hw:=key t ht;by_cases e:t=b
  ·rw[Ut e];have hy:=hw.2 e
   apply propext
   constructor
   ·rintro⟨v,c,⟨hn,_⟩|⟨_,hs⟩,H⟩
    ·exact absurd hy hn
    ·exact⟨v,c,.inr ⟨trivial,hs⟩,H⟩
   ·rintro⟨v,c,⟨hn,_⟩|⟨_,hs⟩,H⟩
    ·exact absurd trivial hn
    ·exact⟨v,c,.inr ⟨hy,hs⟩,H⟩
  ·rw[Ur e];exact no λz=>e (hw.1 z)
 ·rename_i hn;exact no (neg hn)
def sF{k}:Ku P ro (.bool true) true q k d l cs ks ts h Q=WQ P ro ({dst:=d,k:=k,gd:=none,q:=q} ::l) cs ks ts h Q:=rfl
def sG{k}:Ku P ro (.bool false) true q k d l cs ks ts h Q=WQ P ro l cs ks (put ts d au) h Q:=rfl
def oM{c a b}:WQ P ro ({dst:=d,k:=.pick c a b,gd:=none,q:=q} ::l) cs ks ts h Q=E0 P ro (qI (val ts c) (val ts a) (val ts b)) d l cs ks ts h Q:=by
 refine jF rfl ?_;simp only[stepT,lz,qI];cases val ts c<;>rfl
def mO{x}:WQ P ro ({dst:=d,k:=.len .sl x,gd:=none,q:=q} ::l) cs ks ts h Q=E0 P ro (rW (iC .sl (λb=>h[b]?) (val ts x))) d l cs ks ts h Q:=by
 refine jF rfl ?_;simp only[stepT,lz,rW];cases iC .sl (λb=>h[b]?) (val ts x)<;>rfl
def sD{x}:WQ P ro ({dst:=d,k:=.dq x,gd:=none,q:=q} ::l) cs ks ts h Q=WQ P ro l cs ks (put ts d (val ts x)) h Q:=jF (r:=some (val ts x)) rfl rfl
def sE{op x y}:WQ P ro ({dst:=d,k:=.bin op x y,gd:=none,q:=q} ::l) cs ks ts h Q=E0 P ro (dM op (val ts x) (val ts y)) d l cs ks ts h Q:=by
 refine jF rfl ?_;exact z162
def xP{op x}:WQ P ro ({dst:=d,k:=.un op x,gd:=none,q:=q} ::l) cs ks ts h Q=E0 P ro (uW op (val ts x)) d l cs ks ts h Q:=by
 refine jF rfl ?_;simp only[stepT,lz];cases uW op (val ts x)<;>rfl
def oO{off x}:WQ P ro ({dst:=d,k:=.bP off x,gd:=none,q:=q} ::l) cs ks ts h Q=E0 P ro (rj off (val ts x)) d l cs ks ts h Q:=by
 refine jF rfl ?_;simp only[stepT,lz,rj];cases val ts x<;>rfl
def kJ{x}:WQ P ro ({dst:=d,k:=.bu x,gd:=none,q:=q} ::l) cs ks ts h Q=E0 P ro (ow (val ts x)) d l cs ks ts h Q:=by
 refine jF rfl ?_;exact z116
end
def sj{a:List Acc}:[]++a=a:=rfl
def si{c:Acc}{a b:List Acc}:(c::a)++b=c:: (a++b):=rfl
def mM{h}:dz h []=h:=rfl
def mL{h b cs}:dz h (.rd b::cs)=dz h cs:=rfl
def mJ{h b k cs}:dz h (.wr b k::cs)=dz (h.set b k) cs:=rfl
def yP(b:Nat)(cs:List Acc):Prop:=∀x∈cs,x.dU≠some b
def mI(b:Nat)(cs:List Acc):Prop:=∀x∈cs,∀k,x≠Acc.wr b k
def G3{b}:yP b []=True:=Xd λx hx=>by cases hx
def G4{b c cs}:yP b (c::cs)=(c.dU≠some b/\yP b cs):=by
 simp[yP]
def DM{b}:mI b []=True:=Xd λx hx=>by cases hx
def DL{b b' cs}:mI b (.rd b'::cs)=mI b cs:=by
 simp[mI]
def DK{b b' k cs}:mI b (.wr b' k::cs)=(b'≠b/\mI b cs):=by
 unfold mI;simp only[UR,forall_eq_or_imp];refine propext ⟨λh=>⟨λe=>h.1 k (by rw[e]),h.2⟩,λh=>⟨λk' e=>h.1 (by cases e;rfl),h.2⟩⟩
def DJ:ef []=True:=rfl
def DI{b cs}:ef (.rd b::cs)=(mI b cs/\ef cs):=by
 unfold mI;simp only[ef,Acc.dU,UG];refine propext ⟨λh=>⟨λx hx k hk=>h.1 b rfl x hx (by rw[hk]) k k (.inr hk),h.2⟩,λh=>⟨λb' e x hx _ k k' hk=>?_,h.2⟩⟩;subst e;rcases hk with hk|hk
 ·cases hk
 ·exact h.1 x hx k' hk
def DH{b k cs}:ef (.wr b k::cs)=(yP b cs/\ef cs):=by
 unfold yP;simp only[ef,Acc.dU,UG];refine propext ⟨λh=>⟨λx hx hk=>h.1 b rfl x hx hk k k (.inl rfl),h.2⟩,λh=>⟨λb' e x hx hk _ _ _=>?_,h.2⟩⟩;subst e;exact h.1 x hx hk
def JS{b}:(Acc.rd b).dU=some b:=rfl
def JR{b k}:(Acc.wr b k).dU=some b:=rfl
def bj:
  (∀{ts:TS}{i j:Nat}{v:AV}(_:(i=j)=False),slot (ts.set i v) j=slot ts j)/\
  (∀{ts:TS}{i:Nat}{v:AV}(_:i+1<=ts.length),slot (ts.set i v) i=v)/\
  (∀{ts:TS}{i:Nat}{X:Prop}(_:i+1<=ts.length),Jr ts[i]? X=X)/\
  (∀{ts:TS}{i:Nat}{v:AV},(ts.set i v).length=ts.length)/\
  (∀{u:TypeId}{x:AV}{G:Nat->Option ai}{N:Nat},kU (.sN u) x G N=some (.sN u x,.ar)):=by
 refine⟨λ{ts i j v} h=>?_,λ{ts i v} h=>?_,λ{ts i X} h=>by rw[Uj h];rfl,λ{ts i v}=>VA,rfl⟩
 ·have hne:i≠j:=λe=>by rw[<-h];exact e
  unfold slot;rw[List.getD,List.getD,U1 hne]
 ·unfold slot;rw[List.getD,UY h];rfl
end Go.Abs
namespace Go.Abs
abbrev ai.b(l:List AV):ai:=.cells l true false
abbrev AV.i(n:Int):AV:=.int .i64 n
def Rs{A B F:Prop}(f:F)(b:B)(e:F->(B->A)/\(∃x:Prop,x=B):=by(intro f;refine⟨λb=>?_,?_⟩;(focus (repeat (first|simp (config:={maxSteps:=1000000}) only[aL,aR,bd,bf,reduceAdd,reduceMul,reduceLeDiff,reduceEqDiff,bj,hlen,UC,UD,f]|simp (config:={maxSteps:=1000000}) (disch:=first|(simp only[Ud,Ui,Ul]<;>omega)|rfl|omega|fail) only[dZ,aL,aR,bd,bf,reduceAdd,reduceMul,reduceLeDiff,reduceEqDiff,bj,hlen,UC,UD,f]));all_goals exact b);first|exact⟨True,rfl⟩|exact⟨_,rfl⟩)):A:=(e f).1 b
def N8{A B F:Prop}(f:F)(b:B)(e:F->(B->A)/\(∃x:Prop,x=B):=by(intro f;refine⟨λb=>?_,?_⟩;(focus (repeat (first|simp (config:={maxSteps:=1000000}) only[aL,aR,bd,bf,reduceAdd,reduceMul,reduceLeDiff,reduceEqDiff,bj,hlen,UC,UD,reduceCtorEq,f]|simp (config:={maxSteps:=1000000}) (disch:=first|(simp only[Ud,Ui,Ul]<;>omega)|rfl|omega|fail) only[dZ,aL,aR,bd,bf,reduceAdd,reduceMul,reduceLeDiff,reduceEqDiff,bj,hlen,UC,UD,reduceCtorEq,f]));all_goals exact b);first|exact⟨True,rfl⟩|exact⟨_,rfl⟩)):A:=(e f).1 b
def Zs{A B F:Prop}(f:F)(b:B)(e:F->(B->A)/\(∃x:Prop,x=B):=by(intro f;refine⟨λb=>?_,?_⟩;(focus (simp only[aL,aR,bd,bf,reduceAdd,reduceMul,reduceLeDiff,reduceEqDiff,bj,hlen,UC,UD,f]);all_goals exact b);first|exact⟨True,rfl⟩|exact⟨_,rfl⟩)):A:=(e f).1 b
def Ws{A B F:Prop}(f:F)(b:B)(e:F->(B->A)/\(∃x:Prop,x=B):=by(intro f;refine⟨λb=>?_,?_⟩;(focus (simp only[aL,aR,bd,bf,reduceAdd,reduceMul,reduceLeDiff,reduceEqDiff,UD,UC,f]);all_goals exact b);first|exact⟨True,rfl⟩|exact⟨_,rfl⟩)):A:=(e f).1 b
def Wn{A B:Prop}(b:B)(e:(B->A)/\(∃x:Prop,x=B):=by(refine⟨λb=>?_,?_⟩;(focus (simp only[aL,aR,bd,bf,reduceAdd,reduceMul,reduceLeDiff,reduceEqDiff,UD,UC]);all_goals exact b);first|exact⟨True,rfl⟩|exact⟨_,rfl⟩)):A:=e.1 b
def Sq{A F:Prop}(f:F)(e:F->A:=by(intro f;simp only[aL,aR,bd,bf,reduceAdd,reduceMul,reduceLeDiff,reduceEqDiff,bj,hlen,UC,UD,f])):A:=e f
def Sw{A:Prop}(e:A:=by simp only[aL,aR,bd,bf,reduceAdd,reduceMul,reduceLeDiff,reduceEqDiff,bj,hlen,UC,UD]):A:=e
def N6{A F:Prop}(f:F)(e:F->A:=by(intro f;(simp only[aL,aR,bd,bf,reduceAdd,reduceMul,reduceLeDiff,reduceEqDiff,bj,hlen,UC,UD,f];rfl))):A:=e f
def iR{A:Prop}(e:A:=by(simp only[aL,aR,bd,bf,reduceAdd,reduceMul,reduceLeDiff,reduceEqDiff,bj,hlen,UC,UD];rfl)):A:=e
def Sn{A:Prop}(e:A:=by simp only[bj,hlen]):A:=e
def Xx{A:Prop}(e:A:=by repeat first|with_reducible exact Ext.refl _|refine Ext.app _ ?_):A:=e
def ak.NX{P:Program}{h:af}(nt:Nat)(hmix:P.follows .mixedOrders=true){f:FuncId}{A:aj}(hA:bz P f=some A){R:AV->af->Prop}(H:∀ts:TS,ts.length=nt->WC P cB A.body [] ts h (FQ A.rs (λv h'=>Ext h h'/\R v h')))(hn:A.nt=nt:=by rfl)(hl:(aQ nt []).length=nt:=by rfl):ak P f [] h R:=by
 subst hn;exact .of hmix hA (H (aQ A.nt []) hl)
def ak.jP{P:Program}{h:af}(nt:Nat)(hmix:P.follows .mixedOrders=true){f:FuncId}{A:aj}(hA:bz P f=some A){a0:AV}{R:AV->af->Prop}(H:∀ts:TS,ts.length=nt->slot ts 0=a0->WC P cB A.body [] ts h (FQ A.rs (λv h'=>Ext h h'/\R v h')))(hn:A.nt=nt:=by rfl)(hl:(aQ nt [a0]).length=nt:=by rfl):ak P f [a0] h R:=by
 subst hn;exact .of hmix hA (H (aQ A.nt [a0]) hl rfl)
def ak.eQ{P:Program}{h:af}(nt:Nat)(hmix:P.follows .mixedOrders=true){f:FuncId}{A:aj}(hA:bz P f=some A){a0 a1:AV}{R:AV->af->Prop}(H:∀ts:TS,ts.length=nt->slot ts 0=a0->slot ts 1=a1->WC P cB A.body [] ts h (FQ A.rs (λv h'=>Ext h h'/\R v h')))(hn:A.nt=nt:=by rfl)(hl:(aQ nt [a0,a1]).length=nt:=by rfl):ak P f [a0,a1] h R:=by
 exact z164
def c9.eQ{P:Program}{h:af}(nt:Nat)(hmix:P.follows .mixedOrders=true){f:FuncId}{A:aj}(hA:bz P f=some A){a0 a1:AV}{R:AV->af->Prop}(H:∀ts:TS,ts.length=nt->slot ts 0=a0->slot ts 1=a1->WC P cB A.body [] ts h (FQ A.rs (R)))(hn:A.nt=nt:=by rfl)(hl:(aQ nt [a0,a1]).length=nt:=by rfl):c9 P f [a0,a1] h R:=by
 exact z164
def ak.uP{P:Program}{h:af}(nt:Nat)(hmix:P.follows .mixedOrders=true){f:FuncId}{A:aj}(hA:bz P f=some A){a0 a1 a2:AV}{R:AV->af->Prop}(H:∀ts:TS,ts.length=nt->slot ts 0=a0->slot ts 1=a1->slot ts 2=a2->WC P cB A.body [] ts h (FQ A.rs (λv h'=>Ext h h'/\R v h')))(hn:A.nt=nt:=by rfl)(hl:(aQ nt [a0,a1,a2]).length=nt:=by rfl):ak P f [a0,a1,a2] h R:=by
 exact z146
def c9.uP{P:Program}{h:af}(nt:Nat)(hmix:P.follows .mixedOrders=true){f:FuncId}{A:aj}(hA:bz P f=some A){a0 a1 a2:AV}{R:AV->af->Prop}(H:∀ts:TS,ts.length=nt->slot ts 0=a0->slot ts 1=a1->slot ts 2=a2->WC P cB A.body [] ts h (FQ A.rs (R)))(hn:A.nt=nt:=by rfl)(hl:(aQ nt [a0,a1,a2]).length=nt:=by rfl):c9 P f [a0,a1,a2] h R:=by
 exact z146
def WF.ce{P:Program}{ro:Option Nat->Prop}{ks:List Kt}{ts:TS}{h:af}{Q:Ex->TS->af->Prop}{q:Bool}{f:FuncId}{A:aj}(hA:bz P f=some A){a c args:List AV}{d:Option Nat}{l:List bo}{V:AV}(H:ak P f (a++args++c) h (λv _=>v=V))(K:∀g,WP P ro l ks (put ts d V) (h++g) Q):WF P ro q (.func (.func f) a c) args d l ks ts h Q:=
 WF.res hA H λ_ g e=>e▸K g
def jg{W:af}{b:Nat}{B:ai}(h:W[b]? =some B){k:af}{n:Option Nat}{a:Nat}(e:Ext W k):aq n (.ptr b a) (λz=>k[z]?)=dI n a B:=az (e.some h)
def gh{k n:Nat}(h:k<n):decide ((k:Int)<(n:Int))=true:=Uk Om
def gG{k n:Nat}(h:¬k<n):decide ((k:Int)<(n:Int))=false:=Uh Om
def bB(c:Bool)(e:Int):Int:=if c then e else 0
def bn(n lo hi:Int):Int:=if n<lo\/hi<n then 3 else 0
def aO:List Int->Int
 |[]=>0
 |x::xs=>if x=0 then aO xs else x
def fE(c:UInt8):Bool:=(65<=c.toNat&&c.toNat<=90)||(97<=c.toNat&&c.toNat<=122)
def cj(c:UInt8):Bool:=48<=c.toNat&&c.toNat<=57
def iZ(c:UInt8):Bool:=fE c||cj c||c.toNat==95
def dG:By->Bool
 |[]=>false
 |c::r=>decide (r.length<24)&&fE c&&r.all iZ
inductive Kd where
 |fW
 |line
 |tape
 |iY
 |copy
 |accept
 |source
 |iP
 |merge
 |run
 |iW
 |fail
 |jd
 |rel
 deriving DecidableEq
def bw:Kd->By
 |.fW=>[117,110,100,111]
 |.line=>[108,105,110,101]
 |.tape=>[116,97,112,101]
 |.iY=>[115,104,111,116]
 |.copy=>[99,111,112,121]
 |.accept=>[97,99,99,101,112,116]
 |.source=>[115,111,117,114,99,101]
 |.iP=>[109,111,100,117,108,101]
 |.merge=>[109,101,114,103,101]
 |.run=>[114,117,110]
 |.iW=>[116,105,108,101]
 |.fail=>[102,97,105,108]
 |.jd=>[112,105,99,116,117,114,101]
 |.rel=>[114,101,108,101,97,115,101]
def EC:List Kd:=[.fW,.line,.tape,.iY,.copy,.accept,.source,.iP,.merge,.run,.iW,.fail,.jd,.rel]
def aC:Kd->List (Nat×Bool)
 |.fW=>[]
 |.line=>[(0,false)]
 |.tape=>[(1,false)]
 |.iY=>[(2,false),(0,true),(1,true)]
 |.copy=>[(1,true),(1,true)]
 |.accept=>[(0,true)]
 |.source=>[(3,false),(0,true)]
 |.iP=>[(3,false),(3,true)]
 |.merge=>[(3,false),(3,true),(3,true)]
 |.run=>[(4,false),(3,true)]
 |.iW=>[(4,true)]
 |.fail=>[(4,true)]
 |.jd=>[(5,false),(4,true)]
 |.rel=>[(5,true)]
def a8:Kd->Nat
 |.fW=>0
 |.line=>2
 |.tape=>2
 |.iY=>1
 |.copy=>1
 |.accept=>1
 |.source=>1
 |.iP=>2
 |.merge=>1
 |.run=>2
 |.iW=>3
 |.fail=>2
 |.jd=>1
 |.rel=>1
def eC(k:By):Option Kd:=EC.find? λd=>bw d==k
def kv(d:Kd):eC (bw d)=some d:=by cases d<;>rfl
def fj{k d}(h:eC k=some d):k=bw d:=by
 have:=W7 h;exact(eq_of_beq this).symm
def c7{k}(h:eC k=none)(d:Kd):k≠bw d:=by
 rintro rfl;rw[kv]at h;cases h
structure fp where
 num:Int
 kind:By
 names:List (By)
 ba:List Int
 text:By
structure jO where
 name:By
 want:Int
 acc:Bool
structure uU where
 name:By
 last:Int
structure kM where
 name:By
 line:By
 aK:List (By)
structure jH where
 name:By
 gives:By
 line:By
 bF:List (By)
structure mV where
 name:By
 mod:By
 b9:List Int
structure rv where
 name:By
 EF:By
 lA:Int
 rel:Bool
structure gB where
 tick:Int
 lines:List jO
 aK:List uU
 ao:List kM
 aJ:List jH
 aI:List mV
 aU:List rv
def gB.zero:gB:=⟨0,[],[],[],[],[],[]⟩
def Ci:jO:=⟨[],0,false⟩
def Lm:uU:=⟨[],0⟩
def FP:kM:=⟨[],[],[]⟩
def FU:jH:=⟨[],[],[],[]⟩
def Aq:mV:=⟨[],[],[]⟩
def FT:rv:=⟨[],[],0,false⟩
def bJ(l:List (By))(n:By):Nat:=l.findIdx λx=>decide (x=n)
def qh{α:Type}(f:α->By)(l:List α)(n:By)(d:α):α:=l.getD (bJ (l.map f) n) d
def jQ(R:gB):List (By):=R.lines.map jO.name
def kZ(R:gB):List (By):=R.aK.map uU.name
def o8(R:gB):List (By):=R.ao.map kM.name
def jX(R:gB):List (By):=R.aJ.map jH.name
def iT(R:gB):List (By):=R.aI.map mV.name
def lF(R:gB):List (By):=R.aU.map rv.name
def Hp(R:gB):Nat->List (By)
 | 0=>jQ R
 | 1=>kZ R
 | 2=>o8 R
 | 3=>jX R
 | 4=>iT R
 |_=>lF R
def fP(R:gB)(n:By):jO:=qh jO.name R.lines n Ci
def jJ(R:gB)(n:By):uU:=qh uU.name R.aK n Lm
def sX(R:gB)(n:By):kM:=qh kM.name R.ao n FP
def tK(R:gB)(n:By):jH:=qh jH.name R.aJ n FU
def iD(R:gB)(n:By):mV:=qh mV.name R.aI n Aq
def lV(R:gB)(n:By):rv:=qh rv.name R.aU n FT
def fk(R:gB)(t:Nat)(n:By):Bool:=decide (n∈Hp R t)
def nS(R:gB)(t:Int)(n:By):Bool:=decide (t<=(jJ R n).last)
def jK(R:gB)(x:kM)(t:Int):Bool:=x.aK.any (nS R t)
def jo(R:gB)(t:Int):List (By):=(R.ao.filter λx=>!jK R x t).map kM.name
def Cg(R:gB)(n:By):List kM:=R.ao.filter λx=>decide (x.line=n)
def dC:List Int->Nat->List Int
 |[],_=>[]
 |x::r,i=>if x<0 then(i:Int)::dC r (i+1)else dC r (i+1)
def A1(R:gB)(j:By):Bool:=R.aU.any λp=>decide (p.EF=j)
def fh(m:By)(l:List jH):List (By):=l.foldl (λn x=>if x.name∈n then n++x.bF else n) [m]
def tF(R:gB)(m:By):List jH:=R.aJ.filter λx=>decide (x.name∈fh m R.aJ.reverse)
def jT(R:gB)(m:By):List jO:=R.lines.filter λl=>decide (l.name∈(tF R m).map jH.line)
def qH(R:gB)(p:By):List (By):=
 (R.ao.filter λx=>decide (x.line∈(jT R (iD R (lV R p).EF).mod).map jO.name)).map kM.name
def jN(l:List Int):Int:=l.foldl (λx s=>(257*x+s).tmod 16777213) 1
def bt(e:fp)(i:Nat):By:=e.names.getD i []
def cC(e:fp)(i:Nat):Int:=e.ba.getD i 0
def iL:By:=[115,104,111,116,115]
def kC:By:=[115,101,99,116,105,111,110]
def mq:By:=[105,109,97,103,101]
def zu(n:Int):By:=if n=1 then iL else if n=2 then iL else if n=3 then kC else mq
def rY(n:Int):By:=if n=1 then iL else if n=2 then kC else mq
def dK(e:fp):Int:=
 if bn e.num 1 1000≠0 then 3 else
 match eC e.kind with
 |none=>13
 |some d=>if e.names.length≠(aC d).length\/e.ba.length≠a8 d then 2
  else if e.names.any (λs=>!dG s)then 8
  else if e.ba.any (λn=>decide (bn n 0 999999999≠0))then 3
  else if e.text≠[]then 1 else 0
def rC(R:gB)(e:fp):List (Nat×Bool)->Nat->Bool
 |[],_=>false
 |r::l,i=>(r.2 && !fk R r.1 (bt e i))||rC R e l (i+1)
def rF(R:gB)(e:fp):List (Nat×Bool)->Nat->Bool
 |[],_=>false
 |r::l,i=>(!r.2&&fk R r.1 (bt e i))||rF R e l (i+1)
def pv(d:Kd)(R:gB)(e:fp):Int:=if rC R e (aC d) 0 then 10 else if rF R e (aC d) 0 then 9 else 0
def jS(R:gB)(e:fp):Int:=(iD R (bt e 0)).b9.getD (cC e 1).toNat 0
def nB(R:gB)(e:fp):Int:=if A1 R (bt e 0)then 23 else if((iD R (bt e 0)).b9.length:Int)<=cC e 1 then 3 else 0
def dA(R:gB)(e:fp):Kd->Int
 |.fW=>0
 |.line=>if bn (cC e 1) 1 64≠0 then 3 else if 16<=R.lines.length then 5 else 0
 |.tape=>if 999999999<cC e 0+cC e 1 then 4 else if 16<=R.aK.length then 5 else 0
 |.iY=>if(fP R (bt e 1)).acc then 23 else if !nS R (cC e 0) (bt e 2)then 30 else if 64<=R.ao.length then 5 else 0
 |.copy=>if bt e 0=bt e 1 then 24 else if !nS R (cC e 0) (bt e 0)then 30 else if !nS R (cC e 0) (bt e 1)then 30 else 0
 |.accept=>if(fP R (bt e 0)).acc then 23 else if((Cg R (bt e 0)).length:Int)<(fP R (bt e 0)).want then 16 else if(Cg R (bt e 0)).any (λx=>!jK R x (cC e 0))then 30 else 0
 |.source=>if 32<=R.aJ.length then 5 else 0
 |.iP=>if bn (cC e 1) 1 4≠0 then 13 else if(tK R (bt e 1)).gives≠zu (cC e 1)then 2 else if 32<=R.aJ.length then 5 else 0
 |.merge=>if bt e 1=bt e 2 then 24 else if(tK R (bt e 1)).gives≠(tK R (bt e 2)).gives then 2 else if 32<=R.aJ.length then 5 else 0
 |.run=>if(jT R (bt e 1)).any (λx=>!x.acc)then 32 else if bn (cC e 1) 1 32≠0 then 3 else if 16<=R.aI.length then 5 else 0
 |.iW=>if nB R e≠0 then nB R e else if 0<=jS R e then 9 else 0
 |.fail=>if nB R e≠0 then nB R e else if jS R e<0 then 7 else 0
 |.jd=>if A1 R (bt e 1)then 23 else if dC (iD R (bt e 1)).b9 0≠[]then 32 else if 16<=R.aU.length then 5 else 0
 |.rel=>if(lV R (bt e 0)).rel then 23 else 0
def nA(a b:By)(x:kM):kM:=if a∈x.aK/\b∉x.aK then {x with aK:=x.aK++[b] } else x
def pa(R:gB)(e:fp)(s:Int):List mV:=R.aI.set (bJ (iT R) (bt e 0)) {iD R (bt e 0)with b9:=(iD R (bt e 0)).b9.set (cC e 1).toNat s}
def fZ(R:gB)(e:fp):Kd->gB
 |.fW=>R
 |.line=>{R with lines:=R.lines++[⟨bt e 0,cC e 1,false⟩] }
 |.tape=>{R with aK:=R.aK++[⟨bt e 0,cC e 0+cC e 1⟩] }
 |.iY=>{R with ao:=R.ao++[⟨bt e 0,bt e 1,[bt e 2]⟩] }
 |.copy=>{R with ao:=R.ao.map (nA (bt e 0) (bt e 1)) }
 |.accept=>{R with lines:=R.lines.set (bJ (jQ R) (bt e 0)) {fP R (bt e 0)with acc:=true} }
 |.source=>{R with aJ:=R.aJ++[⟨bt e 0,iL,bt e 1,[]⟩] }
 |.iP=>{R with aJ:=R.aJ++[⟨bt e 0,rY (cC e 1),[],e.names.drop 1⟩] }
 |.merge=>{R with aJ:=R.aJ++[⟨bt e 0,(tK R (bt e 1)).gives,[],e.names.drop 1⟩] }
 |.run=>{R with aI:=R.aI++[⟨bt e 0,bt e 1,List.replicate (cC e 1).toNat (-1)⟩] }
 |.iW=>{R with aI:=pa R e (cC e 2) }
 |.fail=>{R with aI:=pa R e (-1) }
 |.jd=>{R with aU:=R.aU++[⟨bt e 0,bt e 1,jN (iD R (bt e 1)).b9,false⟩] }
 |.rel=>{R with aU:=R.aU.set (bJ (lF R) (bt e 0)) {lV R (bt e 0)with rel:=true} }
def r0(R:gB)(e:fp)(d:Kd):Int:=if cC e 0<R.tick then 22 else if pv d R e≠0 then pv d R e else dA R e d
def Ch(R:gB)(e:fp)(d:Kd):gB:={fZ R e d with tick:=cC e 0}
structure kf where
 cS:List fp
 ff:List fp
 cI:List gB
def kf.zero:kf:=⟨[],[],[]⟩
def kf.now(H:kf):gB:=H.cI.getLastD gB.zero
def p9(e:fp):Kd:=(eC e.kind).getD .fW
def mH(H:kf)(e:fp):Int:=
 if e.num≠(H.cS.length:Int)+1 then 11 else
 if p9 e=.fW then
  (match H.ff.getLast? with
  |none=>12
  |some c=>if p9 c=.rel then 21 else 0)
 else r0 H.now e (p9 e)
def p3(H:kf)(e:fp):kf:=
 if p9 e=.fW then⟨H.cS++[e],H.ff.dropLast,H.cI.dropLast⟩
 else⟨H.cS++[e],H.ff++[e],H.cI++[Ch H.now e (p9 e)]⟩
def gK(H:kf)(e:fp):Int:=if dK e≠0 then dK e else mH H e
def tf(H:kf):List fp->Nat->kf×Int×Int
 |[],_=>(H,0,0)
 |e::l,i=>if gK H e≠0 then(kf.zero,(i:Int)+1,gK H e)else tf (p3 H e) l (i+1)
def cO(l:List fp):kf×Int×Int:=if 1000<l.length then(kf.zero,0,5)else tf kf.zero l 0
def eM{l n}(h:n∈l):bJ l n<l.length:=
 List.findIdx_lt_length_of_exists ⟨n,h,Si⟩
def tv{l n}(h:n∈l):l[bJ l n]'(eM h)=n:=by
 have:=List.findIdx_getElem (p:=λx=>decide (x=n)) (xs:=l) (w:=eM h);exact VK this
def fR{α:Type}{f:α->By}{l:List α}{n:By}{d:α}(h:n∈l.map f):qh f l n d=l[bJ (l.map f) n]'(by simpa using eM h):=by
 have:bJ (l.map f) n<l.length:=by simpa using eM h
 rw[qh,UQ,Uj this];rfl
def gq{α:Type}{f:α->By}{l:List α}{n:By}{d:α}(h:n∈l.map f):qh f l n d∈l:=by
 rw[fR h];exact UB _
def gg{α:Type}{f:α->By}{l:List α}{n:By}{d:α}(h:n∈l.map f):f (qh f l n d)=n:=by
 rw[fR h];have:=tv h;rw[Vz]at this;exact this
structure nM(l:List (By)):Prop where
 nd:l.Nodup
 nm:∀n∈l,dG n=true
def nM.nil:nM []:=⟨List.nodup_nil,λ_ h=>by cases h⟩
def nM.add{l n}(h:nM l)(hn:dG n=true)(hl:n∉l):nM (l++[n]):=by
 refine⟨List.nodup_append.2 ⟨h.nd,Si,?_⟩,λx hx=>?_⟩
 ·intro a ha b hb e;rw[Uw]at hb;exact hl (hb▸e▸ha)
 ·rcases Um.1 hx with hx|hx
  ·exact h.nm x hx
  ·rw[Uw]at hx;rw[hx];exact hn
structure ka(R:gB):Prop where
 n0:nM (jQ R)
 n1:nM (kZ R)
 n2:nM (o8 R)
 n3:nM (jX R)
 n4:nM (iT R)
 n5:nM (lF R)
 tk:0<=R.tick/\R.tick<=999999999
 l0:R.lines.length<=16
 l1:R.aK.length<=16
 l2:R.ao.length<=64
 l3:R.aJ.length<=32
 l4:R.aI.length<=16
 l5:R.aU.length<=16
 ln:∀x∈R.lines,1<=x.want/\x.want<=64
 tp:∀x∈R.aK,0<=x.last/\x.last<=999999999
 sh:∀x∈R.ao,x.line∈jQ R/\x.aK≠[]/\x.aK.Nodup/\∀t∈x.aK,t∈kZ R
 md:∀x∈R.aJ,((x.bF=[]/\x.line∈jQ R)\/(x.bF≠[]/\x.line=[]))/\x.bF.length<=2/\∀t∈x.bF,t∈jX R
 jb:∀x∈R.aI,x.mod∈jX R/\1<=x.b9.length/\x.b9.length<=32/\∀s∈x.b9,-1<=s/\s<=999999999
 pc:∀x∈R.aU,x.EF∈iT R/\0<=x.lA/\x.lA<16777213
theorem ka.zero:ka gB.zero:=by
 refine⟨.nil,.nil,.nil,.nil,.nil,.nil,De,De,De,De,De,De,De,?_,?_,?_,?_,?_,?_⟩
 all_goals intro x hx;cases hx
structure uT(e:fp)(d:Kd):Prop where
 kd:eC e.kind=some d
 nu:1<=e.num/\e.num<=1000
 nl:e.names.length=(aC d).length
 vl:e.ba.length=a8 d
 nm:∀n∈e.names,dG n=true
 vr:∀v∈e.ba,0<=v/\v<=999999999
 tx:e.text=[]
def hP{n lo hi}(h:¬bn n lo hi≠0):lo<=n/\n<=hi:=by
 unfold bn at h;split at h
 ·exact absurd De h
 ·omega
def pT{e}(h:dK e=0):∃d,uT e d:=by
 unfold dK at h;split at h
 ·cases h
 case isFalse h0=>
 cases hk:eC e.kind with
 |none=>rw[hk]at h;cases h
 |some d=>
  rw[hk]at h;simp only at h;split at h
  ·cases h
  case isFalse h1=>
  split at h
  ·cases h
  case isFalse h2=>
  split at h
  ·cases h
  case isFalse h3=>
  split at h
  ·cases h
  case isFalse h4=>
  refine⟨d,hk,hP h0,Om,Om,?_,?_,by simpa using h4⟩
  ·intro n hn;cases hc:dG n with
   |true=>rfl
   |false=>exact absurd (Wu.2 ⟨n,hn,by simp[hc]⟩) h2
  ·intro v hv;refine hP λhc=>h3 (Wu.2 ⟨v,hv,by simpa using hc⟩)
def Cj{e i}(h:i<e.names.length):bt e i∈e.names:=by
 rw[bt,UQ,Uj h];exact UB h
def rB{e i}(h:i<e.ba.length):cC e i∈e.ba:=by
 rw[cC,UQ,Uj h];exact UB h
def fO{α:Type}{l m:List α}{x:α}(h:x∈l):x∈l++m:=Um.2 (.inl h)
def gU{α:Type}{p:α->Prop}{l:List α}{y:α}(h:∀x∈l,p x)(hy:p y):∀x∈l++[y],p x:=by
 intro x hx;rcases Um.1 hx with hx|hx
 ·exact h x hx
 ·rw[Uw]at hx;rw[hx];exact hy
def oI{α:Type}{p:α->Prop}{l:List α}{y:α}{i:Nat}(h:∀x∈l,p x)(hy:p y):∀x∈l.set i y,p x:=by
 intro x hx;rcases Wg hx with hx|hx
 ·exact h x hx
 ·rw[hx];exact hy
theorem map_set{α:Type}{f:α->By}{l:List α}{n:By}{d y:α}(hn:n∈l.map f)(hy:f y=n):(l.set (bJ (l.map f) n) y).map f=l.map f:=by
 rw[List.map_set];have:=tv hn;rw[hy]
 conv=>lhs;arg 3;rw[<-this]
 exact Wx _
structure MJ(R:gB)(e:fp)(d:Kd):Prop where
 kn:∀i t,(aC d)[i]? =some (t,true)->bt e i∈Hp R t
 fr:∀i t,(aC d)[i]? =some (t,false)->bt e i∉Hp R t
theorem zk{R e}:∀{l}{i},rC R e l i=false->∀j t,l[j]? =some (t,true)->bt e (i+j)∈Hp R t
 |[],i,_,j,t,h=>by simp at h
 |r::l,i,h,j,t,hj=>by
  rw[rC,Bool.or_eq_false_iff]at h;cases j with
  |zero=>
   simp only[Vm,UG]at hj;subst hj;have:=h.1;simp only[VS,Bool.not_eq_false',fk,UT]at this;exact this
  |succ j=>
   simp only[Vy]at hj;have:=zk h.2 j t hj
   rwa [Nat.add_assoc,Nat.add_comm 1 j]at this
theorem zp{R e}:∀{l}{i},rF R e l i=false->∀j t,l[j]? =some (t,false)->bt e (i+j)∉Hp R t
 |[],i,_,j,t,h=>by simp at h
 |r::l,i,h,j,t,hj=>by
  rw[rF,Bool.or_eq_false_iff]at h;cases j with
  |zero=>
   simp only[Vm,UG]at hj;subst hj;have:=h.1;simp only[UF,VS,fk,VV]at this;exact this
  |succ j=>
   simp only[Vy]at hj;have:=zp h.2 j t hj
   rwa [Nat.add_assoc,Nat.add_comm 1 j]at this
def Ar{R e d}(h:pv d R e=0):MJ R e d:=by
 unfold pv at h;split at h
 ·cases h
 case isFalse h1=>
 split at h
 ·cases h
 case isFalse h2=>
 refine⟨λi t hi=>?_,λi t hi=>?_⟩
 ·have:=zk (by simpa using h1) i t hi;rwa [UX]at this
 ·have:=zp (by simpa using h2) i t hi;rwa [UX]at this
def yC(x s:Int)(hx:0<=x)(hs:0<=s):0<=(257*x+s).tmod 16777213/\(257*x+s).tmod 16777213<16777213:=by
 rw[Int.tmod_eq_emod_of_nonneg Om];omega
theorem uy:∀(l:List Int) (x:Int),(∀s∈l,0<=s)->0<=x->x<16777213->0<=l.foldl (λx s=>(257*x+s).tmod 16777213) x/\l.foldl (λx s=>(257*x+s).tmod 16777213) x<16777213
 |[],x,_,h1,h2=>⟨h1,h2⟩
 |s::l,x,hs,h1,h2=>by
  have:=yC x s h1 (hs s Si);exact uy l _ (λt ht=>hs t (UL _ ht)) this.1 this.2
def C4{l}(hs:∀s∈l,0<=s):0<=jN l/\jN l<16777213:=uy l 1 hs De De
theorem qQ:∀{l}{i},dC l i=[]->∀s∈l,0<=s
 |[],_,_,s,hs=>by cases hs
 |x::r,i,h,s,hs=>by
  rw[dC]at h;split at h
  ·cases h
  ·rcases UR.1 hs with rfl|hs
   ·omega
   ·exact qQ h s hs
theorem ka.tick{R}(w:ka R){t}(h:0<=t/\t<=999999999):ka {R with tick:=t}:={w with tk:=h}
section
variable {R:gB}{e:fp}(w:ka R)
include w
theorem ka.Jn{n}(hn:n∈iT R):iD R n∈R.aI/\(iD R n).name=n:=⟨gq hn,gg hn⟩
def ka.Er(s:Int)(hn:bt e 0∈iT R)(hs:-1<=s/\s<=999999999):ka {R with aI:=pa R e s}:=by
 have hj:=w.Jn hn;have hm:List.map mV.name (pa R e s)=iT R:=map_set (d:=Aq) hn hj.2;refine {w with n4:=?_,l4:=?_,jb:=?_,pc:=?_}
 ·show nM (List.map mV.name (pa R e s));rw[hm];exact w.n4
 ·show(pa R e s).length<=16;rw[pa,VA];exact w.l4
 ·refine oI (λx hx=>w.jb x hx) ?_;have:=w.jb _ hj.1;refine⟨this.1,?_,?_,oI this.2.2.2 hs⟩
  ·show 1<=(List.set _ _ _).length;rw[VA];exact this.2.1
  ·show(List.set _ _ _).length<=32;rw[VA];exact this.2.2.1
 ·intro x hx;have:=w.pc x hx;exact⟨by show x.EF∈List.map mV.name (pa R e s);rw[hm];exact this.1,this.2⟩
def ka.act{d:Kd}(he:uT e d)(hk:MJ R e d)(hc:dA R e d=0):ka (fZ R e d):=by
 have gn:∀i,i<(aC d).length->dG (bt e i)=true:=λi hi=>he.nm _ (Cj (by rw[he.nl];exact hi))
 have gv:∀i,i<a8 d->0<=cC e i/\cC e i<=999999999:=λi hi=>he.vr _ (rB (by rw[he.vl];exact hi))
 cases d with
 |fW=>exact w
 |line=>
  have f0:bt e 0∉jQ R:=hk.fr 0 0 rfl;rw[dA]at hc;split at hc
  ·cases hc
  case isFalse h1=>
  split at hc
  ·cases hc
  case isFalse h2=>
  have h1:=hP h1;have em:jQ (fZ R e .line)=jQ R++[bt e 0]:=Up;refine {w with n0:=?_,l0:=?_,ln:=?_,sh:=?_,md:=?_}
  ·rw[em];exact w.n0.add (gn 0 De) f0
  ·show(R.lines++[_]).length<=16;rw[Ud,Us];omega
  ·exact gU w.ln h1
  ·intro x hx;have:=w.sh x hx;exact⟨by rw[em];exact fO this.1,this.2⟩
  ·intro x hx;obtain⟨h3,h4⟩:=w.md x hx;refine⟨?_,h4⟩;rcases h3 with h3|h3
   ·exact .inl ⟨h3.1,by rw[em];exact fO h3.2⟩
   ·exact .inr h3
 |tape=>
  have f0:bt e 0∉kZ R:=hk.fr 0 1 rfl;have v0:=gv 0 De;have v1:=gv 1 De;rw[dA]at hc;split at hc
  ·cases hc
  case isFalse h1=>
  split at hc
  ·cases hc
  case isFalse h2=>
  have em:kZ (fZ R e .tape)=kZ R++[bt e 0]:=Up;refine {w with n1:=?_,l1:=?_,tp:=?_,sh:=?_}
  ·rw[em];exact w.n1.add (gn 0 De) f0
  ·show(R.aK++[_]).length<=16;rw[Ud,Us];omega
  ·exact gU w.tp (by show 0<=cC e 0+cC e 1/\cC e 0+cC e 1<=999999999;omega)
  ·intro x hx;obtain⟨h3,h4,h5,h6⟩:=w.sh x hx;exact⟨h3,h4,h5,λt ht=>by rw[em];exact fO (h6 t ht)⟩
 |iY=>
  have f0:bt e 0∉o8 R:=hk.fr 0 2 rfl;have k1:bt e 1∈jQ R:=hk.kn 1 0 rfl;have k2:bt e 2∈kZ R:=hk.kn 2 1 rfl;rw[dA]at hc;split at hc
  ·cases hc
  split at hc
  ·cases hc
  split at hc
  ·cases hc
  case isFalse h2=>
  have em:o8 (fZ R e .iY)=o8 R++[bt e 0]:=Up;refine {w with n2:=?_,l2:=?_,sh:=?_}
  ·rw[em];exact w.n2.add (gn 0 De) f0
  ·show(R.ao++[_]).length<=64;rw[Ud,Us];omega
  ·refine gU w.sh ⟨k1,Si,Si,λt ht=>?_⟩;rw[Uw]at ht;rw[ht];exact k2
 |copy=>
  have k1:bt e 1∈kZ R:=hk.kn 1 1 rfl;have en:∀x,(nA (bt e 0) (bt e 1) x).name=x.name:=λx=>by unfold nA;split<;>rfl
  have el:∀x,(nA (bt e 0) (bt e 1) x).line=x.line:=λx=>by unfold nA;split<;>rfl
  have em:o8 (fZ R e .copy)=o8 R:=by
   show List.map _ (List.map _ _)=_;rw[Wl];exact List.map_congr_left λx _=>en x
  refine {w with n2:=?_,l2:=?_,sh:=?_}
  ·rw[em];exact w.n2
  ·show(List.map _ _).length<=64;rw[Uv];exact w.l2
  ·intro y hy;obtain⟨x,hx,rfl⟩:=UI.1 (show y∈List.map _ R.ao from hy);obtain⟨h1,h2,h3,h4⟩:=w.sh x hx;rw[el];refine⟨h1,?_⟩;unfold nA;split
   case isFalse=>exact⟨h2,h3,h4⟩
   case isTrue h5=>
    refine⟨Si,?_,gU h4 k1⟩;refine List.nodup_append.2 ⟨h3,Si,λa ha b hb eq=>?_⟩;rw[Uw]at hb;exact h5.2 (hb▸eq▸ha)
 |accept=>
  have k0:bt e 0∈jQ R:=hk.kn 0 0 rfl;have em:jQ (fZ R e .accept)=jQ R:=map_set (d:=Ci) k0 (gg k0);refine {w with n0:=?_,l0:=?_,ln:=?_,sh:=?_,md:=?_}
  ·rw[em];exact w.n0
  ·show(List.set _ _ _).length<=16;rw[VA];exact w.l0
  ·exact oI w.ln (w.ln (fP R (bt e 0)) (gq k0))
  ·intro x hx;have:=w.sh x hx;exact⟨by rw[em];exact this.1,this.2⟩
  ·intro x hx;obtain⟨h3,h4⟩:=w.md x hx;refine⟨?_,h4⟩;rcases h3 with h3|h3
   ·exact .inl ⟨h3.1,by rw[em];exact h3.2⟩
   ·exact .inr h3
 |source=>
  have f0:bt e 0∉jX R:=hk.fr 0 3 rfl;have k1:bt e 1∈jQ R:=hk.kn 1 0 rfl;rw[dA]at hc;split at hc
  ·cases hc
  case isFalse h2=>
  have em:jX (fZ R e .source)=jX R++[bt e 0]:=Up;refine {w with n3:=?_,l3:=?_,md:=?_,jb:=?_}
  ·exact E7
  ·exact z70
  ·refine gU (λx hx=>?_) ⟨.inl ⟨rfl,k1⟩,UK _,λt ht=>by cases ht⟩;exact KB
  ·intro x hx;have:=w.jb x hx;exact⟨by rw[em];exact fO this.1,this.2⟩
 |iP=>
  have f0:bt e 0∉jX R:=hk.fr 0 3 rfl;have k1:bt e 1∈jX R:=hk.kn 1 3 rfl;have hl:e.names.length=2:=he.nl;have S5:e.names.drop 1=[bt e 1]:=by
   match hn:e.names,hl with
   |[a,b],_=>simp[bt,hn]
  rw[dA]at hc;split at hc
  ·cases hc
  split at hc
  ·cases hc
  split at hc
  ·cases hc
  case isFalse h2=>
  have em:jX (fZ R e .iP)=jX R++[bt e 0]:=Up;refine {w with n3:=?_,l3:=?_,md:=?_,jb:=?_}
  ·exact E7
  ·exact z70
  ·refine gU (λx hx=>?_) ?_
   ·exact KB
   ·simp only[S5];exact⟨.inr Si,Si,λt ht=>by rw[Uw]at ht;rw[ht,em];exact fO k1⟩
  ·intro x hx;have:=w.jb x hx;exact⟨by rw[em];exact fO this.1,this.2⟩
 |merge=>
  have f0:bt e 0∉jX R:=hk.fr 0 3 rfl;have k1:bt e 1∈jX R:=hk.kn 1 3 rfl;have k2:bt e 2∈jX R:=hk.kn 2 3 rfl;have hl:e.names.length=3:=he.nl;have S5:e.names.drop 1=[bt e 1,bt e 2]:=by
   match hn:e.names,hl with
   |[a,b,c],_=>simp[bt,hn]
  rw[dA]at hc;split at hc
  ·cases hc
  split at hc
  ·cases hc
  split at hc
  ·cases hc
  case isFalse h2=>
  have em:jX (fZ R e .merge)=jX R++[bt e 0]:=Up;refine {w with n3:=?_,l3:=?_,md:=?_,jb:=?_}
  ·exact E7
  ·exact z70
  ·refine gU (λx hx=>?_) ?_
   ·exact KB
   ·simp only[S5];refine⟨.inr Si,Si,λt ht=>?_⟩;rw[em];rcases UR.1 ht with ht|ht
    ·rw[ht];exact fO k1
    ·rw[Uw]at ht;rw[ht];exact fO k2
  ·intro x hx;have:=w.jb x hx;exact⟨by rw[em];exact fO this.1,this.2⟩
 |run=>
  have f0:bt e 0∉iT R:=hk.fr 0 4 rfl;have k1:bt e 1∈jX R:=hk.kn 1 3 rfl;rw[dA]at hc;split at hc
  ·cases hc
  split at hc
  ·cases hc
  case isFalse h1=>
  split at hc
  ·cases hc
  case isFalse h2=>
  have h1:=hP h1;have em:iT (fZ R e .run)=iT R++[bt e 0]:=Up;refine {w with n4:=?_,l4:=?_,jb:=?_,pc:=?_}
  ·rw[em];exact w.n4.add (gn 0 De) f0
  ·show(R.aI++[_]).length<=16;rw[Ud,Us];omega
  ·refine gU w.jb ⟨k1,?_,?_,λs hs=>?_⟩
   ·show 1<=(List.replicate _ _).length;rw[Vn];omega
   ·show(List.replicate _ _).length<=32;rw[Vn];omega
   ·rw[(List.mem_replicate.1 hs).2];decide
  ·intro x hx;have:=w.pc x hx;exact⟨by rw[em];exact fO this.1,this.2⟩
 |iW=>exact w.Er _ (hk.kn 0 4 rfl) (by have:=gv 2 De;omega)
 |fail=>exact w.Er _ (hk.kn 0 4 rfl) De
 |jd=>
  have f0:bt e 0∉lF R:=hk.fr 0 5 rfl;have k1:bt e 1∈iT R:=hk.kn 1 4 rfl;rw[dA]at hc;split at hc
  ·cases hc
  split at hc
  ·cases hc
  case isFalse h1=>
  split at hc
  ·cases hc
  case isFalse h2=>
  have em:lF (fZ R e .jd)=lF R++[bt e 0]:=Up;refine {w with n5:=?_,l5:=?_,pc:=?_}
  ·rw[em];exact w.n5.add (gn 0 De) f0
  ·show(R.aU++[_]).length<=16;rw[Ud,Us];omega
  ·exact gU w.pc ⟨k1,C4 (qQ (Classical.not_not.1 h1))⟩
 |rel=>
  have k0:bt e 0∈lF R:=hk.kn 0 5 rfl;have em:lF (fZ R e .rel)=lF R:=map_set (d:=FT) k0 (gg k0);refine {w with n5:=?_,l5:=?_,pc:=?_}
  ·rw[em];exact w.n5
  ·show(List.set _ _ _).length<=16;rw[VA];exact w.l5
  ·exact oI w.pc (w.pc (lV R (bt e 0)) (gq k0))
def ka.step{d}(he:uT e d)(hd:d≠.fW)(h:r0 R e d=0):ka (Ch R e d):=by
 unfold r0 at h;split at h
 ·cases h
 split at h
 case isTrue h1=>exact absurd h h1
 case isFalse h1=>
 have h1:=Classical.not_not.1 h1;refine(w.act he (Ar h1) h).tick (he.vr _ (rB ?_));rw[he.vl];cases d<;>first|exact absurd rfl hd|decide
end
def eD{α:Type}(p:α->Bool)(L:List α):Int:=
 match L.findIdx? p with
 |some i=>(i:Int)
 |none=>-1
def mo{α:Type}(p:α->Bool)(L:List α):decide (0<=eD p L)=L.any p:=by
 unfold eD;cases hx:L.findIdx? p with
 |none=>
  simp only[List.findIdx?_eq_none_iff]at hx;have:L.any p=false:=by rw[List.any_eq_false];intro x Oo;simp[hx x Oo]
  rw[this];rfl
 |some i=>
  have h1:=List.findIdx?_isSome (xs:=L) (p:=p);rw[hx]at h1;rw[<-h1];simp
def al(x:By):List AV:=[.str x]
def cp(x:jO):List AV:=[.str x.name,.i x.want,.bool x.acc]
def eP(x:uU):List AV:=[.str x.name,.i x.last]
def bg(x:kM×AV):List AV:=[.str x.1.name,.str x.1.line,x.2]
def aP(x:jH×AV):List AV:=[.str x.1.name,.str x.1.gives,.str x.1.line,x.2]
def bS(x:mV×AV):List AV:=[.str x.1.name,.str x.1.mod,x.2]
def dN(x:rv):List AV:=[.str x.name,.str x.EF,.i x.lA,.bool x.rel]
structure RV where
 tick:Int
 lines:List jO
 aK:List uU
 ao:List (kM×AV)
 aJ:List (jH×AV)
 aI:List (mV×AV)
 aU:List rv
 s0:AV
 s1:AV
 s2:AV
 s3:AV
 s4:AV
 s5:AV
def RV.aD(V:RV):gB:=⟨V.tick,V.lines,V.aK,V.ao.map Prod.fst,V.aJ.map Prod.fst,V.aI.map Prod.fst,V.aU⟩
def RV.row(V:RV):List AV:=[.i V.tick,V.s0,V.s1,V.s2,V.s3,V.s4,V.s5]
def RV.zero:RV:=⟨0,[],[],[],[],[],[],.ah,.ah,.ah,.ah,.ah,.ah⟩
structure aG(h:af)(V:RV):Prop where
 i0:aB h V.s0 3 (V.lines.map cp)
 i1:aB h V.s1 2 (V.aK.map eP)
 i2:aB h V.s2 3 (V.ao.map bg)
 i3:aB h V.s3 4 (V.aJ.map aP)
 i4:aB h V.s4 3 (V.aI.map bS)
 i5:aB h V.s5 4 (V.aU.map dN)
 e2:∀x∈V.ao,aB h x.2 1 (x.1.aK.map al)
 e3:∀x∈V.aJ,aB h x.2 1 (x.1.bF.map al)
 e4:∀x∈V.aI,aB h x.2 1 (x.1.b9.map aE)
theorem aG.ext{h k V}(o:aG h V)(e:Ext h k):aG k V:=
 ⟨o.i0.ext e,o.i1.ext e,o.i2.ext e,o.i3.ext e,o.i4.ext e,o.i5.ext e,λx hx=>(o.e2 x hx).ext e,λx hx=>(o.e3 x hx).ext e,λx hx=>(o.e4 x hx).ext e⟩
theorem aG.zero{h}:aG h RV.zero:=by
 refine⟨.nil,.nil,.nil,.nil,.nil,.nil,?_,?_,?_⟩
 all_goals intro x hx;cases hx
def sB:AV->Option Nat
 |.slice b _ _ _=>some b
 |_=>none
def K4{v b}(h:sB v=some b):∃o n e,v=.slice b o n e:=by
 cases v with
 |slice b' o n e=>cases h;exact⟨o,n,e,rfl⟩
 |_=>cases h
def Fr.bL{N h s es cs}(hs:Fr N h s es cs){b}(hb:sB s=some b):N<=b/\b<h.length:=by
 obtain⟨o,n,e,rfl⟩:=K4 hb;exact hs.lt rfl
def Fr.ay{N h k s es cs}(hs:Fr N h s es cs)(hk:∀b,sB s=some b->k[b]? =h[b]?):Fr N k s es cs:=by
 exact z124
def RV.bl(V:RV):List (Option Nat):=[sB V.s0,sB V.s1,sB V.s2,sB V.s3,sB V.s4,sB V.s5]++(V.ao.map λx=>sB x.2)++(V.aJ.map λx=>sB x.2)++(V.aI.map λx=>sB x.2)
def kg(l:List (Option Nat)):Prop:=l.Pairwise λx y=>∀b,x=some b->y≠some b
structure dm(N:Nat)(h:af)(V:RV):Prop where
 i0:Fr N h V.s0 3 (V.lines.map cp)
 i1:Fr N h V.s1 2 (V.aK.map eP)
 i2:Fr N h V.s2 3 (V.ao.map bg)
 i3:Fr N h V.s3 4 (V.aJ.map aP)
 i4:Fr N h V.s4 3 (V.aI.map bS)
 i5:Fr N h V.s5 4 (V.aU.map dN)
 e2:∀x∈V.ao,Fr N h x.2 1 (x.1.aK.map al)
 e3:∀x∈V.aJ,Fr N h x.2 1 (x.1.bF.map al)
 e4:∀x∈V.aI,Fr N h x.2 1 (x.1.b9.map aE)
 di:kg V.bl
def dm.ok{N h V}(o:dm N h V):aG h V:=
 ⟨o.i0.aM,o.i1.aM,o.i2.aM,o.i3.aM,o.i4.aM,o.i5.aM,λx hx=>(o.e2 x hx).aM,λx hx=>(o.e3 x hx).aM,λx hx=>(o.e4 x hx).aM⟩
theorem dm.app{N h V}(o:dm N h V)(g:af):dm N (h++g) V:=
 ⟨o.i0.app g,o.i1.app g,o.i2.app g,o.i3.app g,o.i4.app g,o.i5.app g,λx hx=>(o.e2 x hx).app g,λx hx=>(o.e3 x hx).app g,λx hx=>(o.e4 x hx).app g,o.di⟩
def dm.ar{N h k V}(o:dm N h V)(hk:∀b,some b∈V.bl->k[b]? =h[b]?):dm N k V:=by
 have m6:∀x∈[sB V.s0,sB V.s1,sB V.s2,sB V.s3,sB V.s4,sB V.s5],x∈V.bl:=λx hx=>by simp only[RV.bl,Um];exact .inl (.inl (.inl hx))
 refine⟨o.i0.ay λb hb=>hk b (hb▸m6 _ Si),o.i1.ay λb hb=>hk b (hb▸m6 _ Si),o.i2.ay λb hb=>hk b (hb▸m6 _ Si),o.i3.ay λb hb=>hk b (hb▸m6 _ Si),o.i4.ay λb hb=>hk b (hb▸m6 _ Si),o.i5.ay λb hb=>hk b (hb▸m6 _ Si),
  λx hx=>(o.e2 x hx).ay λb hb=>hk b ?_,λx hx=>(o.e3 x hx).ay λb hb=>hk b ?_,λx hx=>(o.e4 x hx).ay λb hb=>hk b ?_,o.di⟩
 ·exact H3
 ·exact z127
 ·exact HL
structure EV where
 ev:fp
 sn:AV
 sv:AV
def EV.row(x:EV):List AV:=[.i x.ev.num,.str x.ev.kind,x.sn,x.sv,.str x.ev.text]
structure aZ(h:af)(x:EV):Prop where
 n:aB h x.sn 1 (x.ev.names.map al)
 v:aB h x.sv 1 (x.ev.ba.map aE)
theorem aZ.ext{h k x}(o:aZ h x)(e:Ext h k):aZ k x:=⟨o.n.ext e,o.v.ext e⟩
structure fB(h:af)(L:List EV)(s:AV):Prop where
 sl:aB h s 5 (L.map EV.row)
 all:∀x∈L,aZ h x
theorem fB.ext{h k L s}(o:fB h L s)(e:Ext h k):fB k L s:=⟨o.sl.ext e,λx hx=>(o.all x hx).ext e⟩
end Go.Abs
namespace Go.Abs
inductive Ow (N:Nat) (h:af):AV->Nat->List (List AV)->Prop
 |nil {es:Nat}:Ow N h .ah es []
 |mk {b es:Nat}{cs:List (List AV)}{junk:List AV}(hN:N<=b) (hb:h[b]? =some (.cells (cs.flatten++junk) true true)) (he:∀x∈cs,x.length=es):Ow N h (.slice b 0 cs.length es) es cs
def Ow.aM{N h s es cs}(hs:Ow N h s es cs):aB h s es cs:=by
 cases hs with
 |nil=>exact .nil
 |mk hN hb he=>
  have hl:=dV he;exact .mk hb (by rw[VI,<-hl,List.take_left]) (by rw[Ud];omega) he
def Ow.bL{N h s es cs}(hs:Ow N h s es cs){b}(hb:sB s=some b):N<=b/\b<h.length:=by
 cases hs with
 |nil=>cases hb
 |mk hN hb' he=>cases hb;exact⟨hN,(Ue.1 hb').1⟩
def Ow.ay{N h k s es cs}(hs:Ow N h s es cs)(hk:∀b,sB s=some b->k[b]? =h[b]?):Ow N k s es cs:=by
 exact z124
def Ow.cut{N h s es cs}(hs:Ow N h s es cs){n:Nat}(hn:n<=cs.length){k}:
  ∃s',y4 es s none (some (.int k (n:Int)))=some (s',.ar)/\sB s' =sB s/\Ow N h s' es (cs.take n):=by
 cases hs with
 |nil=>
  have:n=0:=by simpa using hn
  subst this;exact⟨.ah,by simp only[y4,kH (Uq 0)],rfl,by rw[List.take_nil];exact .nil⟩
 | @mk b _ _ junk hN hb he=>
  refine⟨.slice b 0 n es,?_,rfl,?_⟩
  ·simp only[y4,UD,kH hn,Wk,W3,Nat.sub_zero]
  ·have hl:(cs.take n).length=n:=by rw[U6];omega
   have hf:cs.flatten++junk=(cs.take n).flatten++((cs.drop n).flatten++junk):=by
    rw[<-Uf,<-VG,U8]
   rw[hf]at hb;have:=Ow.mk (cs:=cs.take n) hN hb (λx hx=>he x (Vi hx))
   rwa [hl]at this
section
variable {P:Program}{ro:Option Nat->Prop}{ks:List Kt}{ts:TS}{Q:Ex->TS->af->Prop}
def WR.GZ{h s y es cs ys N w d l}(hs:Ow N h s es cs)(hy:aB h y es ys)(hN:N<=h.length)(hes:0<es)(hne:0<ys.length)(dO:(cs.length+ys.length)*w<=2^46)
  (K:∀h',h'.length=h.length+1->Ow N h' (.slice h.length 0 (cs++ys).length es) es (cs++ys)->(∀b,b<h.length->sB s≠some b->h'[b]? =h[b]?)->WP P ro l ks (put ts d (.slice h.length 0 (cs++ys).length es)) h' Q):
  WR P ro (nE es w s y (λb=>h[b]?) h.length) false d l ks ts h Q:=by
 have PT:∀x∈cs++ys,x.length=es:=λx hx=>by
  exact HY
 have hk:¬ys.length=0:=Om
 simp only[nE,hy.eE];have mk:∀h1:af,h1.length=h.length->Ow N (h1++[.cells (cs++ys).flatten true true]) (.slice h.length 0 (cs++ys).length es) es (cs++ys):=by
  intro h1 h1l;refine Ow.mk (junk:=[]) hN ?_ PT;rw[UE,<-h1l];exact bO
 cases hs with
 |nil=>
  simp only[Ul,UX]at dO;simp only[Ur hk,Ut dO];rw[kI];have hK:=K (h++[.cells ys.flatten true true]) Si (mk h rfl) (λb hb _=>Ug hb);exact hK
 | @mk b _ _ junk hbN hb hre=>
  have hcl:=dV hre;simp only[UD,Ur hk,Ut dO,hb,UX];rw[Ut (by rw[Ud];omega),lE];have hbl:b<h.length:=(Ue.1 hb).1;have hc:List.take (cs.length*es) (List.drop 0 (cs.flatten++junk))=cs.flatten:=by rw[VI,<-hcl,List.take_left]
  rw[hc];have hK:=K (h.set b .dead++[.cells (cs++ys).flatten true true]) Si (mk _ Si) (λi hi hne=>by
   have:b≠i:=λe=>hne (by rw[<-e];rfl)
   rw[Ug (by simpa using hi),U1 this])
  simp only[VG,Ud]at hK ⊢;exact hK
end
def gQ(ex:List (Option Nat))(h:af):af:=h.mapIdx λb k=>if some b∈ex then .dead else k
def wR{ex h b}(hb:some b∉ex):(gQ ex h)[b]? =h[b]? :=by
 rw[gQ,List.getElem?_mapIdx];cases h[b]? with
 |none=>rfl
 |some k=>simp[hb]
def tJ{ex h b c mu tl}(hb:(gQ ex h)[b]? =some (.cells c mu tl)):some b∉ex/\h[b]? =some (.cells c mu tl):=by
 rw[gQ,List.getElem?_mapIdx]at hb;cases hk:h[b]? with
 |none=>rw[hk]at hb;cases hb
 |some k=>
  rw[hk]at hb;simp only[V6,UG]at hb;split at hb
  ·cases hb
  case isFalse h1=>exact⟨h1,by rw[hb]⟩
def mS(k h:af):Prop:=∀(b:Nat) (c:List AV) (mu tl:Bool),k[b]? =some (ai.cells c mu tl)->h[b]? =some (ai.cells c mu tl)
def aB.sub{k h s es cs}(o:aB k s es cs)(e:mS k h):aB h s es cs:=by
 cases o with
 |nil=>exact .nil
 |mk hb hf ho he=>exact .mk (e _ _ _ _ hb) hf ho he
theorem aG.sub{k h V}(o:aG k V)(e:mS k h):aG h V:=
 ⟨o.i0.sub e,o.i1.sub e,o.i2.sub e,o.i3.sub e,o.i4.sub e,o.i5.sub e,λx hx=>(o.e2 x hx).sub e,λx hx=>(o.e3 x hx).sub e,λx hx=>(o.e4 x hx).sub e⟩
theorem aZ.sub{k h x}(o:aZ k x)(e:mS k h):aZ h x:=⟨o.n.sub e,o.v.sub e⟩
theorem mS.gQ(ex:List (Option Nat))(h:af):mS (gQ ex h) h:=λ_ _ _ _ hb=>(tJ hb).2
theorem aB.gQ{h s es cs}(o:aB h s es cs){ex}(hx:∀b,sB s=some b->some b∉ex):aB (Go.Abs.gQ ex h) s es cs:=by
 cases o with
 |nil=>exact .nil
 |mk hb hf ho he=>exact .mk ((wR (hx _ rfl)).trans hb) hf ho he
def aG.ar{h k V}(o:aG h V)(hk:∀b,some b∈V.bl->k[b]? =h[b]?):aG k V:=by
 have m6:∀x∈[sB V.s0,sB V.s1,sB V.s2,sB V.s3,sB V.s4,sB V.s5],x∈V.bl:=λx hx=>by simp only[RV.bl,Um];exact .inl (.inl (.inl hx))
 have kp:∀{s:AV}{es:Nat}{cs:List (List AV)},aB h s es cs->(∀b,sB s=some b->k[b]? =h[b]?)->aB k s es cs:=λ{s es cs} hs hb=>by
  cases hs with
  |nil=>exact .nil
  |mk h1 h2 h3 h4=>exact .mk ((hb _ rfl).trans h1) h2 h3 h4
 refine⟨kp o.i0 λb hb=>hk b (hb▸m6 _ Si),kp o.i1 λb hb=>hk b (hb▸m6 _ Si),kp o.i2 λb hb=>hk b (hb▸m6 _ Si),kp o.i3 λb hb=>hk b (hb▸m6 _ Si),kp o.i4 λb hb=>hk b (hb▸m6 _ Si),kp o.i5 λb hb=>hk b (hb▸m6 _ Si),
  λx hx=>kp (o.e2 x hx) λb hb=>hk b ?_,λx hx=>kp (o.e3 x hx) λb hb=>hk b ?_,λx hx=>kp (o.e4 x hx) λb hb=>hk b ?_⟩
 ·exact H3
 ·exact z127
 ·exact HL
structure HV where
 cS:List EV
 ff:List EV
 cI:List RV
 se:AV
 sc:AV
 sr:AV
def HV.bE(V:HV):kf:=⟨V.cS.map EV.ev,V.ff.map EV.ev,V.cI.map RV.aD⟩
def HV.ex(b:Nat)(V:HV):List (Option Nat):=[some b,sB V.se,sB V.sc,sB V.sr]
structure bZ(N:Nat)(h:af)(b:Nat)(V:HV):Prop where
 hN:N<=b
 hb:h[b]? =some (.b [V.se,V.sc,V.sr])
 oe:Ow N h V.se 5 (V.cS.map EV.row)
 oc:Ow N h V.sc 5 (V.ff.map EV.row)
 og:Ow N h V.sr 7 (V.cI.map RV.row)
 di:kg (V.ex b)
 ae:∀x∈V.cS,aZ (gQ (V.ex b) h) x
 ac:∀x∈V.ff,aZ (gQ (V.ex b) h) x
 ag:∀x∈V.cI,aG (gQ (V.ex b) h) x
 lo:∀x∈V.cI,∀j,some j∈x.bl->N<=j
def oA{ex ex' h h'}(hk:∀b,b<h.length->some b∉ex->h'[b]? =h[b]?)(he:∀b,b<h.length->some b∈ex'->some b∈ex):mS (gQ ex h) (gQ ex' h'):=by
 intro b c mu tl hb;obtain⟨h1,h2⟩:=tJ hb;have hlt:b<h.length:=(Ue.1 h2).1;rw[wR λh3=>h1 (he b hlt h3),hk b hlt h1,h2]
def bZ.app{N h b V}(o:bZ N h b V)(g:af):bZ N (h++g) b V:=by
 have hs:mS (gQ (V.ex b) h) (gQ (V.ex b) (h++g)):=oA (λb hb _=>Ug hb) (λb _ hb=>hb);have hbl:=(Ue.1 o.hb).1;exact⟨o.hN,(Ug hbl).trans o.hb,o.oe.ay λb hb=>Ug (o.oe.bL hb).2,o.oc.ay λb hb=>Ug (o.oc.bL hb).2,o.og.ay λb hb=>Ug (o.og.bL hb).2,o.di,
  λx hx=>(o.ae x hx).sub hs,λx hx=>(o.ac x hx).sub hs,λx hx=>(o.ag x hx).sub hs,o.lo⟩
end Go.Abs
namespace Go.Abs
def ji:By->Bool
 |[]=>true
 |c::r=>fE c&&r.all iZ
def qO(s:By):dG s=(decide (s≠[])&&decide (s.length<=24)&&ji s):=by
 cases s with
 |nil=>rfl
 |cons c r=>
  have:(r.length<24)=((c::r).length<=24):=by simp;omega
  simp only[dG,ji,this];simp[Bool.and_assoc]
def yx{s:By}{k:Nat}(hk:k<s.length):ji (s.take (k+1))=(ji (s.take k)&&(if k=0 then fE s[k]else iZ s[k])):=by
 cases s with
 |nil=>simp at hk
 |cons c r=>
  cases k with
  |zero=>simp[ji]
  |succ k=>
   have hk':k<r.length:=by simpa using hk
   simp only[VY,ji,List.getElem_cons_succ];rw[U9,Uj hk',Option.toList_some];rw[Wj,VJ,List.all_nil,Bool.and_true,Bool.and_assoc,Ur Om]
def yw{s k}(h:ji (s.take k)=false):ji s=false:=by
 cases s with
 |nil=>simp[ji]at h
 |cons c r=>
  cases k with
  |zero=>simp[ji]at h
  |succ k=>
   simp only[VY,ji,Bool.and_eq_false_iff]at h ⊢;rcases h with h|h
   ·exact .inl h
   ·right
    rw[List.all_eq_false]at h ⊢;obtain⟨x,hx,hr⟩:=h;exact⟨x,Vi hx,hr⟩
def dec_lt{s i}(hi:i<s.length)(h:s[i].toNat<128):Utf8.decode ⟨⟨s⟩⟩ i=(s[i].toNat,1):=by
 have hg:(ByteArray.get! ⟨⟨s⟩⟩ i).toNat=s[i].toNat:=by
  simp[ByteArray.get!,hi]
 simp only[Utf8.decode,W3,hg,Ut h]
def GL{s i}(hi:i<s.length)(h:128<=s[i].toNat):128<=(Utf8.decode ⟨⟨s⟩⟩ i).1:=by
 have hg:(ByteArray.get! ⟨⟨s⟩⟩ i).toNat=s[i].toNat:=by
  simp[ByteArray.get!,hi]
 simp only[Utf8.decode,W3,hg];rw[Ur Om];simp only[Utf8.runeError]
 repeat' split
 all_goals first
  |(simp only;omega)
  |(simp only[UH,UT]at *;omega)
section
variable {P:Program}(T:eF P) {h:af}
include T
def r85(c:Bool)(e:Int):ak P 85 [.bool c,.i e] h (λv _=>v=.i (bB c e)):=by
 refine .of T.mix T.c85 ?_;unfold fn85 gA;simp only[uset];cases c<;>simp only[aL]<;>rfl
def r82(c:Bool)(e:Int):ak P 82 [.bool c,.i e] h (λv _=>v=.i (bB c e)):=by
 refine .of T.mix T.c82 ?_;unfold fn82 gA;simp only[uset];cases c<;>simp only[aL]<;>rfl
def r94(n lo hi:Int):ak P 94 [.i n,.i lo,.i hi] h (λv _=>v=.i (bn n lo hi)):=by
 refine .of T.mix T.c94 ?_;unfold fn94 gA;simp only[uset];simp+contextual only[aL,kY,US,Va];refine⟨λh1=>?_,λh1=>?_⟩<;>
 ·refine WF.res T.c85 (r85 T _ _) ?_;rintro _ g rfl;simp only[aL];simp[bB,bn,h1]
def r74{s l}(hs:aB h s 1 (l.map aE))(hl:l.length<2^63):ak P 74 [s] h (λv _=>v=.i (aO l)):=by
 refine .of T.mix T.c74 ?_;unfold fn74 gA;simp only[uset];have e1:(l.map aE).length=l.length:=Si
 simp only[aL,hs.iC,e1];refine WL.inv T.mix (λn ts h'=>∃k:Nat,k<=l.length/\n=l.length-k/\h' =h/\aO l=aO (l.drop k)/\ts.length=15/\slot ts 5=s/\slot ts 6=.i l.length/\slot ts 7=.i k) l.length
  ⟨0,Om,rfl,rfl,rfl,rfl,rfl,rfl,rfl⟩ ?_
 rintro _ ts _ ⟨k,hk,rfl,rfl,hf,hlen,h5,h6,h7⟩;rw[jM ts 15 hlen];by_cases hlt:k<l.length
 ·have hd:l.drop k=l[k]::l.drop (k+1):=Si
  have e2:(l.map aE)[k]'Om=[AV.i l[k]]:=Si
  have e3:(k:Int)<l.length:=Om
  simp+contextual (disch:=omega) only[aL,kY,h5,h6,h7,e3,US,hs.bT,Int.toNat_natCast,hs.EA _ e2,aH];exact Ni
 ·have e3:¬(k:Int)<l.length:=Om
  have e4:k=l.length:=Om
  simp+contextual (disch:=omega) only[aL,h5,h6,h7,e3,Va,UD];rw[hf,e4,Vr];rfl
def r83{s l}(hs:aB h s 1 (l.map aE))(hl:l.length<2^63):ak P 83 [s] h (λv _=>v=.i (aO l)):=by
 refine .of T.mix T.c83 ?_;unfold fn83 gA;simp only[uset];have e1:(l.map aE).length=l.length:=Si
 simp only[aL,hs.iC,e1];refine WL.inv T.mix (λn ts h'=>∃k:Nat,k<=l.length/\n=l.length-k/\h' =h/\aO l=aO (l.drop k)/\ts.length=19/\slot ts 0=s/\slot ts 3=.i k) l.length
  ⟨0,Om,rfl,rfl,rfl,rfl,rfl,rfl⟩ ?_
 rintro _ ts _ ⟨k,hk,rfl,rfl,hf,hlen,h0,h3⟩;rw[jM ts 19 hlen];by_cases hlt:k<l.length
 ·have hd:l.drop k=l[k]::l.drop (k+1):=Si
  have e2:(l.map aE)[k]'Om=[AV.i l[k]]:=Si
  have e3:(k:Int)<l.length:=Om
  simp+contextual (disch:=omega) only[aL,kY,h0,h3,e3,e1,US,hs.iC,hs.bT,Int.toNat_natCast,hs.EA _ e2,aH];exact Ni
 ·have e3:¬(k:Int)<l.length:=Om
  have e4:k=l.length:=Om
  simp+contextual (disch:=omega) only[aL,h0,h3,e1,e3,Va,hs.iC,UD];rw[hf,e4,Vr];rfl
def r193(c:UInt8):ak P 193 [.int .u8 c.toNat] h (λv _=>v=.bool (fE c)):=by
 refine .of T.mix T.c193 ?_;unfold fn193 gA;simp only[uset];simp+contextual only[aL,kY,US,Va]
 grind [fE]
def r194(c:UInt8):ak P 194 [.int .u8 c.toNat] h (λv _=>v=.bool (cj c)):=by
 refine .of T.mix T.c194 ?_;unfold fn194 gA;simp only[uset];simp+contextual only[aL,kY,US,Va]
 grind [cj]
def r102(s:By)(hl:s.length<2^63):ak P 102 [.str s] h (λv _=>v=.bool (dG s)):=by
 refine .of T.mix T.c102 ?_;unfold fn102 gA;simp only[uset];cases s with
 |nil=>
  simp only[aL,Ul];simp only[show((0:Nat):Int)=0 from rfl,US,aL];rfl
 |cons c r=>
  have e1:¬(((c::r).length:Nat):Int)=0:=by simp;omega
  simp+contextual only[aL,kY,e1,US,Va];refine⟨λh1=>?_,λh1=>?_⟩
  ·have:¬r.length<24:=by simp at h1;omega
   simp[dG,this]
  ·rw[pK];simp only[aL];refine WF.ce T.c193 (r193 T _) λg=>?_
   have hlt:r.length<24:=by simp at h1;omega
   cases hc:fE c with
   |false=>
    simp only[aL,UF];simp[dG,hc]
   |true=>
    simp only[aL,UA];have key:dG (c::r)=r.all iZ:=by simp[dG,hc,hlt]
    refine WL.inv T.mix (λn ts h'=>∃k:Nat,k<=r.length/\n=r.length-k/\Ext h h'/\r.all iZ=(r.drop k).all iZ/\ts.length=42/\slot ts 0=.str (c::r)/\slot ts 3=.i (k+1)) r.length
     ⟨0,Om,rfl,⟨_,rfl⟩,rfl,rfl,rfl,rfl⟩ ?_
    rintro _ ts _ ⟨k,hk,rfl,⟨g',rfl⟩,hf,hlen,h0,h3⟩;rw[jM ts 42 hlen];have hlc:(c::r).length=r.length+1:=rfl;by_cases hlt:k<r.length
    ·have hd:r.drop k=r[k]::r.drop (k+1):=Si
     have e3:(k:Int)+1<((c::r).length:Nat):=Om
     have e4:yu (.str (c::r)) (.i (k+1))=some (.int .u8 r[k].toNat):=cA (s:=c::r) (i:=k+1) Om;simp only[aL,h0,h3,e3,US,e4];refine WF.ce T.c193 (r193 T _) λg1=>?_
     cases hx:fE r[k]with
     |true=>
      simp (disch:=omega) only[aL,UA,aH];exact⟨_,Om,k+1,Om,rfl,by rw[hf,hd,VJ,iZ,hx,W6,W6,VS],rfl⟩
     |false=>
      simp only[aL,UF,h0,h3,e4];refine WF.ce T.c194 (r194 T _) λg2=>?_
      cases hy:cj r[k]with
      |true=>
       simp (disch:=omega) only[aL,UA,aH];exact⟨_,Om,k+1,Om,rfl,by rw[hf,hd,VJ,iZ,hx,hy,Bool.or_true,W6,VS],rfl⟩
      |false=>
       simp+contextual (disch:=omega) only[aL,kY,UF,h0,h3,e4,aH];refine⟨λh9=>?_,λh9=>⟨_,Om,k+1,Om,rfl,?_,rfl⟩⟩
       ·rw[key,hf,hd,VJ,iZ,hx,hy];simp;omega
       ·rw[hf,hd,VJ,iZ,hx,hy];simp;omega
    ·have e3:¬(k:Int)+1<((c::r).length:Nat):=Om
     have e4:k=r.length:=Om
     simp only[aL,h0,h3,e3,Va,UD];rw[key,hf,e4,Vr];rfl
def r132(s:By):ak P 132 [.str s] h (λv _=>v=.bool (dG s)):=by
 refine .of T.mix T.c132 ?_;unfold fn132 gA;simp only[uset];simp only[aL,aR];refine WL.inv T.mix (λn ts h'=>∃k:Nat,k<=s.length/\n=s.length-k/\h' =h++[.iter s k]/\ji (s.take k)=true/\ts.length=54/\slot ts 0=.str s/\slot ts 8=.ptr h.length 0) s.length
  ⟨0,Om,rfl,rfl,rfl,rfl,rfl,rfl⟩ ?_
 rintro _ ts _ ⟨k,hk,rfl,rfl,hf,hlen,h0,h8⟩;rw[jM ts 54 hlen];by_cases hlt:k<s.length
 ·have OZ:=yx hlt;rw[hf,VS]at OZ;obtain⟨c,w,Qi,hcw⟩:∃c w,Utf8.decode ⟨⟨s⟩⟩ k=(c,w)/\(c=s[k].toNat/\w=1\/128<=c/\128<=s[k].toNat):=by
   by_cases hc:s[k].toNat<128
   ·exact⟨_,_,dec_lt hlt hc,.inl ⟨rfl,rfl⟩⟩
   ·exact z167
  have P7:(if k=0 then fE s[k]else iZ s[k])=false->AV.bool false=AV.bool (dG s):=λhb=>by
   rw[hb]at OZ;rw[qO,yw OZ,WU]
  have S0:∀w',c=s[k].toNat/\w' =1->(if k=0 then fE s[k]else iZ s[k])=true->∃m,m<s.length-k/\∃k_1,k_1<=s.length/\m=s.length-k_1/\h++[ai.iter s (k+w')]=h++[ai.iter s k_1]/\ji (List.take k_1 s)=true/\True:=λw' hw hb=>by
   rw[hb]at OZ;exact⟨_,Om,k+1,Om,rfl,by rw[hw.2],OZ,trivial⟩
  have hl:fE s[k]=(decide (65<=s[k].toNat)&&decide (s[k].toNat<=90)||decide (97<=s[k].toNat)&&decide (s[k].toNat<=122)):=rfl;have hr:iZ s[k]=(fE s[k]||(decide (48<=s[k].toNat)&&decide (s[k].toNat<=57))||s[k].toNat==95):=rfl;have h0':((k:Int)=0)=(k=0):=Si
  by_cases a1:(65:Int)<=c<;>by_cases a2:(c:Int)<=90<;>by_cases a3:(97:Int)<=c<;>by_cases a4:(c:Int)<=122<;>first|(exfalso;omega)|skip
  all_goals by_cases a5:(48:Int)<=c<;>by_cases a6:(c:Int)<=57<;>by_cases a7:(c:Int)=95<;>first|(exfalso;omega)|skip
  all_goals first|have b7:=VO a7|have b7:=Xd a7
  all_goals simp only[aL,aR,h0,h8,dF,hlt,UD,Qi,a1,a2,a3,a4,a5,a6,b7,US,Va,UA,UF]
  all_goals first
   |exact S0 _ Om (by grind)
   |(by_cases hk0:(k:Int)=0<;>simp only[aL,aR,hk0,US,Va,UA,UF]<;>first
     |exact P7 (by grind)
     |exact S0 _ Om (by grind))
   |exact P7 (by grind)
 ·simp only[aL,aR,h0,h8,dF,hlt,UC,UD];have e4:k=s.length:=Om
  rw[e4,UU]at hf;by_cases he:s=[]<;>simp only[aL,he,US,Va,ne_eq,not_true_eq_false,not_false_eq_true]
  ·rfl
  ·rw[qO,hf];simp[he];omega
end
end Go.Abs
namespace Go.Abs
def jx{α:Type}{f:α->By}{L:List α}{n:By}(h:n∈L.map f):eD (λx=>decide (f x=n)) L=(bJ (L.map f) n:Int):=by
 have e:bJ (L.map f) n=L.findIdx λx=>decide (f x=n):=by
  rw[bJ,List.findIdx_map];rfl
 have hlt:=eM h;rw[e,Uv]at hlt;rw[e,eD,List.findIdx?_eq_guard_findIdx_lt];simp[Option.guard,hlt]
def jy{α:Type}{f:α->By}{L:List α}{n:By}:decide (0<=eD (λx=>decide (f x=n)) L)=decide (n∈L.map f):=by
 rw[mo];rw[Bool.eq_iff_iff];simp[Wu]
section
variable {P:Program}(T:eF P) {h:af}
include T
def r230{α:Type}{row L s f}(hs:aB h s 3 (L.map row))(hl:L.length<2^63)(p:α->Bool)
  (hf:∀x,x∈L->∀k,Ext h k->aV P f [.agg (row x)] k (λv _=>v=.bool (p x))):ak P 230 [s,f] h (λv _=>v=.i (eD p L)):=by
 refine .of T.mix T.c230 ?_;unfold fn230 gA;exact z1
def r232{α:Type}{row L s f}(hs:aB h s 2 (L.map row))(hl:L.length<2^63)(p:α->Bool)
  (hf:∀x,x∈L->∀k,Ext h k->aV P f [.agg (row x)] k (λv _=>v=.bool (p x))):ak P 232 [s,f] h (λv _=>v=.i (eD p L)):=by
 refine .of T.mix T.c232 ?_;unfold fn232 gA;exact z1
def r228{α:Type}{row L s f}(hs:aB h s 3 (L.map row))(hl:L.length<2^63)(p:α->Bool)
  (hf:∀x,x∈L->∀k,Ext h k->aV P f [.agg (row x)] k (λv _=>v=.bool (p x))):ak P 228 [s,f] h (λv _=>v=.i (eD p L)):=by
 refine .of T.mix T.c228 ?_;unfold fn228 gA;exact z1
def r234{α:Type}{row L s f}(hs:aB h s 4 (L.map row))(hl:L.length<2^63)(p:α->Bool)
  (hf:∀x,x∈L->∀k,Ext h k->aV P f [.agg (row x)] k (λv _=>v=.bool (p x))):ak P 234 [s,f] h (λv _=>v=.i (eD p L)):=by
 refine .of T.mix T.c234 ?_;unfold fn234 gA;exact z1
def r236{α:Type}{row L s f}(hs:aB h s 3 (L.map row))(hl:L.length<2^63)(p:α->Bool)
  (hf:∀x,x∈L->∀k,Ext h k->aV P f [.agg (row x)] k (λv _=>v=.bool (p x))):ak P 236 [s,f] h (λv _=>v=.i (eD p L)):=by
 refine .of T.mix T.c236 ?_;unfold fn236 gA;exact z1
def r238{α:Type}{row L s f}(hs:aB h s 4 (L.map row))(hl:L.length<2^63)(p:α->Bool)
  (hf:∀x,x∈L->∀k,Ext h k->aV P f [.agg (row x)] k (λv _=>v=.bool (p x))):ak P 238 [s,f] h (λv _=>v=.i (eD p L)):=by
 refine .of T.mix T.c238 ?_;unfold fn238 gA;exact z1
def r246{α:Type}{row:α->List AV}{L:List α}{s f:AV}(hs:aB h s 3 (L.map row))(hl:L.length<2^63)(p:α->Bool)
  (hf:∀x,x∈L->∀k,Ext h k->aV P f [.agg (row x)] k (λv _=>v=.bool (p x))):ak P 246 [s,f] h (λv _=>v=.bool (L.any p)):=by
 refine .of T.mix T.c246 ?_;unfold fn246 gA;refine Wn ?_;refine WF.ce T.c230 (r230 T hs hl p hf) λg=>?_
 exact Ws @mo Tv
def r243{α:Type}{row:α->List AV}{L:List α}{s f:AV}(hs:aB h s 3 (L.map row))(hl:L.length<2^63)(p:α->Bool)
  (hf:∀x,x∈L->∀k,Ext h k->aV P f [.agg (row x)] k (λv _=>v=.bool (p x))):ak P 243 [s,f] h (λv _=>v=.bool (L.any p)):=by
 refine .of T.mix T.c243 ?_;unfold fn243 gA;refine Wn ?_;refine WF.ce T.c228 (r228 T hs hl p hf) λg=>?_
 exact Ws @mo Tv
def r268{α:Type}{row:α->List AV}{L:List α}{s f:AV}(hs:aB h s 4 (L.map row))(hl:L.length<2^63)(p:α->Bool)
  (hf:∀x,x∈L->∀k,Ext h k->aV P f [.agg (row x)] k (λv _=>v=.bool (p x))):ak P 268 [s,f] h (λv _=>v=.bool (L.any p)):=by
 refine .of T.mix T.c268 ?_;unfold fn268 gA;refine Wn ?_;refine WF.ce T.c238 (r238 T hs hl p hf) λg=>?_
 exact Ws @mo Tv
def r123(x:jO):ak P 123 [.agg (cp x)] h (λv _=>v=.str x.name):=by
 refine .of T.mix T.c123 ?_;unfold fn123 gA cp;exact Wn Tv
def r231(x:jO){b n}(hb:h[b]? =some (.b [.str n])):ak P 231 [.agg (cp x),.ptr b 0] h (λv _=>v=.bool (decide (x.name=n))):=by
 refine .of T.mix T.c231 ?_;unfold fn231 gA;have hlt:=(Ue.1 hb).1;have hld:∀g:af,aq none (.ptr b 0) (λz=>(h++g)[z]?)=dI none 0 (.b [.str n]):=λg=>az (by rw[cN _ hlt];exact hb)
 have Pt:∀g g':af,aq none (.ptr b 0) (λz=>(h++g++g')[z]?)=dI none 0 (.b [.str n]):=λg g'=>az (by rw[Uf,cN _ hlt];exact hb)
 unfold cp;refine Ws (A3 @hld @Pt @jk) ?_;refine WF.val (aV.yl T.m123 T.c123 (r123 T x)) ?_;rintro _ g1 rfl;exact z93
def r142{L s}(hs:aB h s 3 (L.map cp))(hl:L.length<2^63)(n:By):ak P 142 [s,.str n] h (λv _=>v=.i (eD (λx=>decide (x.name=n)) L)):=by
 refine .of T.mix T.c142 ?_;unfold fn142 gA;refine Wn ?_;refine WF.ce T.c230 (r230 T (hs.ext (by repeat first|exact Ext.refl _|refine Ext.app _ ?_)) hl (λx=>decide (x.name=n)) (λx hx k e=>aV.of (a:=[]) (c:=[.ptr h.length 0]) T.c231 (r231 T x (e.some bO)))) λg1=>?_
 exact Wn Tv
def r322(x:uU):ak P 322 [.agg (eP x)] h (λv _=>v=.str x.name):=by
 refine .of T.mix T.c322 ?_;unfold fn322 gA eP;exact Wn Tv
def r233(x:uU){b n}(hb:h[b]? =some (.b [.str n])):ak P 233 [.agg (eP x),.ptr b 0] h (λv _=>v=.bool (decide (x.name=n))):=by
 refine .of T.mix T.c233 ?_;unfold fn233 gA;have hlt:=(Ue.1 hb).1;have hld:∀g:af,aq none (.ptr b 0) (λz=>(h++g)[z]?)=dI none 0 (.b [.str n]):=λg=>az (by rw[cN _ hlt];exact hb)
 have Pt:∀g g':af,aq none (.ptr b 0) (λz=>(h++g++g')[z]?)=dI none 0 (.b [.str n]):=λg g'=>az (by rw[Uf,cN _ hlt];exact hb)
 unfold eP;refine Ws (A3 @hld @Pt @jk) ?_;refine WF.val (aV.yl T.m322 T.c322 (r322 T x)) ?_;rintro _ g1 rfl;exact z93
def r143{L s}(hs:aB h s 2 (L.map eP))(hl:L.length<2^63)(n:By):ak P 143 [s,.str n] h (λv _=>v=.i (eD (λx=>decide (x.name=n)) L)):=by
 refine .of T.mix T.c143 ?_;unfold fn143 gA;refine Wn ?_;refine WF.ce T.c232 (r232 T (hs.ext (by repeat first|exact Ext.refl _|refine Ext.app _ ?_)) hl (λx=>decide (x.name=n)) (λx hx k e=>aV.of (a:=[]) (c:=[.ptr h.length 0]) T.c233 (r233 T x (e.some bO)))) λg1=>?_
 exact Wn Tv
def r140(x:kM×AV)(ho:x.2.one=true):ak P 140 [.agg (bg x)] h (λv _=>v=.str x.1.name):=by
 refine .of T.mix T.c140 ?_;unfold fn140 gA bg;exact Ws @ho Tv
def r229(x:kM×AV)(ho:x.2.one=true){b n}(hb:h[b]? =some (.b [.str n])):ak P 229 [.agg (bg x),.ptr b 0] h (λv _=>v=.bool (decide (x.1.name=n))):=by
 refine .of T.mix T.c229 ?_;unfold fn229 gA;have hlt:=(Ue.1 hb).1;have hld:∀g:af,aq none (.ptr b 0) (λz=>(h++g)[z]?)=dI none 0 (.b [.str n]):=λg=>az (by rw[cN _ hlt];exact hb)
 have Pt:∀g g':af,aq none (.ptr b 0) (λz=>(h++g++g')[z]?)=dI none 0 (.b [.str n]):=λg g'=>az (by rw[Uf,cN _ hlt];exact hb)
 unfold bg;refine Ws (A4 @hld @Pt @ho @jk) ?_;refine WF.val (aV.yl T.m140 T.c140 (r140 T x ho)) ?_;rintro _ g1 rfl;exact z93
def r136{L s}(hs:aB h s 3 (L.map bg))(ho:∀x∈L,x.2.one=true)(hl:L.length<2^63)(n:By):ak P 136 [s,.str n] h (λv _=>v=.i (eD (λx=>decide (x.1.name=n)) L)):=by
 refine .of T.mix T.c136 ?_;unfold fn136 gA;refine Wn ?_;refine WF.ce T.c228 (r228 T (hs.ext (by repeat first|exact Ext.refl _|refine Ext.app _ ?_)) hl (λx=>decide (x.1.name=n)) (λx hx k e=>aV.of (a:=[]) (c:=[.ptr h.length 0]) T.c229 (r229 T x (ho x hx) (e.some bO)))) λg1=>?_
 exact Wn Tv
def r120(x:jH×AV)(ho:x.2.one=true):ak P 120 [.agg (aP x)] h (λv _=>v=.str x.1.name):=by
 refine .of T.mix T.c120 ?_;unfold fn120 gA aP;exact Ws @ho Tv
def r235(x:jH×AV)(ho:x.2.one=true){b n}(hb:h[b]? =some (.b [.str n])):ak P 235 [.agg (aP x),.ptr b 0] h (λv _=>v=.bool (decide (x.1.name=n))):=by
 refine .of T.mix T.c235 ?_;unfold fn235 gA;have hlt:=(Ue.1 hb).1;have hld:∀g:af,aq none (.ptr b 0) (λz=>(h++g)[z]?)=dI none 0 (.b [.str n]):=λg=>az (by rw[cN _ hlt];exact hb)
 have Pt:∀g g':af,aq none (.ptr b 0) (λz=>(h++g++g')[z]?)=dI none 0 (.b [.str n]):=λg g'=>az (by rw[Uf,cN _ hlt];exact hb)
 unfold aP;refine Ws (A4 @hld @Pt @ho @jk) ?_;refine WF.val (aV.yl T.m120 T.c120 (r120 T x ho)) ?_;rintro _ g1 rfl;exact z93
def r144{L s}(hs:aB h s 4 (L.map aP))(ho:∀x∈L,x.2.one=true)(hl:L.length<2^63)(n:By):ak P 144 [s,.str n] h (λv _=>v=.i (eD (λx=>decide (x.1.name=n)) L)):=by
 refine .of T.mix T.c144 ?_;unfold fn144 gA;refine Wn ?_;refine WF.ce T.c234 (r234 T (hs.ext (by repeat first|exact Ext.refl _|refine Ext.app _ ?_)) hl (λx=>decide (x.1.name=n)) (λx hx k e=>aV.of (a:=[]) (c:=[.ptr h.length 0]) T.c235 (r235 T x (ho x hx) (e.some bO)))) λg1=>?_
 exact Wn Tv
def r324(x:mV×AV)(ho:x.2.one=true):ak P 324 [.agg (bS x)] h (λv _=>v=.str x.1.name):=by
 refine .of T.mix T.c324 ?_;unfold fn324 gA bS;exact Ws @ho Tv
def r237(x:mV×AV)(ho:x.2.one=true){b n}(hb:h[b]? =some (.b [.str n])):ak P 237 [.agg (bS x),.ptr b 0] h (λv _=>v=.bool (decide (x.1.name=n))):=by
 refine .of T.mix T.c237 ?_;unfold fn237 gA;have hlt:=(Ue.1 hb).1;have hld:∀g:af,aq none (.ptr b 0) (λz=>(h++g)[z]?)=dI none 0 (.b [.str n]):=λg=>az (by rw[cN _ hlt];exact hb)
 have Pt:∀g g':af,aq none (.ptr b 0) (λz=>(h++g++g')[z]?)=dI none 0 (.b [.str n]):=λg g'=>az (by rw[Uf,cN _ hlt];exact hb)
 unfold bS;refine Ws (A4 @hld @Pt @ho @jk) ?_;refine WF.val (aV.yl T.m324 T.c324 (r324 T x ho)) ?_;rintro _ g1 rfl;exact z93
def r145{L s}(hs:aB h s 3 (L.map bS))(ho:∀x∈L,x.2.one=true)(hl:L.length<2^63)(n:By):ak P 145 [s,.str n] h (λv _=>v=.i (eD (λx=>decide (x.1.name=n)) L)):=by
 refine .of T.mix T.c145 ?_;unfold fn145 gA;refine Wn ?_;refine WF.ce T.c236 (r236 T (hs.ext (by repeat first|exact Ext.refl _|refine Ext.app _ ?_)) hl (λx=>decide (x.1.name=n)) (λx hx k e=>aV.of (a:=[]) (c:=[.ptr h.length 0]) T.c237 (r237 T x (ho x hx) (e.some bO)))) λg1=>?_
 exact Wn Tv
def r323(x:rv):ak P 323 [.agg (dN x)] h (λv _=>v=.str x.name):=by
 refine .of T.mix T.c323 ?_;unfold fn323 gA dN;exact Wn Tv
def r239(x:rv){b n}(hb:h[b]? =some (.b [.str n])):ak P 239 [.agg (dN x),.ptr b 0] h (λv _=>v=.bool (decide (x.name=n))):=by
 refine .of T.mix T.c239 ?_;unfold fn239 gA;have hlt:=(Ue.1 hb).1;have hld:∀g:af,aq none (.ptr b 0) (λz=>(h++g)[z]?)=dI none 0 (.b [.str n]):=λg=>az (by rw[cN _ hlt];exact hb)
 have Pt:∀g g':af,aq none (.ptr b 0) (λz=>(h++g++g')[z]?)=dI none 0 (.b [.str n]):=λg g'=>az (by rw[Uf,cN _ hlt];exact hb)
 unfold dN;refine Ws (A3 @hld @Pt @jk) ?_;refine WF.val (aV.yl T.m323 T.c323 (r323 T x)) ?_;rintro _ g1 rfl;exact z93
def r146{L s}(hs:aB h s 4 (L.map dN))(hl:L.length<2^63)(n:By):ak P 146 [s,.str n] h (λv _=>v=.i (eD (λx=>decide (x.name=n)) L)):=by
 refine .of T.mix T.c146 ?_;unfold fn146 gA;refine Wn ?_;refine WF.ce T.c238 (r238 T (hs.ext (by repeat first|exact Ext.refl _|refine Ext.app _ ?_)) hl (λx=>decide (x.name=n)) (λx hx k e=>aV.of (a:=[]) (c:=[.ptr h.length 0]) T.c239 (r239 T x (e.some bO)))) λg1=>?_
 exact Wn Tv
end
def aB.Lo{h s es cs}(hs:aB h s es cs):(s=.ah/\cs=[])\/(∀neg:Bool,sa neg (nw .Ck s .ah)=some (.bool neg)):=by
 cases hs with
 |nil=>exact .inl ⟨rfl,rfl⟩
 |mk hb hf ho he=>right;intro neg;cases neg<;>rfl
def As:sa false (nw .Ck .ah .ah)=some (.bool true):=rfl
attribute [local irreducible] WP WC WE WB WR WF WL WG fo
section
variable {P:Program}(T:eF P) {h:af}
include T
def r177{s cs}(hs:aB h s 1 cs)(hl:cs.length<=2^40):ak P 177 [s] h (λv h'=>Fr h.length h' v 1 cs):=by
 refine .of T.mix T.c177 ?_;unfold fn177 gA;exact z21
def r178{s cs}(hs:aB h s 1 cs)(hl:cs.length<=2^40):ak P 178 [s] h (λv h'=>Fr h.length h' v 1 cs):=by
 refine .of T.mix T.c178 ?_;unfold fn178 gA;exact z21
def r179{s cs}(hs:aB h s 2 cs)(hl:cs.length<=2^40):ak P 179 [s] h (λv h'=>Fr h.length h' v 2 cs):=by
 refine .of T.mix T.c179 ?_;unfold fn179 gA;exact z21
def r181(x:kM×AV)(hx:aB h x.2 1 (x.1.aK.map al))(hl:x.1.aK.length<=2^40):ak P 181 [.agg (bg x)] h (λv h'=>∃s',v=.agg (bg (x.1,s'))/\Fr h.length h' s' 1 (x.1.aK.map al)):=by
 refine .of T.mix T.c181 ?_;obtain⟨ts,Ol⟩:∃ts,ts=aQ 8 [.agg (bg x)]:=⟨_,rfl⟩;have hlen:ts.length=8:=by rw[Ol];rfl
 have t0:slot ts 0=.agg (bg x):=by rw[Ol];rfl
 unfold fn181 gA;show WC P cB _ [] (aQ 8 [.agg (bg x)]) h _;rw[<-Ol];clear Ol;have o1:=hx.one;unfold bg at t0 ⊢;exact z53
def r183(x:jH×AV)(hx:aB h x.2 1 (x.1.bF.map al))(hl:x.1.bF.length<=2^40):ak P 183 [.agg (aP x)] h (λv h'=>∃s',v=.agg (aP (x.1,s'))/\Fr h.length h' s' 1 (x.1.bF.map al)):=by
 refine .of T.mix T.c183 ?_;obtain⟨ts,Ol⟩:∃ts,ts=aQ 8 [.agg (aP x)]:=⟨_,rfl⟩;have hlen:ts.length=8:=by rw[Ol];rfl
 have t0:slot ts 0=.agg (aP x):=by rw[Ol];rfl
 unfold fn183 gA;show WC P cB _ [] (aQ 8 [.agg (aP x)]) h _;rw[<-Ol];clear Ol;have o1:=hx.one;unfold aP at t0 ⊢;exact z53
def r185(x:mV×AV)(hx:aB h x.2 1 (x.1.b9.map aE))(hl:x.1.b9.length<=2^40):ak P 185 [.agg (bS x)] h (λv h'=>∃s',v=.agg (bS (x.1,s'))/\Fr h.length h' s' 1 (x.1.b9.map aE)):=by
 refine .of T.mix T.c185 ?_;obtain⟨ts,Ol⟩:∃ts,ts=aQ 8 [.agg (bS x)]:=⟨_,rfl⟩;have hlen:ts.length=8:=by rw[Ol];rfl
 have t0:slot ts 0=.agg (bS x):=by rw[Ol];rfl
 unfold fn185 gA;show WC P cB _ [] (aQ 8 [.agg (bS x)]) h _;rw[<-Ol];clear Ol;have o1:=hx.one;unfold bS at t0 ⊢;refine Rs (A2 t0 @o1) ?_;refine WF.res T.c178 (r178 T (hx.ext Xx) (by simp;omega)) ?_;rintro s' g1 hf;have o2:=hf.aM.one;refine Rs (A3 t0 @o1 @o2) ?_;exact⟨s',rfl,(Fr.swap hf Si).low Si⟩
set_option maxRecDepth 10000 in
def r91(x:EV)(hx:aZ h x)(hl:x.ev.names.length<=2^40/\x.ev.ba.length<=2^40):ak P 91 [.agg x.row] h (λv h'=>∃x':EV,x'.ev=x.ev/\v=.agg x'.row/\Fr h.length h' x'.sn 1 (x.ev.names.map al)/\Fr h.length h' x'.sv 1 (x.ev.ba.map aE)):=by
 refine .of T.mix T.c91 ?_;obtain⟨ts,Ol⟩:∃ts,ts=aQ 12 [.agg x.row]:=⟨_,rfl⟩;have hlen:ts.length=12:=by rw[Ol];rfl
 have t0:slot ts 0=.agg x.row:=by rw[Ol];rfl
 unfold fn91;show WC P cB _ [] (aQ 12 [.agg x.row]) h _;rw[<-Ol];clear Ol;have o1:=hx.n.one;have o2:=hx.v.one;unfold EV.row at t0 ⊢;refine Rs (A3 t0 @o1 @o2) ?_;refine WF.res T.c177 (r177 T (hx.n.ext Xx) (by simp;omega)) ?_;rintro s1 g1 Re;have o3:=Re.aM.one;refine Rs (A4 t0 @o1 @o2 @o3) ?_;refine WF.res T.c178 (r178 T (hx.v.ext Xx) (by simp;omega)) ?_;rintro s2 g2 QA;have o4:=QA.aM.one;refine Rs (A5 t0 @o1 @o2 @o3 @o4) ?_;refine⟨⟨x.ev,s1,s2⟩,rfl,rfl,?_,?_⟩
 ·exact((Fr.swap Re Si).app _).low Si
 ·exact(Fr.swap QA Si).low Si
def r130{L:List (By)}{s f:AV}(hs:aB h s 1 (L.map al))(hl:L.length<=2^40)(F:(By)->Int)(hf:∀x,x∈L->∀k,Ext h k->aV P f [.str x] k (λv _=>v=.i (F x))):
  ak P 130 [s,f] h (λv h'=>Fr h.length h' v 1 ((L.map F).map aE)):=by
 refine .of T.mix T.c130 ?_;unfold fn130 gA;refine Ws hs.aS ?_;refine WL.inv T.mix (λn ts h'=>∃(k:Nat) (out:AV),k<=L.length/\n=L.length-k/\Ext h h'/\Fr h.length h' out 1 (((L.take k).map F).map aE)/\ts.length=22/\slot ts 1=f/\slot ts 5=out/\slot ts 8=s/\slot ts 9=.i L.length/\slot ts 10=.i k) L.length
  ⟨0,.ah,Om,rfl,Ext.refl h,.nil,rfl,rfl,rfl,rfl,rfl,rfl⟩ ?_
 rintro _ ts _ ⟨k,out,hk,rfl,⟨g,rfl⟩,hfr,hlen,t1,t5,t8,t9,t10⟩;rw[jM ts 22 hlen];by_cases hlt:k<L.length
 ·have e3:(k:Int)<L.length:=Om
  have hvk:=hf L[k] Si;have Sb:∀{kk:af},Ext h kk->aq none (eO s 1 k) (λb=>kk[b]?)=some (.str L[k],.ar):=λ{kk} e=>hs.kK hlt rfl e
  simp only[aL,aR,bd,bf,reduceAdd,reduceMul,reduceLeDiff,reduceEqDiff,t1,t5,t8,t9,t10,e3,US,hs.fx hlt,Sb];refine WF.val (hvk _ (by repeat first|exact Ext.refl _|refine Ext.app _ ?_)) ?_;rintro _ g1 rfl;refine Wn ?_;refine WR.gj (h0:=h) (cs:=((L.take k).map F).map aE) (ys:=[aE (F L[k])]) (((hfr.app _).app _)) (Fr.push (N:=0) (UK _) [aE (F L[k])] (by simp[aE])).aM De Si (by simp;omega) (by simp only[qi]) ?_;intro g' OJ hff hkp;have hrow:((L.take k).map F).map aE++[aE (F L[k])]=((L.take (k+1)).map F).map aE:=by rw[U9,Uj hlt,Up,Up];rfl
  exact z5
 ·exact z4
def r92{L:List (Int)}{s f:AV}(hs:aB h s 1 (L.map aE))(hl:L.length<=2^40)(F:(Int)->Int)(hf:∀x,x∈L->∀k,Ext h k->aV P f [.i x] k (λv _=>v=.i (F x))):
  ak P 92 [s,f] h (λv h'=>Fr h.length h' v 1 ((L.map F).map aE)):=by
 refine .of T.mix T.c92 ?_;unfold fn92 Ij;refine Ws hs.aS ?_;refine WL.inv T.mix (λn ts h'=>∃(k:Nat) (out:AV),k<=L.length/\n=L.length-k/\Ext h h'/\Fr h.length h' out 1 (((L.take k).map F).map aE)/\ts.length=22/\slot ts 1=f/\slot ts 5=out/\slot ts 8=s/\slot ts 9=.i L.length/\slot ts 10=.i k) L.length
  ⟨0,.ah,Om,rfl,Ext.refl h,.nil,rfl,rfl,rfl,rfl,rfl,rfl⟩ ?_
 rintro _ ts _ ⟨k,out,hk,rfl,⟨g,rfl⟩,hfr,hlen,t1,t5,t8,t9,t10⟩;rw[jM ts 22 hlen];by_cases hlt:k<L.length
 ·have e3:(k:Int)<L.length:=Om
  have hvk:=hf L[k] Si;have Sb:∀{kk:af},Ext h kk->aq none (eO s 1 k) (λb=>kk[b]?)=some (.i L[k],.ar):=λ{kk} e=>hs.kK hlt rfl e
  simp only[aL,aR,bd,bf,reduceAdd,reduceMul,reduceLeDiff,reduceEqDiff,t1,t5,t8,t9,t10,e3,US,hs.fx hlt,Sb];refine WF.val (hvk _ (by repeat first|exact Ext.refl _|refine Ext.app _ ?_)) ?_;rintro _ g1 rfl;refine Wn ?_;refine WR.gj (h0:=h) (cs:=((L.take k).map F).map aE) (ys:=[aE (F L[k])]) (((hfr.app _).app _)) (Fr.push (N:=0) (UK _) [aE (F L[k])] (by simp[aE])).aM De Si (by simp;omega) (by simp only[qi]) ?_;intro g' OJ hff hkp;have hrow:((L.take k).map F).map aE++[aE (F L[k])]=((L.take (k+1)).map F).map aE:=by rw[U9,Uj hlt,Up,Up];rfl
  exact z5
 ·exact z4
def r199{L:List (Int)}{s f:AV}(hs:aB h s 1 (L.map aE))(hl:L.length<=2^40)(F:(Int)->By)(hf:∀x,x∈L->∀k,Ext h k->aV P f [.i x] k (λv _=>v=.str (F x))):
  ak P 199 [s,f] h (λv h'=>Fr h.length h' v 1 ((L.map F).map al)):=by
 refine .of T.mix T.c199 ?_;unfold fn199 gA;refine Ws hs.aS ?_;refine WL.inv T.mix (λn ts h'=>∃(k:Nat) (out:AV),k<=L.length/\n=L.length-k/\Ext h h'/\Fr h.length h' out 1 (((L.take k).map F).map al)/\ts.length=22/\slot ts 1=f/\slot ts 5=out/\slot ts 8=s/\slot ts 9=.i L.length/\slot ts 10=.i k) L.length
  ⟨0,.ah,Om,rfl,Ext.refl h,.nil,rfl,rfl,rfl,rfl,rfl,rfl⟩ ?_
 rintro _ ts _ ⟨k,out,hk,rfl,⟨g,rfl⟩,hfr,hlen,t1,t5,t8,t9,t10⟩;rw[jM ts 22 hlen];by_cases hlt:k<L.length
 ·have e3:(k:Int)<L.length:=Om
  have hvk:=hf L[k] Si;have Sb:∀{kk:af},Ext h kk->aq none (eO s 1 k) (λb=>kk[b]?)=some (.i L[k],.ar):=λ{kk} e=>hs.kK hlt rfl e
  simp only[aL,aR,bd,bf,reduceAdd,reduceMul,reduceLeDiff,reduceEqDiff,t1,t5,t8,t9,t10,e3,US,hs.fx hlt,Sb];refine WF.val (hvk _ (by repeat first|exact Ext.refl _|refine Ext.app _ ?_)) ?_;rintro _ g1 rfl;refine Wn ?_;refine WR.gj (h0:=h) (cs:=((L.take k).map F).map al) (ys:=[al (F L[k])]) (((hfr.app _).app _)) (Fr.push (N:=0) (UK _) [al (F L[k])] (by simp[al])).aM De Si (by simp;omega) (by simp only[qi]) ?_;intro g' OJ hff hkp;have hrow:((L.take k).map F).map al++[al (F L[k])]=((L.take (k+1)).map F).map al:=by rw[U9,Uj hlt,Up,Up];rfl
  exact z5
 ·exact z4
def r137{L:List (kM×AV)}{s f:AV}(hs:aB h s 3 (L.map bg))(ho:∀x∈L,x.2.one=true)(hl:L.length<=2^40)(F:(kM×AV)->By)(hf:∀x,x∈L->∀k,Ext h k->aV P f [.agg (bg x)] k (λv _=>v=.str (F x))):
  ak P 137 [s,f] h (λv h'=>Fr h.length h' v 1 ((L.map F).map al)):=by
 refine .of T.mix T.c137 ?_;unfold fn137 gA;refine Ws hs.aS ?_;refine WL.inv T.mix (λn ts h'=>∃(k:Nat) (out:AV),k<=L.length/\n=L.length-k/\Ext h h'/\Fr h.length h' out 1 (((L.take k).map F).map al)/\ts.length=22/\slot ts 1=f/\slot ts 5=out/\slot ts 8=s/\slot ts 9=.i L.length/\slot ts 10=.i k) L.length
  ⟨0,.ah,Om,rfl,Ext.refl h,.nil,rfl,rfl,rfl,rfl,rfl,rfl⟩ ?_
 rintro _ ts _ ⟨k,out,hk,rfl,⟨g,rfl⟩,hfr,hlen,t1,t5,t8,t9,t10⟩;rw[jM ts 22 hlen];by_cases hlt:k<L.length
 ·have e3:(k:Int)<L.length:=Om
  have hvk:=hf L[k] Si;simp only[aL,aR,bd,bf,reduceAdd,reduceMul,reduceLeDiff,reduceEqDiff,t1,t5,t8,t9,t10,e3,US,hs.fx hlt,hs.mY hlt,bg,ho L[k] Si];exact z3
 ·exact z4
def r121{L:List (jO)}{s f:AV}(hs:aB h s 3 (L.map cp))(hl:L.length<=2^40)(F:(jO)->By)(hf:∀x,x∈L->∀k,Ext h k->aV P f [.agg (cp x)] k (λv _=>v=.str (F x))):
  ak P 121 [s,f] h (λv h'=>Fr h.length h' v 1 ((L.map F).map al)):=by
 refine .of T.mix T.c121 ?_;unfold fn121 gA;refine Ws hs.aS ?_;refine WL.inv T.mix (λn ts h'=>∃(k:Nat) (out:AV),k<=L.length/\n=L.length-k/\Ext h h'/\Fr h.length h' out 1 (((L.take k).map F).map al)/\ts.length=22/\slot ts 1=f/\slot ts 5=out/\slot ts 8=s/\slot ts 9=.i L.length/\slot ts 10=.i k) L.length
  ⟨0,.ah,Om,rfl,Ext.refl h,.nil,rfl,rfl,rfl,rfl,rfl,rfl⟩ ?_
 rintro _ ts _ ⟨k,out,hk,rfl,⟨g,rfl⟩,hfr,hlen,t1,t5,t8,t9,t10⟩;rw[jM ts 22 hlen];by_cases hlt:k<L.length
 ·have e3:(k:Int)<L.length:=Om
  have hvk:=hf L[k] Si;simp only[aL,aR,bd,bf,reduceAdd,reduceMul,reduceLeDiff,reduceEqDiff,t1,t5,t8,t9,t10,e3,US,hs.fx hlt,hs.mY hlt,cp];exact z3
 ·exact z4
def r117{L:List (jH×AV)}{s f:AV}(hs:aB h s 4 (L.map aP))(ho:∀x∈L,x.2.one=true)(hl:L.length<=2^40)(F:(jH×AV)->By)(hf:∀x,x∈L->∀k,Ext h k->aV P f [.agg (aP x)] k (λv _=>v=.str (F x))):
  ak P 117 [s,f] h (λv h'=>Fr h.length h' v 1 ((L.map F).map al)):=by
 refine .of T.mix T.c117 ?_;unfold fn117 gA;refine Ws hs.aS ?_;refine WL.inv T.mix (λn ts h'=>∃(k:Nat) (out:AV),k<=L.length/\n=L.length-k/\Ext h h'/\Fr h.length h' out 1 (((L.take k).map F).map al)/\ts.length=22/\slot ts 1=f/\slot ts 5=out/\slot ts 8=s/\slot ts 9=.i L.length/\slot ts 10=.i k) L.length
  ⟨0,.ah,Om,rfl,Ext.refl h,.nil,rfl,rfl,rfl,rfl,rfl,rfl⟩ ?_
 rintro _ ts _ ⟨k,out,hk,rfl,⟨g,rfl⟩,hfr,hlen,t1,t5,t8,t9,t10⟩;rw[jM ts 22 hlen];by_cases hlt:k<L.length
 ·have e3:(k:Int)<L.length:=Om
  have hvk:=hf L[k] Si;simp only[aL,aR,bd,bf,reduceAdd,reduceMul,reduceLeDiff,reduceEqDiff,t1,t5,t8,t9,t10,e3,US,hs.fx hlt,hs.mY hlt,aP,ho L[k] Si];exact z3
 ·exact z4
def r115{L:List (EV)}{s f:AV}(hs:aB h s 5 (L.map EV.row))(ho:∀x∈L,x.sn.one=true/\x.sv.one=true)(hl:L.length<=2^40)(F:(EV)->By)(hf:∀x,x∈L->∀k,Ext h k->aV P f [.agg (EV.row x)] k (λv _=>v=.str (F x))):
  ak P 115 [s,f] h (λv h'=>Fr h.length h' v 1 ((L.map F).map al)):=by
 refine .of T.mix T.c115 ?_;unfold fn115 gA;refine Ws hs.aS ?_;refine WL.inv T.mix (λn ts h'=>∃(k:Nat) (out:AV),k<=L.length/\n=L.length-k/\Ext h h'/\Fr h.length h' out 1 (((L.take k).map F).map al)/\ts.length=22/\slot ts 1=f/\slot ts 5=out/\slot ts 8=s/\slot ts 9=.i L.length/\slot ts 10=.i k) L.length
  ⟨0,.ah,Om,rfl,Ext.refl h,.nil,rfl,rfl,rfl,rfl,rfl,rfl⟩ ?_
 rintro _ ts _ ⟨k,out,hk,rfl,⟨g,rfl⟩,hfr,hlen,t1,t5,t8,t9,t10⟩;rw[jM ts 22 hlen];by_cases hlt:k<L.length
 ·have e3:(k:Int)<L.length:=Om
  have hvk:=hf L[k] Si;simp only[aL,aR,bd,bf,reduceAdd,reduceMul,reduceLeDiff,reduceEqDiff,t1,t5,t8,t9,t10,e3,US,hs.fx hlt,hs.mY hlt,EV.row,(ho L[k] Si).1,(ho L[k] Si).2];exact z3
 ·exact z4
set_option maxRecDepth 10000 in
def r138{L:List (kM×AV)}{s f:AV}(hs:aB h s 3 (L.map bg))(ho:∀x∈L,x.2.one=true)(hl:L.length<=2^38)(p:(kM×AV)->Bool)(hf:∀x,x∈L->∀k,Ext h k->aV P f [.agg (bg x)] k (λv _=>v=.bool (p x))):
  ak P 138 [s,f] h (λv h'=>Fr h.length h' v 3 ((L.filter p).map bg)):=by
 refine .of T.mix T.c138 ?_;unfold fn138 gA;refine Ws hs.aS ?_;refine WL.inv T.mix (λn ts h'=>∃(k:Nat) (out:AV),k<=L.length/\n=L.length-k/\Ext h h'/\Fr h.length h' out 3 (((L.take k).filter p).map bg)/\ts.length=23/\slot ts 1=f/\slot ts 5=out/\slot ts 8=s/\slot ts 9=.i L.length/\slot ts 10=.i k) L.length
  ⟨0,.ah,Om,rfl,Ext.refl h,.nil,rfl,rfl,rfl,rfl,rfl,rfl⟩ ?_
 rintro _ ts _ ⟨k,out,hk,rfl,⟨g,rfl⟩,hfr,hlen,t1,t5,t8,t9,t10⟩;rw[jM ts 23 hlen];by_cases hlt:k<L.length
 ·have e3:(k:Int)<L.length:=Om
  have hvk:=hf L[k] Si;have OK:(L.take (k+1)).filter p=(L.take k).filter p++(if p L[k]=true then [L[k]]else []):=by
   exact z51
  have O1:((L.take k).filter p).length<=L.length:=Vk (U7 _ _) (by rw[U6];omega);simp only[aL,aR,bd,bf,reduceAdd,reduceMul,reduceLeDiff,reduceEqDiff,t1,t5,t8,t9,t10,e3,US,hs.fx hlt,hs.mY hlt,bg,ho L[k] Si];refine WF.val (hvk _ (by repeat first|exact Ext.refl _|refine Ext.app _ ?_)) ?_;rintro _ g1 rfl;cases hp:p L[k]with
  |true=>
   rw[hp,Ut rfl]at OK;simp only[aL,aR,bd,bf,reduceAdd,reduceMul,reduceLeDiff,reduceEqDiff,ho L[k] Si];refine WR.gj (h0:=h) (cs:=((L.take k).filter p).map bg) (ys:=[bg L[k]]) (((hfr.app _).app _).app _) (Fr.push (N:=0) (UK _) [bg L[k]] (by simp[bg])).aM De Si (by simp only[Uv,Ui,Ul];omega) (by simp only[qi]) ?_;intro g' OJ hff hkp;have hrow:((L.take k).filter p).map bg++[bg L[k]]=((L.take (k+1)).filter p).map bg:=by rw[OK,Up];rfl
   exact z5
  |false=>
   exact KG
 ·exact z4
set_option maxRecDepth 10000 in
def r216{L:List (jO)}{s f:AV}(hs:aB h s 3 (L.map cp))(hl:L.length<=2^38)(p:(jO)->Bool)(hf:∀x,x∈L->∀k,Ext h k->aV P f [.agg (cp x)] k (λv _=>v=.bool (p x))):
  ak P 216 [s,f] h (λv h'=>Fr h.length h' v 3 ((L.filter p).map cp)):=by
 refine .of T.mix T.c216 ?_;unfold fn216 gA;refine Ws hs.aS ?_;refine WL.inv T.mix (λn ts h'=>∃(k:Nat) (out:AV),k<=L.length/\n=L.length-k/\Ext h h'/\Fr h.length h' out 3 (((L.take k).filter p).map cp)/\ts.length=23/\slot ts 1=f/\slot ts 5=out/\slot ts 8=s/\slot ts 9=.i L.length/\slot ts 10=.i k) L.length
  ⟨0,.ah,Om,rfl,Ext.refl h,.nil,rfl,rfl,rfl,rfl,rfl,rfl⟩ ?_
 rintro _ ts _ ⟨k,out,hk,rfl,⟨g,rfl⟩,hfr,hlen,t1,t5,t8,t9,t10⟩;rw[jM ts 23 hlen];by_cases hlt:k<L.length
 ·have e3:(k:Int)<L.length:=Om
  have hvk:=hf L[k] Si;have OK:(L.take (k+1)).filter p=(L.take k).filter p++(if p L[k]=true then [L[k]]else []):=by
   exact z51
  have O1:((L.take k).filter p).length<=L.length:=Vk (U7 _ _) (by rw[U6];omega);simp only[aL,aR,bd,bf,reduceAdd,reduceMul,reduceLeDiff,reduceEqDiff,t1,t5,t8,t9,t10,e3,US,hs.fx hlt,hs.mY hlt,cp];refine WF.val (hvk _ (by repeat first|exact Ext.refl _|refine Ext.app _ ?_)) ?_;rintro _ g1 rfl;cases hp:p L[k]with
  |true=>
   rw[hp,Ut rfl]at OK;refine Wn ?_;refine WR.gj (h0:=h) (cs:=((L.take k).filter p).map cp) (ys:=[cp L[k]]) (((hfr.app _).app _).app _) (Fr.push (N:=0) (UK _) [cp L[k]] (by simp[cp])).aM De Si (by simp only[Uv,Ui,Ul];omega) (by simp only[qi]) ?_;intro g' OJ hff hkp;have hrow:((L.take k).filter p).map cp++[cp L[k]]=((L.take (k+1)).filter p).map cp:=by rw[OK,Up];rfl
   exact z5
  |false=>
   exact KG
 ·exact z4
set_option maxRecDepth 10000 in
def r88{L:List (EV)}{s f:AV}(hs:aB h s 5 (L.map EV.row))(ho:∀x∈L,x.sn.one=true/\x.sv.one=true)(hl:L.length<=2^38)(p:(EV)->Bool)(hf:∀x,x∈L->∀k,Ext h k->aV P f [.agg (EV.row x)] k (λv _=>v=.bool (p x))):
  ak P 88 [s,f] h (λv h'=>Fr h.length h' v 5 ((L.filter p).map EV.row)):=by
 refine .of T.mix T.c88 ?_;unfold fn88 gA;refine Ws hs.aS ?_;refine WL.inv T.mix (λn ts h'=>∃(k:Nat) (out:AV),k<=L.length/\n=L.length-k/\Ext h h'/\Fr h.length h' out 5 (((L.take k).filter p).map EV.row)/\ts.length=23/\slot ts 1=f/\slot ts 5=out/\slot ts 8=s/\slot ts 9=.i L.length/\slot ts 10=.i k) L.length
  ⟨0,.ah,Om,rfl,Ext.refl h,.nil,rfl,rfl,rfl,rfl,rfl,rfl⟩ ?_
 rintro _ ts _ ⟨k,out,hk,rfl,⟨g,rfl⟩,hfr,hlen,t1,t5,t8,t9,t10⟩;rw[jM ts 23 hlen];by_cases hlt:k<L.length
 ·have e3:(k:Int)<L.length:=Om
  have hvk:=hf L[k] Si;have OK:(L.take (k+1)).filter p=(L.take k).filter p++(if p L[k]=true then [L[k]]else []):=by
   exact z51
  have O1:((L.take k).filter p).length<=L.length:=Vk (U7 _ _) (by rw[U6];omega);simp only[aL,aR,bd,bf,reduceAdd,reduceMul,reduceLeDiff,reduceEqDiff,t1,t5,t8,t9,t10,e3,US,hs.fx hlt,hs.mY hlt,EV.row,(ho L[k] Si).1,(ho L[k] Si).2];refine WF.val (hvk _ (by repeat first|exact Ext.refl _|refine Ext.app _ ?_)) ?_;rintro _ g1 rfl;cases hp:p L[k]with
  |true=>
   rw[hp,Ut rfl]at OK;simp only[aL,aR,bd,bf,reduceAdd,reduceMul,reduceLeDiff,reduceEqDiff,(ho L[k] Si).1,(ho L[k] Si).2];refine WR.gj (h0:=h) (cs:=((L.take k).filter p).map EV.row) (ys:=[EV.row L[k]]) (((hfr.app _).app _).app _) (Fr.push (N:=0) (UK _) [EV.row L[k]] (by simp[EV.row])).aM De Si (by simp only[Uv,Ui,Ul];omega) (by simp only[qi]) ?_;intro g' OJ hff hkp;have hrow:((L.take k).filter p).map EV.row++[EV.row L[k]]=((L.take (k+1)).filter p).map EV.row:=by rw[OK,Up];rfl
   exact z5
  |false=>
   exact KG
 ·exact z4
end
section
variable {P:Program}(T:eF P) {h:af}
include T
set_option maxRecDepth 10000 in
def r180{L:List (kM×AV)}{s:AV}(hs:aB h s 3 (L.map bg))(he:∀x∈L,aB h x.2 1 (x.1.aK.map al))(hl:L.length<=2^30)(hle:∀x∈L,x.1.aK.length<=2^40):
  ak P 180 [s,.func (.func 181) [] []] h (λv h'=>∃L':List (kM×AV),L'.map Prod.fst=L.map Prod.fst/\Fr h.length h' v 3 (L'.map bg)/\(∀x∈L',Fr h.length h' x.2 1 (x.1.aK.map al))/\kg (sB v::L'.map λx=>sB x.2)):=by
 refine .of T.mix T.c180 ?_;unfold fn180 gA;refine Ws hs.aS ?_;refine WL.inv T.mix (λn ts h'=>∃(k:Nat) (out:AV) (L':List (kM×AV)),k<=L.length/\n=L.length-k/\Ext h h'/\L'.map Prod.fst=(L.take k).map Prod.fst/\Fr h.length h' out 3 (L'.map bg)/\(∀x∈L',Fr h.length h' x.2 1 (x.1.aK.map al))/\kg (sB out::L'.map λx=>sB x.2)/\
   ts.length=22/\slot ts 1=.func (.func 181) [] []/\slot ts 5=out/\slot ts 8=s/\slot ts 9=.i L.length/\slot ts 10=.i k) L.length
  ⟨0,.ah,[],Om,rfl,Ext.refl h,rfl,.nil,(λx hx=>by cases hx),VZ _ _,rfl,rfl,rfl,rfl,rfl,rfl⟩ ?_
 rintro _ ts _ ⟨k,out,L',hk,rfl,⟨g,rfl⟩,hm,hfr,hin,Pp,hlen,t1,t5,t8,t9,t10⟩;rw[jM ts 22 hlen];have R7:L'.length=k:=by have:=UM List.length hm;simp at this;omega
 by_cases hlt:k<L.length
 ·have e3:(k:Int)<L.length:=Om
  have SL:=he L[k] Si;have PM:=hle L[k] Si;have ox:=SL.one;have jg:∀{kk:af},Ext h kk->aq (some 3) (eO s 3 k) (λb=>kk[b]?)=some (.agg (bg L[k]),.ar):=λ{kk} e=>hs.mY hlt e
  unfold bg at jg;simp only[aL,aR,bd,bf,reduceAdd,reduceMul,reduceLeDiff,reduceEqDiff,t1,t5,t8,t9,t10,e3,US,hs.fx hlt,jg,ox];have hown:=λkk (e:Ext h kk)=>r181 T (h:=kk) L[k] (SL.ext e) PM
  unfold bg at hown;refine WF.res T.c181 (hown _ (by repeat first|exact Ext.refl _|refine Ext.app _ ?_)) ?_;rintro _ g1 ⟨s',rfl,TZ⟩;have os:=TZ.aM.one;refine Ws @os ?_;refine WR.gj (h0:=h) (cs:=L'.map bg) (ys:=[bg (L[k].1,s')]) ((((hfr.app _).app _).app _)) (Fr.push (N:=0) (UK _) [bg (L[k].1,s')] (by simp[bg])).aM De Si (by simp only[Uv,Ui,Ul];omega) (by simp only[qi]) ?_;intro g' OJ hff hkp;have hrow:L'.map bg++[bg (L[k].1,s')]=(L'++[(L[k].1,s')]).map bg:=by rw[Up];rfl
  exact z2
 ·exact KF
set_option maxRecDepth 10000 in
def r182{L:List (jH×AV)}{s:AV}(hs:aB h s 4 (L.map aP))(he:∀x∈L,aB h x.2 1 (x.1.bF.map al))(hl:L.length<=2^30)(hle:∀x∈L,x.1.bF.length<=2^40):
  ak P 182 [s,.func (.func 183) [] []] h (λv h'=>∃L':List (jH×AV),L'.map Prod.fst=L.map Prod.fst/\Fr h.length h' v 4 (L'.map aP)/\(∀x∈L',Fr h.length h' x.2 1 (x.1.bF.map al))/\kg (sB v::L'.map λx=>sB x.2)):=by
 refine .of T.mix T.c182 ?_;unfold fn182 gA;refine Ws hs.aS ?_;refine WL.inv T.mix (λn ts h'=>∃(k:Nat) (out:AV) (L':List (jH×AV)),k<=L.length/\n=L.length-k/\Ext h h'/\L'.map Prod.fst=(L.take k).map Prod.fst/\Fr h.length h' out 4 (L'.map aP)/\(∀x∈L',Fr h.length h' x.2 1 (x.1.bF.map al))/\kg (sB out::L'.map λx=>sB x.2)/\
   ts.length=22/\slot ts 1=.func (.func 183) [] []/\slot ts 5=out/\slot ts 8=s/\slot ts 9=.i L.length/\slot ts 10=.i k) L.length
  ⟨0,.ah,[],Om,rfl,Ext.refl h,rfl,.nil,(λx hx=>by cases hx),VZ _ _,rfl,rfl,rfl,rfl,rfl,rfl⟩ ?_
 rintro _ ts _ ⟨k,out,L',hk,rfl,⟨g,rfl⟩,hm,hfr,hin,Pp,hlen,t1,t5,t8,t9,t10⟩;rw[jM ts 22 hlen];have R7:L'.length=k:=by have:=UM List.length hm;simp at this;omega
 by_cases hlt:k<L.length
 ·have e3:(k:Int)<L.length:=Om
  have SL:=he L[k] Si;have PM:=hle L[k] Si;have ox:=SL.one;have jg:∀{kk:af},Ext h kk->aq (some 4) (eO s 4 k) (λb=>kk[b]?)=some (.agg (aP L[k]),.ar):=λ{kk} e=>hs.mY hlt e
  unfold aP at jg;simp only[aL,aR,bd,bf,reduceAdd,reduceMul,reduceLeDiff,reduceEqDiff,t1,t5,t8,t9,t10,e3,US,hs.fx hlt,jg,ox];have hown:=λkk (e:Ext h kk)=>r183 T (h:=kk) L[k] (SL.ext e) PM
  unfold aP at hown;refine WF.res T.c183 (hown _ (by repeat first|exact Ext.refl _|refine Ext.app _ ?_)) ?_;rintro _ g1 ⟨s',rfl,TZ⟩;have os:=TZ.aM.one;refine Ws @os ?_;refine WR.gj (h0:=h) (cs:=L'.map aP) (ys:=[aP (L[k].1,s')]) ((((hfr.app _).app _).app _)) (Fr.push (N:=0) (UK _) [aP (L[k].1,s')] (by simp[aP])).aM De Si (by simp only[Uv,Ui,Ul];omega) (by simp only[qi]) ?_;intro g' OJ hff hkp;have hrow:L'.map aP++[aP (L[k].1,s')]=(L'++[(L[k].1,s')]).map aP:=by rw[Up];rfl
  exact z2
 ·exact KF
set_option maxRecDepth 10000 in
def r184{L:List (mV×AV)}{s:AV}(hs:aB h s 3 (L.map bS))(he:∀x∈L,aB h x.2 1 (x.1.b9.map aE))(hl:L.length<=2^30)(hle:∀x∈L,x.1.b9.length<=2^40):
  ak P 184 [s,.func (.func 185) [] []] h (λv h'=>∃L':List (mV×AV),L'.map Prod.fst=L.map Prod.fst/\Fr h.length h' v 3 (L'.map bS)/\(∀x∈L',Fr h.length h' x.2 1 (x.1.b9.map aE))/\kg (sB v::L'.map λx=>sB x.2)):=by
 refine .of T.mix T.c184 ?_;unfold fn184 gA;refine Ws hs.aS ?_;refine WL.inv T.mix (λn ts h'=>∃(k:Nat) (out:AV) (L':List (mV×AV)),k<=L.length/\n=L.length-k/\Ext h h'/\L'.map Prod.fst=(L.take k).map Prod.fst/\Fr h.length h' out 3 (L'.map bS)/\(∀x∈L',Fr h.length h' x.2 1 (x.1.b9.map aE))/\kg (sB out::L'.map λx=>sB x.2)/\
   ts.length=22/\slot ts 1=.func (.func 185) [] []/\slot ts 5=out/\slot ts 8=s/\slot ts 9=.i L.length/\slot ts 10=.i k) L.length
  ⟨0,.ah,[],Om,rfl,Ext.refl h,rfl,.nil,(λx hx=>by cases hx),VZ _ _,rfl,rfl,rfl,rfl,rfl,rfl⟩ ?_
 rintro _ ts _ ⟨k,out,L',hk,rfl,⟨g,rfl⟩,hm,hfr,hin,Pp,hlen,t1,t5,t8,t9,t10⟩;rw[jM ts 22 hlen];have R7:L'.length=k:=by have:=UM List.length hm;simp at this;omega
 by_cases hlt:k<L.length
 ·have e3:(k:Int)<L.length:=Om
  have SL:=he L[k] Si;have PM:=hle L[k] Si;have ox:=SL.one;have jg:∀{kk:af},Ext h kk->aq (some 3) (eO s 3 k) (λb=>kk[b]?)=some (.agg (bS L[k]),.ar):=λ{kk} e=>hs.mY hlt e
  unfold bS at jg;simp only[aL,aR,bd,bf,reduceAdd,reduceMul,reduceLeDiff,reduceEqDiff,t1,t5,t8,t9,t10,e3,US,hs.fx hlt,jg,ox];have hown:=λkk (e:Ext h kk)=>r185 T (h:=kk) L[k] (SL.ext e) PM
  unfold bS at hown;refine WF.res T.c185 (hown _ (by repeat first|exact Ext.refl _|refine Ext.app _ ?_)) ?_;rintro _ g1 ⟨s',rfl,TZ⟩;have os:=TZ.aM.one;refine Ws @os ?_;refine WR.gj (h0:=h) (cs:=L'.map bS) (ys:=[bS (L[k].1,s')]) ((((hfr.app _).app _).app _)) (Fr.push (N:=0) (UK _) [bS (L[k].1,s')] (by simp[bS])).aM De Si (by simp only[Uv,Ui,Ul];omega) (by simp only[qi]) ?_;intro g' OJ hff hkp;have hrow:L'.map bS++[bS (L[k].1,s')]=(L'++[(L[k].1,s')]).map bS:=by rw[Up];rfl
  exact z2
 ·exact KF
end
theorem aG.row{h V}(o:aG h V):V.row.all AV.one=true:=by
 simp only[RV.row,Bw,Bv,An,o.i0.one,o.i1.one,o.i2.one,o.i3.one,o.i4.one,o.i5.one,Bool.and_self]
def aG.box{h V}(o:aG h V){N}:nD (.agg V.row) N=some (.ptr N 0,.push (.cells V.row true false)):=by
 have:(AV.agg V.row).cells=V.row:=rfl;simp only[nD,this,o.row,UD]
def wH{V:RV}:V.row[0]? =some (.int .i64 V.tick):=rfl
def ph{V:RV}:V.row[1]? =some (V.s0):=rfl
def tg{V:RV}:V.row[2]? =some (V.s1):=rfl
def jU{V:RV}:V.row[3]? =some (V.s2):=rfl
def kQ{V:RV}:V.row[4]? =some (V.s3):=rfl
def qA{V:RV}:V.row[5]? =some (V.s4):=rfl
def lS{V:RV}:V.row[6]? =some (V.s5):=rfl
def bM{V:RV}{mu tl:Bool}:dI (some 7) 0 (.cells V.row mu tl)=some (.agg V.row,.ar):=rfl
def kg.app{l m}(hl:kg l)(hm:kg m)(h:∀x∈l,∀y∈m,∀b,x=some b->y≠some b):kg (l++m):=Vq.2 ⟨hl,hm,h⟩
def kg.one{x}:kg [x]:=VZ _ _
theorem kg.perm{l m}(hl:kg l)(h:l.Perm m):kg m:=List.Pairwise.perm hl h λ{x y} hxy b hy hx=>hxy b hx hy
def kh{n z}:du n z=(List.replicate n z).flatten:=by
 induction n with
 |zero=>rfl
 |succ n ih=>rw[za,VT,Vj,ih]
def BU{h X:af}{A B B':ai}{b:Nat}(hb:h.length+2<=b):(h++([A]++([B']++X)))[b]? =(h++([A]++([B]++X)))[b]? :=by
 have e:∀C:ai,(h++([A]++([C]++X)))[b]? =X[b-h.length-1-1]? :=λC=>by
  rw[Un Om,Un (by simp only[Us];omega),Un (by simp only[Us];omega)];rfl
 rw[e,e]
theorem dm.low{N M h V}(o:dm N h V)(hM:M<=N):dm M h V:=
 ⟨o.i0.low hM,o.i1.low hM,o.i2.low hM,o.i3.low hM,o.i4.low hM,o.i5.low hM,λx hx=>(o.e2 x hx).low hM,λx hx=>(o.e3 x hx).low hM,λx hx=>(o.e4 x hx).low hM,o.di⟩
def dm.dU{N h V}(o:dm N h V){b}(hb:some b∈V.bl):N<=b/\b<h.length:=by
 simp only[RV.bl,Um,UR,UI,Vh,V3]at hb;rcases hb with((hb|⟨x,hx,hb⟩)|⟨x,hx,hb⟩)|⟨x,hx,hb⟩
 ·rcases hb with hb|hb|hb|hb|hb|hb
  ·exact o.i0.bL hb.symm
  ·exact o.i1.bL hb.symm
  ·exact o.i2.bL hb.symm
  ·exact o.i3.bL hb.symm
  ·exact o.i4.bL hb.symm
  ·exact o.i5.bL hb.symm
 ·exact(o.e2 x hx).bL hb
 ·exact(o.e3 x hx).bL hb
 ·exact(o.e4 x hx).bL hb
theorem pt:∀{l m:List (By)},l.Nodup->(∀x∈l,x∈m)->l.length<=m.length
 |[],_,_,_=>UK _
 |x::l,m,hn,hs=>by
  have h1:=Xa.1 hn;have hx:=hs x Si;have:=pt (m:=m.erase x) h1.2 λy hy=>(List.mem_erase_of_ne (λ(e:y=x)=>h1.1 (by rw[<-e];exact hy))).2 (hs y (UL _ hy))
  rw[List.length_erase_of_mem hx]at this;have hp:=List.length_pos_of_mem hx;simp only[Ui];omega
inductive Lay:Nat->Nat->List (Option Nat)->Prop
 |nil {a:Nat}:Lay a a []
 |cons {a b c:Nat}{l m:List (Option Nat)}(hab:a<=b) (hl:kg l) (hin:∀x,some x∈l->a<=x/\x<b) (r:Lay b c m):Lay a c (l++m)
def Lay.le{a c l}(h:Lay a c l):a<=c:=by
 induction h with
 |nil=>exact Uq _
 |cons hab _ _ _ ih=>omega
def Lay.mem{a c l}(h:Lay a c l):∀x,some x∈l->a<=x/\x<c:=by
 induction h with
 |nil=>intro x hx;cases hx
 |cons hab _ hin r ih=>
  intro x hx;have:=r.le;rcases Um.1 hx with hx|hx
  ·have:=hin x hx;omega
  ·have:=ih x hx;omega
def Lay.N5{a c l}(h:Lay a c l):kg l:=by
 induction h with
 |nil=>exact List.Pairwise.nil
 |cons hab hl hin r ih=>
  refine hl.app ih λx hx y hy b hb QL=>?_
  subst hb;have h1:=hin b hx;rw[QL]at hy;have h2:=r.mem b hy;omega
def JC{N h s es cs}(hs:Fr N h s es cs):∀x,some x∈[sB s]->N<=x/\x<h.length:=by
 intro x hx;rw[Uw]at hx;exact hs.bL hx.symm
set_option maxRecDepth 10000
section
variable {P:Program}(T:eF P) {h:af}
include T
def r96{V:RV}(o:aG h V)(w:ka V.aD):ak P 96 [.agg V.row] h (λv h'=>∃V':RV,V'.aD=V.aD/\v=.agg V'.row/\dm h.length h' V'):=by
 refine .of T.mix T.c96 ?_;obtain⟨ts,Ol⟩:∃ts,ts=aQ 38 [.agg V.row]:=⟨_,rfl⟩;have hlen:ts.length=38:=by rw[Ol];rfl
 have t0:slot ts 0=.agg V.row:=by rw[Ol];rfl
 unfold fn96;show WC P cB _ [] (aQ 38 [.agg V.row]) h _;rw[<-Ol];clear Ol;have Oj:=@aG.box _ _ o;have n0:V.lines.length<=16:=w.l0;have n5:V.aU.length<=16:=w.l5;have n1:V.aK.length<=16:=w.l1;have n2:V.ao.length<=64:=by have:=w.l2;simpa [RV.aD]using this
 have n3:V.aJ.length<=32:=by have:=w.l3;simpa [RV.aD]using this
 have n4:V.aI.length<=16:=by have:=w.l4;simpa [RV.aD]using this
 have mk0:∀{N:Nat},qP 3 32 [AV.str [],.int .i64 0,.bool false] (.int .i64 (V.lines.length:Int)) (.int .i64 (V.lines.length:Int)) N=some (.slice N 0 V.lines.length 3,.push (.cells (du V.lines.length [AV.str [],.int .i64 0,.bool false]) true true)):=l9 Om Om;have mk5:∀{N:Nat},qP 4 48 [AV.str [],.str [],.int .i64 0,.bool false] (.int .i64 (V.aU.length:Int)) (.int .i64 (V.aU.length:Int)) N=some (.slice N 0 V.aU.length 4,.push (.cells (du V.aU.length [AV.str [],.str [],.int .i64 0,.bool false]) true true)):=l9 Om Om;refine Rs (A8 t0 @Oj @ph @lS o.i0.aS o.i5.aS @mk0 @mk5) ?_
 have z0:(du V.lines.length [AV.str [],.int .i64 0,.bool false])=(List.replicate V.lines.length [AV.str [],.int .i64 0,.bool false]).flatten:=kh;have z5:(du V.aU.length [AV.str [],.str [],.int .i64 0,.bool false])=(List.replicate V.aU.length [AV.str [],.str [],.int .i64 0,.bool false]).flatten:=kh;obtain⟨B,hB⟩:∃B,B=ai.cells [AV.int .i64 0,.ah,.ah,.ah,.ah,.ah,.ah] true false:=⟨_,rfl⟩;rw[<-hB];have f0:Fr (h++[ai.cells V.row true false]++[B]).length (h++[ai.cells V.row true false]++[B]++([ai.cells (du V.lines.length [AV.str [],.int .i64 0,.bool false]) true true]++[ai.cells (du V.aU.length [AV.str [],.str [],.int .i64 0,.bool false]) true true])) (.slice (h++[ai.cells V.row true false]++[B]).length 0 V.lines.length 3) 3 (List.replicate V.lines.length [AV.str [],.int .i64 0,.bool false]):=by
  rw[<-Uf];exact(Fr.zd (Uq _) rfl).app _
 have f5:Fr (h++[ai.cells V.row true false]++[B]).length (h++[ai.cells V.row true false]++[B]++([ai.cells (du V.lines.length [AV.str [],.int .i64 0,.bool false]) true true]++[ai.cells (du V.aU.length [AV.str [],.str [],.int .i64 0,.bool false]) true true])) (.slice (h++[ai.cells V.row true false]++[B]++[ai.cells (du V.lines.length [AV.str [],.int .i64 0,.bool false]) true true]).length 0 V.aU.length 4) 4 (List.replicate V.aU.length [AV.str [],.str [],.int .i64 0,.bool false]):=by
  rw[<-Uf];exact Fr.zd Si rfl
 obtain⟨Z,hZ⟩:∃Z,Z=([ai.cells (du V.lines.length [AV.str [],.int .i64 0,.bool false]) true true]++[ai.cells (du V.aU.length [AV.str [],.str [],.int .i64 0,.bool false]) true true]):=⟨_,rfl⟩;have hZl:Z.length=2:=by rw[hZ];rfl
 have el5:(h++[ai.cells V.row true false]++[B]++[ai.cells (du V.lines.length [AV.str [],.int .i64 0,.bool false]) true true]).length=(h++[ai.cells V.row true false]++[B]).length+1:=Si
 rw[Uf (h++[ai.cells V.row true false]++[B]),<-hZ];rw[<-hZ,el5]at f5;rw[<-hZ]at f0;rw[el5];clear hZ;refine WR.JO (h0:=h++[ai.cells V.row true false]++[B]) (g:=Z) (Sq t0) (Sq t0) f0 (o.i0.ext Xx) Si ?_;intro g1 _ SW hf0 hk0;have hf5:=f5.ay (k:=h++[ai.cells V.row true false]++[B]++g1) λb hb=>hk0 b λb0 o n e he=>by cases he;cases hb;omega
 refine Rs (A2 t0 @lS) ?_;refine WR.JO (h0:=h++[ai.cells V.row true false]++[B]) (g:=g1) (Sq t0) (Sq t0) hf5 (o.i5.ext Xx) Si ?_;intro g2 _ hl2 hf5' hk5;have hf0':=hf0.ay (k:=h++[ai.cells V.row true false]++[B]++g2) λb hb=>hk5 b λb0 o n e he=>by cases he;cases hb;omega
 have RJ:g2.length=2:=Om
 refine Rs (A3 t0 @wH @tg) ?_;refine WF.res T.c179 (r179 T (o.i1.ext Xx) (by simp;omega)) ?_;rintro s1 c1 q1;refine Rs (A2 t0 @jU) ?_;refine WF.res T.c180 (r180 T (o.i2.ext Xx) (λx hx=>(o.e2 x hx).ext Xx) Om (λx hx=>?_)) ?_
 ·have:=(w.sh x.1 (UP hx)).2.2;have hle:=pt this.1 (λt ht=>this.2 t ht);have SW:(kZ V.aD).length=V.aK.length:=by simp[kZ,RV.aD]
  omega
 rintro s2 c2 ⟨L2,m2,q2,q2e,q2d⟩;refine Rs (A2 t0 @kQ) ?_;refine WF.res T.c182 (r182 T (o.i3.ext Xx) (λx hx=>(o.e3 x hx).ext Xx) Om (λx hx=>by have:=(w.md x.1 (UP hx)).2.1;omega)) ?_;rintro s3 c3 ⟨L3,m3,q3,q3e,q3d⟩;refine Rs (A2 t0 @qA) ?_;refine WF.res T.c184 (r184 T (o.i4.ext Xx) (λx hx=>(o.e4 x hx).ext Xx) Om (λx hx=>by have:=(w.jb x.1 (UP hx)).2.2.1;omega)) ?_;rintro s4 c4 ⟨L4,m4,q4,q4e,q4d⟩;refine Rs (A6 t0 q1.aM.one q2.aM.one q3.aM.one q4.aM.one @hB) ?_;refine⟨⟨V.tick,V.lines,V.aK,L2,L3,L4,V.aU,.slice (h++[ai.cells V.row true false]++[B]).length 0 V.lines.length 3,s1,s2,s3,s4,.slice ((h++[ai.cells V.row true false]++[B]).length+1) 0 V.aU.length 4⟩,?_,?_,?_⟩
 ·simp only[RV.aD,m2,m3,m4]
 ·rw[<-hB];rfl
 obtain⟨H,hH⟩:∃H,H=h++[ai.cells V.row true false]++[B]:=⟨_,rfl⟩;have RS:h.length<=H.length:=by rw[hH];simp
 rw[<-hH]at hf0' hf5' q1 q2 q2e q3 q3e q4 q4e;have own:dm H.length (H++g2++c1++c2++c3++c4) ⟨V.tick,V.lines,V.aK,L2,L3,L4,V.aU,.slice H.length 0 V.lines.length 3,s1,s2,s3,s4,.slice (H.length+1) 0 V.aU.length 4⟩:=by
  have n0:V.lines.length=(V.lines.map cp).length:=Si
  have n5:V.aU.length=(V.aU.map dN).length:=Si
  refine⟨(((hf0'.app _).app _).app _).app _,?_,?_,?_,?_,(((hf5'.app _).app _).app _).app _,?_,?_,?_,?_⟩
  ·exact(((q1.app _).app _).app _).low Si
  ·exact((q2.app _).app _).low (by simp only[Ud];omega)
  ·exact(q3.app _).low (by simp only[Ud];omega)
  ·exact q4.low (by simp only[Ud];omega)
  ·exactλx hx=>(((q2e x hx).app _).app _).low (by simp only[Ud];omega)
  ·exactλx hx=>((q3e x hx).app _).low (by simp only[Ud];omega)
  ·exactλx hx=>(q4e x hx).low (by simp only[Ud];omega)
  ·have lay:Lay H.length (H++g2++c1++c2++c3++c4).length ([some H.length]++([some (H.length+1)]++([sB s1]++((sB s2::L2.map λx=>sB x.2)++((sB s3::L3.map λx=>sB x.2)++((sB s4::L4.map λx=>sB x.2)++[])))))):=by
    refine .cons (b:=H.length+1) Om .one (λx hx=>by simp at hx;omega) ?_;refine .cons (b:=(H++g2).length) (by simp only[Ud];omega) .one (λx hx=>by simp at hx;simp only[Ud];omega) ?_;refine .cons (b:=(H++g2++c1).length) (by simp only[Ud];omega) .one (JC q1) ?_;refine .cons (b:=(H++g2++c1++c2).length) (by simp only[Ud];omega) q2d (λx hx=>?_) ?_
    ·rcases UR.1 hx with hx|hx
     ·exact q2.bL hx.symm
     ·obtain⟨y,hy,hyx⟩:=UI.1 hx;exact(q2e y hy).bL hyx
    refine .cons (b:=(H++g2++c1++c2++c3).length) (by simp only[Ud];omega) q3d (λx hx=>?_) ?_
    ·rcases UR.1 hx with hx|hx
     ·exact q3.bL hx.symm
     ·obtain⟨y,hy,hyx⟩:=UI.1 hx;exact(q3e y hy).bL hyx
    refine .cons (b:=(H++g2++c1++c2++c3++c4).length) (by simp only[Ud];omega) q4d (λx hx=>?_) .nil;rcases UR.1 hx with hx|hx
    ·exact q4.bL hx.symm
    ·obtain⟨y,hy,hyx⟩:=UI.1 hx;exact(q4e y hy).bL hyx
   refine lay.N5.perm (List.perm_iff_count.2 λa=>?_);simp only[RV.bl,sB,List.count_append,List.count_cons,List.count_nil,UX,W3]
   ac_rfl
 rw[hH]at own RS;refine(own.low RS).ar λb hb=>?_
 have hbN:=(own.dU hb).1;simp only[Uf];exact BU (by simpa using hbN)
end
def aG.hX{h V}(o:aG h V):(∀x∈V.ao,x.2.one=true)/\(∀x∈V.aJ,x.2.one=true)/\(∀x∈V.aI,x.2.one=true):=
 ⟨λx hx=>(o.e2 x hx).one,λx hx=>(o.e3 x hx).one,λx hx=>(o.e4 x hx).one⟩
structure iS(V:RV):Prop where
 l0:V.lines.length<2^30
 l1:V.aK.length<2^30
 l2:V.ao.length<2^30
 l3:V.aJ.length<2^30
 l4:V.aI.length<2^30
 l5:V.aU.length<2^30
def ka.len{V}(w:ka V.aD):iS V:=by
 have h0:=w.l0;have h1:=w.l1;have h2:=w.l2;have h3:=w.l3;have h4:=w.l4;have h5:=w.l5;simp only[RV.aD,Uv]at h0 h1 h2 h3 h4 h5;exact⟨Om,Om,Om,Om,Om,Om⟩
def pA{V:RV}:o8 V.aD=V.ao.map λx=>x.1.name:=by simp[o8,RV.aD,WJ]
def pB{V:RV}:jX V.aD=V.aJ.map λx=>x.1.name:=by simp[jX,RV.aD,WJ]
def jW{V:RV}:iT V.aD=V.aI.map λx=>x.1.name:=by simp[iT,RV.aD,WJ]
section
variable {P:Program}(T:eF P) {h:af}
include T
def r205{V}(o:aG h V)(l:iS V){n}(hn:n∈jQ V.aD):ak P 205 [.agg V.row,.str n] h (λv _=>v=.agg (cp (fP V.aD n))):=by
 refine .eQ 13 T.mix T.c205 ?_;intro ts hlen t0 t1;unfold fn205 gA;have Oj:=@aG.box _ _ o;have hlt:bJ (jQ V.aD) n<V.lines.length:=by have:=eM hn;simpa [jQ,RV.aD]using this
 have ei:eD (λx:jO=>decide (x.name=n)) V.lines=(bJ (jQ V.aD) n:Int):=jx (f:=jO.name) hn;have ix:bh 3 V.s0 (.i (bJ (jQ V.aD) n:Int))=some (eO V.s0 3 (bJ (jQ V.aD) n),.ar):=o.i0.fx hlt;have ld:∀{k:af},Ext h k->aq (some 3) (eO V.s0 3 (bJ (jQ V.aD) n)) (λb=>k[b]?)=some (.agg (cp (V.lines[bJ (jQ V.aD) n])),.ar):=λ{k} e=>o.i0.mY hlt e
 have sp:fP V.aD n=V.lines[bJ (jQ V.aD) n]:=fR hn;rw[sp];unfold cp at ld ⊢;refine Rs (A4 t0 t1 @Oj @ph) ?_;refine WF.ce T.c142 (r142 T (o.i0.ext Xx) (by have:=l.l0;omega) n) λg1=>?_
 exact E6
def r134{V}(o:aG h V)(l:iS V){n}(hn:n∈kZ V.aD):ak P 134 [.agg V.row,.str n] h (λv _=>v=.agg (eP (jJ V.aD n))):=by
 refine .eQ 13 T.mix T.c134 ?_;intro ts hlen t0 t1;unfold fn134 gA;have Oj:=@aG.box _ _ o;have hlt:bJ (kZ V.aD) n<V.aK.length:=by have:=eM hn;simpa [kZ,RV.aD]using this
 have ei:eD (λx:uU=>decide (x.name=n)) V.aK=(bJ (kZ V.aD) n:Int):=jx (f:=uU.name) hn;have ix:bh 2 V.s1 (.i (bJ (kZ V.aD) n:Int))=some (eO V.s1 2 (bJ (kZ V.aD) n),.ar):=o.i1.fx hlt;have ld:∀{k:af},Ext h k->aq (some 2) (eO V.s1 2 (bJ (kZ V.aD) n)) (λb=>k[b]?)=some (.agg (eP (V.aK[bJ (kZ V.aD) n])),.ar):=λ{k} e=>o.i1.mY hlt e
 have sp:jJ V.aD n=V.aK[bJ (kZ V.aD) n]:=fR hn;rw[sp];unfold eP at ld ⊢;refine Rs (A4 t0 t1 @Oj @tg) ?_;refine WF.ce T.c143 (r143 T (o.i1.ext Xx) (by have:=l.l1;omega) n) λg1=>?_
 exact E6
def r77{V:RV}(o:aG h V)(l:iS V){n:By}(hn:n∈o8 V.aD):ak P 77 [.agg V.row,.str n] h (λv _=>∃x∈V.ao,x.1=sX V.aD n/\v=.agg (bg x)):=by
 refine .eQ 13 T.mix T.c77 ?_;intro ts hlen t0 t1;unfold fn77 gA;have Oj:=@aG.box _ _ o;have hlt:bJ (o8 V.aD) n<V.ao.length:=by have:=eM hn;simpa [o8,RV.aD]using this
 have ei:eD (λx:kM×AV=>decide (x.1.name=n)) V.ao=(bJ (o8 V.aD) n:Int):=(jx (f:=λx:kM×AV=>x.1.name) (by rw[<-pA];exact hn)).trans (by rw[pA]);have ix:bh 3 V.s2 (.i (bJ (o8 V.aD) n:Int))=some (eO V.s2 3 (bJ (o8 V.aD) n),.ar):=o.i2.fx hlt;have ld:∀{k:af},Ext h k->aq (some 3) (eO V.s2 3 (bJ (o8 V.aD) n)) (λb=>k[b]?)=some (.agg (bg (V.ao[bJ (o8 V.aD) n])),.ar):=λ{k} e=>o.i2.mY hlt e
 have sp:(V.ao[bJ (o8 V.aD) n]).1=sX V.aD n:=by
  have:=fR (f:=kM.name) (l:=V.aD.ao) (n:=n) (d:=FP) hn;rw[show sX V.aD n=_ from this];exact BN
 have on:=o.hX.1 (V.ao[bJ (o8 V.aD) n]) (UB _);have PY:V.ao[bJ (o8 V.aD) n]∈V.ao:=UB _;generalize V.ao[bJ (o8 V.aD) n]=x at *;unfold bg at ld ⊢;refine Rs (A4 t0 t1 @Oj @jU) ?_;refine WF.ce T.c136 (r136 T (o.i2.ext Xx) o.hX.1 (by have:=l.l2;omega) n) λg1=>?_
 exact z85
def r245{V:RV}(o:aG h V)(l:iS V){n:By}(hn:n∈jX V.aD):ak P 245 [.agg V.row,.str n] h (λv _=>∃x∈V.aJ,x.1=tK V.aD n/\v=.agg (aP x)):=by
 refine .eQ 13 T.mix T.c245 ?_;intro ts hlen t0 t1;unfold fn245 gA;have Oj:=@aG.box _ _ o;have hlt:bJ (jX V.aD) n<V.aJ.length:=by have:=eM hn;simpa [jX,RV.aD]using this
 have ei:eD (λx:jH×AV=>decide (x.1.name=n)) V.aJ=(bJ (jX V.aD) n:Int):=(jx (f:=λx:jH×AV=>x.1.name) (by rw[<-pB];exact hn)).trans (by rw[pB]);have ix:bh 4 V.s3 (.i (bJ (jX V.aD) n:Int))=some (eO V.s3 4 (bJ (jX V.aD) n),.ar):=o.i3.fx hlt;have ld:∀{k:af},Ext h k->aq (some 4) (eO V.s3 4 (bJ (jX V.aD) n)) (λb=>k[b]?)=some (.agg (aP (V.aJ[bJ (jX V.aD) n])),.ar):=λ{k} e=>o.i3.mY hlt e
 have sp:(V.aJ[bJ (jX V.aD) n]).1=tK V.aD n:=by
  have:=fR (f:=jH.name) (l:=V.aD.aJ) (n:=n) (d:=FU) hn;rw[show tK V.aD n=_ from this];exact BN
 have on:=o.hX.2.1 (V.aJ[bJ (jX V.aD) n]) (UB _);have PY:V.aJ[bJ (jX V.aD) n]∈V.aJ:=UB _;generalize V.aJ[bJ (jX V.aD) n]=x at *;unfold aP at ld ⊢;refine Rs (A4 t0 t1 @Oj @kQ) ?_;refine WF.ce T.c144 (r144 T (o.i3.ext Xx) o.hX.2.1 (by have:=l.l3;omega) n) λg1=>?_
 exact z85
def r124{V:RV}(o:aG h V)(l:iS V){n:By}(hn:n∈iT V.aD):ak P 124 [.agg V.row,.str n] h (λv _=>∃x∈V.aI,x.1=iD V.aD n/\v=.agg (bS x)):=by
 refine .eQ 13 T.mix T.c124 ?_;intro ts hlen t0 t1;unfold fn124 gA;have Oj:=@aG.box _ _ o;have hlt:bJ (iT V.aD) n<V.aI.length:=by have:=eM hn;simpa [iT,RV.aD]using this
 have ei:eD (λx:mV×AV=>decide (x.1.name=n)) V.aI=(bJ (iT V.aD) n:Int):=(jx (f:=λx:mV×AV=>x.1.name) (by rw[<-jW];exact hn)).trans (by rw[jW]);have ix:bh 3 V.s4 (.i (bJ (iT V.aD) n:Int))=some (eO V.s4 3 (bJ (iT V.aD) n),.ar):=o.i4.fx hlt;have ld:∀{k:af},Ext h k->aq (some 3) (eO V.s4 3 (bJ (iT V.aD) n)) (λb=>k[b]?)=some (.agg (bS (V.aI[bJ (iT V.aD) n])),.ar):=λ{k} e=>o.i4.mY hlt e
 have sp:(V.aI[bJ (iT V.aD) n]).1=iD V.aD n:=by
  have:=fR (f:=mV.name) (l:=V.aD.aI) (n:=n) (d:=Aq) hn;rw[show iD V.aD n=_ from this];exact BN
 have on:=o.hX.2.2 (V.aI[bJ (iT V.aD) n]) (UB _);have PY:V.aI[bJ (iT V.aD) n]∈V.aI:=UB _;generalize V.aI[bJ (iT V.aD) n]=x at *;unfold bS at ld ⊢;refine Rs (A4 t0 t1 @Oj @qA) ?_;refine WF.ce T.c145 (r145 T (o.i4.ext Xx) o.hX.2.2 (by have:=l.l4;omega) n) λg1=>?_
 exact z85
def r218{V}(o:aG h V)(l:iS V){n}(hn:n∈lF V.aD):ak P 218 [.agg V.row,.str n] h (λv _=>v=.agg (dN (lV V.aD n))):=by
 refine .eQ 13 T.mix T.c218 ?_;intro ts hlen t0 t1;unfold fn218 gA;have Oj:=@aG.box _ _ o;have hlt:bJ (lF V.aD) n<V.aU.length:=by have:=eM hn;simpa [lF,RV.aD]using this
 have ei:eD (λx:rv=>decide (x.name=n)) V.aU=(bJ (lF V.aD) n:Int):=jx (f:=rv.name) hn;have ix:bh 4 V.s5 (.i (bJ (lF V.aD) n:Int))=some (eO V.s5 4 (bJ (lF V.aD) n),.ar):=o.i5.fx hlt;have ld:∀{k:af},Ext h k->aq (some 4) (eO V.s5 4 (bJ (lF V.aD) n)) (λb=>k[b]?)=some (.agg (dN (V.aU[bJ (lF V.aD) n])),.ar):=λ{k} e=>o.i5.mY hlt e
 have sp:lV V.aD n=V.aU[bJ (lF V.aD) n]:=fR hn;rw[sp];unfold dN at ld ⊢;refine Rs (A4 t0 t1 @Oj @lS) ?_;refine WF.ce T.c146 (r146 T (o.i5.ext Xx) (by have:=l.l5;omega) n) λg1=>?_
 exact E6
def Jy{V}(o:aG h V)(l:iS V)(n:By):ak P 86 [.agg V.row,.i 0,.str n] h (λv _=>v=.bool (fk V.aD 0 n)):=by
 refine .uP 47 T.mix T.c86 ?_;intro ts hlen t0 t1 t2;unfold fn86;have Oj:=@aG.box _ _ o;have eh:fk V.aD 0 n=decide (0<=eD (λx=>decide (x.name=n)) V.lines):=(jy (f:=jO.name)).symm;rw[eh]
 skip
 refine Rs (A7 t0 t1 t2 @Oj @ph @US @Va) ?_;refine WF.ce T.c142 (r142 T (o.i0.ext Xx) (by have:=l.l0;omega) n) λg1=>?_
 exact Ed
def Jx{V}(o:aG h V)(l:iS V)(n:By):ak P 86 [.agg V.row,.i 1,.str n] h (λv _=>v=.bool (fk V.aD 1 n)):=by
 refine .uP 47 T.mix T.c86 ?_;intro ts hlen t0 t1 t2;unfold fn86;have Oj:=@aG.box _ _ o;have eh:fk V.aD 1 n=decide (0<=eD (λx=>decide (x.name=n)) V.aK):=(jy (f:=uU.name)).symm;rw[eh]
 skip
 have d0:((1:Int)=0)=False:=VO De;refine Rs (A8 t0 t1 t2 @Oj @tg @US @Va @d0) ?_;refine WF.ce T.c143 (r143 T (o.i1.ext Xx) (by have:=l.l1;omega) n) λg1=>?_
 exact Ed
def Jw{V:RV}(o:aG h V)(l:iS V)(n:By):ak P 86 [.agg V.row,.i 2,.str n] h (λv _=>v=.bool (fk V.aD 2 n)):=by
 refine .uP 47 T.mix T.c86 ?_;intro ts hlen t0 t1 t2;unfold fn86;have Oj:=@aG.box _ _ o;have eh:fk V.aD 2 n=decide (0<=eD (λx=>decide (x.1.name=n)) V.ao):=by
  rw[jy (f:=λx:kM×AV=>x.1.name),<-pA];rfl
 rw[eh]
 skip
 have d0:((2:Int)=0)=False:=VO De;have d1:((2:Int)=1)=False:=VO De;refine Rs (A9 t0 t1 t2 @Oj @jU @US @Va @d0 @d1) ?_;refine WF.ce T.c136 (r136 T (o.i2.ext Xx) o.hX.1 (by have:=l.l2;omega) n) λg1=>?_
 exact Ed
def Jv{V:RV}(o:aG h V)(l:iS V)(n:By):ak P 86 [.agg V.row,.i 3,.str n] h (λv _=>v=.bool (fk V.aD 3 n)):=by
 refine .uP 47 T.mix T.c86 ?_;intro ts hlen t0 t1 t2;unfold fn86;have Oj:=@aG.box _ _ o;have eh:fk V.aD 3 n=decide (0<=eD (λx=>decide (x.1.name=n)) V.aJ):=by
  rw[jy (f:=λx:jH×AV=>x.1.name),<-pB];rfl
 rw[eh]
 skip
 have d0:((3:Int)=0)=False:=VO De;have d1:((3:Int)=1)=False:=VO De;have d2:((3:Int)=2)=False:=VO De;refine Rs (uO t0 t1 t2 @Oj @kQ @US @Va @d0 @d1 @d2) ?_;refine WF.ce T.c144 (r144 T (o.i3.ext Xx) o.hX.2.1 (by have:=l.l3;omega) n) λg1=>?_
 exact Ed
def Ju{V:RV}(o:aG h V)(l:iS V)(n:By):ak P 86 [.agg V.row,.i 4,.str n] h (λv _=>v=.bool (fk V.aD 4 n)):=by
 refine .uP 47 T.mix T.c86 ?_;intro ts hlen t0 t1 t2;unfold fn86;have Oj:=@aG.box _ _ o;have eh:fk V.aD 4 n=decide (0<=eD (λx=>decide (x.1.name=n)) V.aI):=by
  rw[jy (f:=λx:mV×AV=>x.1.name),<-jW];rfl
 rw[eh]
 skip
 have d0:((4:Int)=0)=False:=VO De;have d1:((4:Int)=1)=False:=VO De;have d2:((4:Int)=2)=False:=VO De;have d3:((4:Int)=3)=False:=VO De;refine Rs (y9 t0 t1 t2 @Oj @qA @US @Va @d0 @d1 @d2 @d3) ?_;refine WF.ce T.c145 (r145 T (o.i4.ext Xx) o.hX.2.2 (by have:=l.l4;omega) n) λg1=>?_
 exact Ed
def Jt{V}(o:aG h V)(l:iS V)(n:By):ak P 86 [.agg V.row,.i 5,.str n] h (λv _=>v=.bool (fk V.aD 5 n)):=by
 refine .uP 47 T.mix T.c86 ?_;intro ts hlen t0 t1 t2;unfold fn86;have Oj:=@aG.box _ _ o;have eh:fk V.aD 5 n=decide (0<=eD (λx=>decide (x.name=n)) V.aU):=(jy (f:=rv.name)).symm;rw[eh]
 skip
 have d0:((5:Int)=0)=False:=VO De;have d1:((5:Int)=1)=False:=VO De;have d2:((5:Int)=2)=False:=VO De;have d3:((5:Int)=3)=False:=VO De;have d4:((5:Int)=4)=False:=VO De;refine Rs (Hl t0 t1 t2 @Oj @lS @US @Va @d0 @d1 @d2 @d3 @d4) ?_;refine WF.ce T.c146 (r146 T (o.i5.ext Xx) (by have:=l.l5;omega) n) λg1=>?_
 exact Ed
def r86{V:RV}(o:aG h V)(l:iS V){t:Nat}(ht:t<6)(n:By):ak P 86 [.agg V.row,.i t,.str n] h (λv _=>v=.bool (fk V.aD t n)):=by
 match t,ht with
 | 0,_=>exact Jy T o l n
 | 1,_=>exact Jx T o l n
 | 2,_=>exact Jw T o l n
 | 3,_=>exact Jv T o l n
 | 4,_=>exact Ju T o l n
 | 5,_=>exact Jt T o l n
def r135(x:uU)(t:Int):ak P 135 [.agg (eP x),.i t] h (λv _=>v=.bool (decide (t<=x.last))):=by
 refine .of T.mix T.c135 ?_;unfold fn135 gA eP;exact Wn Tv
def r76{V}(o:aG h V)(l:iS V){x}(hx:aB h x.2 1 (x.1.aK.map al))(hl:x.1.aK.length<2^30)(hk:∀n∈x.1.aK,n∈kZ V.aD)(t:Int):
  ak P 76 [.agg V.row,.agg (bg x),.i t] h (λv _=>v=.bool (jK V.aD x.1 t)):=by
 refine .uP 24 T.mix T.c76 ?_;intro ts hlen t0 t1 t2;unfold fn76 gA;have Oj:=@aG.box _ _ o;have ox:=hx.one;unfold bg at t1;refine Rs (A6 t0 t1 t2 @Oj @ox hx.aS) ?_;refine WL.inv T.mix (λn ts h'=>∃k:Nat,k<=x.1.aK.length/\n=x.1.aK.length-k/\Ext (h++[ai.b V.row]) h'/\jK V.aD x.1 t=(x.1.aK.drop k).any (nS V.aD t)/\
   ts.length=24/\slot ts 2=.i t/\slot ts 3=.ptr h.length 0/\slot ts 7=.bool false/\slot ts 11=x.2/\slot ts 12=.i x.1.aK.length/\slot ts 13=.i k) x.1.aK.length
  ⟨0,Om,rfl,Xx,rfl,Sn,(Sq t2),(Sq t0),(Sq t0),(Sq t0),(Sq t0),(N6 t0)⟩ ?_
 rintro _ ts _ ⟨k,hk',rfl,⟨g,rfl⟩,hs,hlen,t2,t3,t7,t11,t12,t13⟩;by_cases hlt:k<x.1.aK.length
 ·have hd:x.1.aK.drop k=x.1.aK[k]::x.1.aK.drop (k+1):=Si
  have e3:=gh hlt;have ix:=hx.fx (kk:=.i64) hlt;have ld:∀{k':af},Ext h k'->aq none (eO x.2 1 k) (λb=>k'[b]?)=some (.str x.1.aK[k],.ar):=λ{k'} e=>hx.kK hlt rfl e
  refine Rs (uO t2 t3 t7 t11 t12 t13 e3 ix @ld @bM) ?_;refine WF.ce T.c134 (r134 T (o.ext Xx) l (hk _ (UB hlt))) λg1=>?_
  refine Rs (A6 t2 t3 t7 t11 t12 t13) ?_;refine WF.ce T.c135 (r135 T _ t) λg2=>?_
  have hr:decide (t<=(jJ V.aD x.1.aK[k]).last)=nS V.aD t x.1.aK[k]:=rfl;rw[hr];rw[hd,List.any_cons]at hs;cases Pe:nS V.aD t x.1.aK[k]with
  |true=>
   rw[Pe,W6]at hs;rw[hs];exact Rs (A6 t2 t3 t7 t11 t12 t13) Tv
  |false=>
   rw[Pe,Wr]at hs;have e5:=wrapN (n:=k) Om;refine Rs (A7 t2 t3 t7 t11 t12 t13 e5) ?_;exact⟨_,Om,k+1,Om,rfl,hs,rfl⟩
 ·have e3:=gG hlt;have e4:k=x.1.aK.length:=Om
  rw[e4,Vr]at hs;rw[hs];refine Rs (A7 t2 t3 t7 t11 t12 t13 e3) ?_;rfl
end
structure MO(V:RV):Prop where
 sh:∀x∈V.ao,(∀n∈x.1.aK,n∈kZ V.aD)/\x.1.aK.length<2^30
def ka.AN{V}(w:ka V.aD):MO V:=by
 refine⟨λx hx=>?_⟩;have:=(w.sh x.1 (UP hx)).2.2;have hle:=pt this.1 (λt ht=>this.2 t ht);have h1:=w.l1;have SW:(kZ V.aD).length=V.aD.aK.length:=by simp[kZ]
 exact⟨this.2,Om⟩
section
variable {P:Program}(T:eF P) {h:af}
include T
def r139{V}(o:aG h V)(l:iS V)(ir:MO V){x}(hm:x∈V.ao){t b c}(hb:h[b]? =some (.b V.row))(hc:h[c]? =some (.b [.i t])):
  ak P 139 [.agg (bg x),.ptr b 0,.ptr c 0] h (λv _=>v=.bool (!jK V.aD x.1 t)):=by
 refine .uP 10 T.mix T.c139 ?_;intro ts hlen t0 t1 t2;unfold fn139 gA;have ox:=(o.e2 x hm).one;have lb:∀{k:af}{n:Option Nat}{a:Nat},Ext h k->aq n (.ptr b a) (λz=>k[z]?)=dI n a (.b V.row):=λe=>az (e.some hb)
 have lc:∀{k:af}{n:Option Nat}{a:Nat},Ext h k->aq n (.ptr c a) (λz=>k[z]?)=dI n a (.b [.i t]):=λe=>az (e.some hc)
 have hsf:=λ(k:af) (e:Ext h k)=>r76 T (o.ext e) l ((o.e2 x hm).ext e) (ir.sh x hm).2 (ir.sh x hm).1 t
 unfold bg at t0 hsf;refine Rs (A7 t0 t1 t2 @ox @lb @lc @bM) ?_;refine WF.ce T.c76 (hsf _ Xx) λg1=>?_
 exact Ed
def r80{V}(o:aG h V)(l:iS V)(ir:MO V)(t:Int):ak P 80 [.agg V.row,.i t] h (λv h'=>aB h' v 1 ((jo V.aD t).map al)):=by
 refine .eQ 10 T.mix T.c80 ?_;intro ts hlen t0 t1;unfold fn80 gA;have Oj:=@aG.box _ _ o;refine Rs (A4 t0 t1 @Oj @jU) ?_;have hm:∀x,x∈V.ao->∀k,Ext (h++[ai.b V.row]++[ai.b [AV.i t]]) k->aV P (.func (.func 139) [] [.ptr h.length 0,.ptr (h++[ai.b V.row]).length 0]) [.agg (bg x)] k (λv _=>v=.bool (!jK V.aD x.1 t)):=λx hx k e=>
  aV.of (a:=[]) T.c139 (r139 T (o.ext (Ext.trans Xx e)) l ir hx (e.some sf) (e.some bO))
 refine WF.res T.c138 (r138 T (o.i2.ext Xx) o.hX.1 (by have:=l.l2;omega) (λx=>!jK V.aD x.1 t) hm) ?_;rintro s1 g1 hf;refine Rs (A2 t0 t1) ?_;have O1:(V.ao.filter λx=>!jK V.aD x.1 t).length<=V.ao.length:=U7 _ _;refine WF.res T.c137 (r137 T hf.aM (λx hx=>o.hX.1 x ((VQ.1 hx).1)) (by have:=l.l2;omega) (λx=>x.1.name) (λx hx k e=>aV.of (a:=[]) (c:=[]) T.c140 (r140 T x (o.hX.1 x ((VQ.1 hx).1))))) ?_;rintro s2 g2 QA;have eu:jo V.aD t=(V.ao.filter λx=>!jK V.aD x.1 t).map λx=>x.1.name:=by
  simp only[jo,RV.aD,WA,Wl];rfl
 rw[eu];have:=QA.aM;refine Rs (A2 t0 t1) ?_;exact this
def r255{x}(ox:x.2.one=true){n b}(hb:h[b]? =some (.b [.str n])):ak P 255 [.agg (bg x),.ptr b 0] h (λv _=>v=.bool (decide (x.1.line=n))):=by
 refine .eQ 8 T.mix T.c255 ?_;intro ts hlen t0 t1;unfold fn255 gA;have lb:∀{k:af}{n':Option Nat}{a:Nat},Ext h k->aq n' (.ptr b a) (λz=>k[z]?)=dI n' a (.b [.str n]):=λe=>az (e.some hb)
 unfold bg at t0;exact Rs (A4 t0 t1 @ox @lb) Tv
def r206{V}(o:aG h V)(l:iS V)(n:By):ak P 206 [.agg V.row,.str n] h (λv h'=>aB h' v 3 ((V.ao.filter λx=>decide (x.1.line=n)).map bg)):=by
 refine .eQ 9 T.mix T.c206 ?_;intro ts hlen t0 t1;unfold fn206 gA;have Oj:=@aG.box _ _ o;refine Rs (A4 t0 t1 @Oj @jU) ?_;refine WF.res T.c138 (r138 T (o.i2.ext Xx) o.hX.1 (by have:=l.l2;omega) (λx=>decide (x.1.line=n)) (λx hx k e=>aV.of (a:=[]) (c:=[.ptr (h++[ai.b V.row]).length 0]) T.c255 (r255 T (o.hX.1 x hx) (e.some bO)))) ?_;rintro s1 g1 hf;have:=hf.aM;refine Rs (A2 t0 t1) ?_;exact this
def r269{x n b}(hb:h[b]? =some (.b [.str n])):ak P 269 [.agg (dN x),.ptr b 0] h (λv _=>v=.bool (decide (x.EF=n))):=by
 refine .eQ 8 T.mix T.c269 ?_;intro ts hlen t0 t1;unfold fn269 Eg;have lb:∀{k:af}{n':Option Nat}{a:Nat},Ext h k->aq n' (.ptr b a) (λz=>k[z]?)=dI n' a (.b [.str n]):=λe=>az (e.some hb)
 unfold dN at t0;exact Rs (A3 t0 t1 @lb) Tv
def r251{V}(o:aG h V)(l:iS V)(n:By):ak P 251 [.agg V.row,.str n] h (λv _=>v=.bool (A1 V.aD n)):=by
 refine .eQ 9 T.mix T.c251 ?_;intro ts hlen t0 t1;unfold fn251 gA;have Oj:=@aG.box _ _ o;refine Rs (A4 t0 t1 @Oj @lS) ?_;refine WF.ce T.c268 (r268 T (o.i5.ext Xx) (by have:=l.l5;omega) (λx=>decide (x.EF=n)) (λx hx k e=>aV.of (a:=[]) (c:=[.ptr (h++[ai.b V.row]).length 0]) T.c269 (r269 T (e.some bO)))) λg1=>?_
 refine Rs (A2 t0 t1) ?_;rfl
end
end Go.Abs
namespace Go.Abs
def WF.Ig{P ro ks ts h h' Q fv args d l v}(H:eG P fv args h v h')(K:WP P ro l ks (put ts d v) h' Q):WF P ro false fv args d l ks ts h Q:=
 ⟨v,h',H,λhq=>absurd hq Si,K⟩
structure IterM(P:Program)(f:FuncId)(a c:List AV)(L:List (List AV))(pre:af->Prop):Prop where
 run:∀(l:Nat) (h:af) (J:Nat->Nat->af->Prop) (D:af->Prop),(∀m i k,J m i k->pre k)->(∀m i k g,J m i k->J m i (k++g))->
  (∀m i (hi:i<L.length) k,J m i k->∃b k',eG P (.func (.yield l) [] []) L[i] k (.bool b) k'/\(∀x,l<x->x<m->k'[x]? =k[x]?)/\(if b=true then J m (i+1) k' else D k'))->
  (∀m k,J m L.length k->D k)->l+1=h.length->pre h->(∀g,J (h++g).length 0 (h++g))->c9 P f (a++[.func (.yield l) [] []]++c) h (λ_ k=>D k)
section
variable {P:Program}{ks:List Kt}{ts:TS}{h:af}{Q:Ex->TS->af->Prop}
def WC.iterM(hmix:P.follows .mixedOrders=true){f A a c L pre g ps asg body}(hA:bz P f=some A)
  (hg:val ts g=.func (.func f) a c) (hi:IterM P f a c L pre) (hps:∀x∈L,x.length=ps.length) (I:Nat->Nat->af->af->Prop) (Fin:Ex->af->af->Prop)
  (h0:∀g,I (h.length+1+g.length) 0 h g) (hcl:∀m i h' g g2,I m i h' g->I m i h' (g++g2)) (hp0:∀X,pre (h++[X])) (hpre:∀m i h' g X,h'.length=h.length->I m i h' g->pre (h'++[X]++g))
  (step:∀m i (hi:i<L.length) h' g (R B:ai),h'.length=h.length->I m i h' g->
   WC P AM asg [] (setArgs ts ps L[i]) (h'++[R]++g) λe1 Q4 h2=>e1=.normal/\∃h1 g1,h2=h1++[R]++g1/\h1.length=h.length/\
    WC P AM body [] Q4 (h1++[B]++g1) λe2 _ h4=>∃h3 g3,h4=h3++[B]++g3/\h3.length=h.length/\(∀x,x+h.length+1<m->g3[x]? =g[x]?)/\(if e2=.normal then I m (i+1) h3 g3 else Fin e2 h3 g3))
  (done:∀e h' g,h'.length=h.length->(if e=.normal then ∃m,I m L.length h' g else Fin e h' g)->WE P cB e ks ts (h'++[ai.dead]++g) Q):WC P cB (.ft g ps asg body) ks ts h Q:=by
 let J:Nat->Nat->af->Prop:=λm i k=>∃h' g,k=h'++[.loop .ready .normal ts ps asg body]++g/\h'.length=h.length/\I m i h' g
 let D:af->Prop:=λk=>∃e h' g st,k=h'++[.loop st e ts ps asg body]++g/\h'.length=h.length/\st≠.busy/\(if e=.normal then ∃m,I m L.length h' g else Fin e h' g)
 obtain⟨v,h2,hs,e,h',g',st,rfl,hl,bE,PF⟩:=hi.run h.length (h++[.loop .ready .normal ts ps asg body]) J D
  (λm i k hJ=>by obtain⟨h',g,rfl,h1,h2⟩:=hJ;exact hpre m i h' g _ h1 h2)
  (λm i k g2 hJ=>by obtain⟨h',g,rfl,h1,h2⟩:=hJ;exact⟨h',g++g2,by rw[Uf],h1,hcl _ _ _ _ _ h2⟩)
  (λm i hi k hJ=>by
   obtain⟨h',g,rfl,h1,h2⟩:=hJ;obtain⟨e1,Q4,k2,q1,rfl,h3,g3,rfl,h4,q2⟩:=W.sound hmix (step m i hi h' g (.loop .ready .normal ts ps asg body) (.loop .busy .normal ts ps asg body) h1 h2);obtain⟨e2,ts3,k3,q3,h5,g5,rfl,h6,q5,q4⟩:=W.sound hmix q2;have hy:eG P (.func (.yield h.length) [] []) L[i] (h'++[.loop .ready .normal ts ps asg body]++g) (.bool (decide (e2=.normal))) (List.set (h5++[ai.loop .busy .normal ts ps asg body]++g5) h.length (ai.loop (if e2=.normal then .ready else .done) e2 ts ps asg body)):=
    eG.yield (lq h1) (hps _ (UB hi)) (λr=>q1 (some r) ⟨r,rfl⟩) (lq h4) (λr=>by rw[pG h4];exact q3 (some r) ⟨r,rfl⟩) (lq h6)
   rw[pG h6]at hy;refine⟨decide (e2=.normal),_,hy,?_,?_⟩
   ·intro x hx PI;rw[Un (by simp;omega),Un (by simp;omega)];have:=q5 (x-h.length-1) Om;simp only[Ud,Ui,Ul,h6,h1,UX,Nat.sub_sub]at this ⊢;exact this
   by_cases he:e2=.normal
   ·exact H7
   ·rw[Ur he]at q4;simp only[he,Va,U3,UC];exact⟨e2,h5,g5,.done,rfl,h6,Si,by rw[Ur he];exact q4⟩)
  (λm k hJ=>by obtain⟨h',g,rfl,h1,h2⟩:=hJ;exact⟨.normal,h',g,.ready,rfl,h1,Si,by rw[Ut rfl];exact⟨m,h2⟩⟩)
  Si (hp0 _) (λg=>⟨h,g,rfl,rfl,by have:=h0 g;simpa only[Ud,Ui,Ul,UX]using this⟩)
 exact z49
end
def WC.Ey{P ro c ts h Q Q'}(H:WC P ro c [] ts h Q)(hq:∀e ts' h',Q e ts' h'->Q' e ts' h'):WC P ro c [] ts h Q':=W.mono H hq
def oG{A B:af}{K K':ai}{b:Nat}(h:b≠A.length):(A++[K]++B)[b]? =(A++[K']++B)[b]? :=by
 by_cases h1:b<A.length
 ·rw[Uf,Uf,Ug h1,Ug h1]
 ·exact Kz
def GW{A B:af}{K:ai}:(A++[K]++B)[A.length]? =some K:=by
 exact HW
def cW(x:By×Bool):AV×AV:=(.str x.1,.bool x.2)
def fM:List (By×Bool)->By->Bool
 |[],_=>false
 |(a,b)::r,w=>if w=a then b else fM r w
def pV:List (By×Bool)->By->Bool->List (By×Bool)
 |[],w,b=>[(w,b)]
 |(a,c)::r,w,b=>if w=a then(w,b)::r else(a,c)::pV r w b
theorem pY:∀{M}{w w'}{b},fM (pV M w b) w' =if w' =w then b else fM M w'
 |[],w,w',b=>by rw[pV,fM];rfl
 |(a,c)::r,w,w',b=>by
  rw[pV];by_cases h1:w=a
  ·subst h1;rw[Ut rfl,fM,fM];by_cases h2:w' =w
   ·rw[Ut h2,Ut h2]
   ·rw[Ur h2,Ur h2,Ur h2]
  ·rw[Ur h1,fM,fM,pY];by_cases h2:w' =a
   ·subst h2;rw[Ut rfl,Ur (Wy h1),Ut rfl]
   ·rw[Ur h2,Ur h2]
theorem ri:∀{M}{w},∃o:Option AV,iw .s (.str w) (M.map cW)=some o/\(o=some (.bool (fM M w))\/(o=none/\fM M w=false))
 |[],w=>⟨none,rfl,.inr ⟨rfl,rfl⟩⟩
 |(a,c)::r,w=>by
  by_cases h1:w=a
  ·subst h1;refine⟨some (.bool c),?_,.inl ?_⟩
   ·simp only[Vl,cW,iw,cR,BEq.rfl]
   ·rw[fM,Ut rfl]
  ·obtain⟨o,h2,h3⟩:=ri (M:=r) (w:=w);have hb:(w==a)=false:=by simp[h1]
   refine⟨o,?_,?_⟩
   ·simp only[Vl,cW,iw,cR,hb];exact h2
   ·rw[fM,Ur h1];exact h3
theorem sS:∀{M}{w}{b},mZ .s (.str w) (.bool b) (M.map cW)=some ((pV M w b).map cW)
 |[],w,b=>rfl
 |(a,c)::r,w,b=>by
  by_cases h1:w=a
  ·subst h1;rw[pV,Ut rfl];simp only[Vl,cW,mZ,cR,BEq.rfl]
  ·have hb:(w==a)=false:=by simp[h1]
   have:=sS (M:=r) (w:=w) (b:=b);rw[pV,Ur h1];show(match some (w==a)with|some true=>some ((AV.str w,AV.bool b)::r.map cW)|some false=>(mZ .s (.str w) (.bool b) (r.map cW)).map ((AV.str a,AV.bool c)::·)|none=>none)=_;rw[hb,this];rfl
def rT(kk:CK)(m k x:AV)(G:Nat->Option ai):Option (AV×gL):=
 match m with
 |.map r=>
  match G r with
  |some (.aN es)=>
   match mZ kk k x es with
   |some es'=>some (au,.set r (.aN es'))
   |none=>none
  |_=>none
 |_=>none
def rS{kk r k x G es es'}(hb:G r=some (.aN es))(hu:mZ kk k x es=some es'):rT kk (.map r) k x G=some (au,.set r (.aN es')):=by
 simp only[rT,hb,hu]
def hO{kk m k x ρ G N}:stepT (.fu kk m k x) ρ G N=rT kk (ρ m) (ρ k) (ρ x) G:=rfl
def gk(kk:CK)(z:AV)(ok:Bool)(m k:AV)(G:Nat->Option ai):Option (AV×gL):=
 match m with
 |.cQ=>some (if ok then .dt [z,.bool false]else z,.ar)
 |.map r=>
  match G r with
  |some (.aN es)=>
   match iw kk k es with
   |some (some v)=>some (if ok then .dt [v,.bool true]else v,.ar)
   |some none=>some (if ok then .dt [z,.bool false]else z,.ar)
   |none=>none
  |_=>none
 |_=>none
def bA{kk z ok m k ρ G N}:stepT (.look kk z ok m k) ρ G N=gk kk z ok (ρ m) (ρ k) G:=rfl
def jY(z:AV)(ok:Bool):Option AV->Option (AV×gL)
 |some v=>some (if ok then .dt [v,.bool true]else v,.ar)
 |none=>some (if ok then .dt [z,.bool false]else z,.ar)
def pF{kk z ok r k G es o}(hb:G r=some (.aN es))(hu:iw kk k es=some o):
  gk kk z ok (.map r) k G=jY z ok o:=by
 simp only[gk,hb,hu];cases o<;>rfl
def ni{r w G M}(hb:G r=some (.aN (M.map cW))):gk .s (.bool false) false (.map r) (.str w) G=some (.bool (fM M w),.ar):=by
 obtain⟨o,h1,h2⟩:=ri (M:=M) (w:=w);rw[pF hb h1];rcases h2 with rfl|⟨rfl,h2⟩
 ·rfl
 ·rw[h2];rfl
def pC{r w b G M}(hb:G r=some (.aN (M.map cW))):rT .s (.map r) (.str w) (.bool b) G=some (au,.set r (.aN ((pV M w b).map cW))):=rS hb sS
def an.tl:an->an
 |.seq _ b=>b
 |c=>c
def an.hd:an->an
 |.seq a _=>a
 |c=>c
def an.dr:Nat->an->an
 | 0,c=>c
 |n+1,c=>c.tl.dr n
def an.Gk:an->an
 |.block _ a=>a
 |.loop a=>a
 |c=>c
def an.Ca:an->an
 |.ft _ _ a _=>a
 |c=>c
def an.BJ:an->an
 |.ft _ _ _ b=>b
 |c=>c
def Fr.swap'{N A B g s es cs}(hs:Fr N (A++g) s es cs)(hA:A.length=N)(hB:B.length=N):Fr N (B++g) s es cs:=by
 subst hA;exact hs.swap hB
set_option maxRecDepth 10000
attribute [local irreducible] WP WC WE WB WR WF WL WG fo
def I0:an:=((fn214).body.tl).hd
def FV:an:=I0.tl.Gk
def Lp:an:=(fn214).body.tl.tl
def IZ:(fn214).body=.seq ((fn214).body.hd) (.seq (.seq I0.hd (.block 0 (.ft (.t 16) [17,18] FV.Ca FV.BJ))) Lp):=rfl
section
variable {P:Program}(T:eF P) {h:af}
include T
def At{x:jH×AV}{Hm:List (By×Bool)->af}{mb bb xb:Nat}(a1:∀M,(Hm M)[mb]? =some (.aN (M.map cW)))(a2:∀M,(Hm M)[bb]? =some (.b [.map mb]))(a3:∀M,(Hm M)[xb]? =some (.b (aP x)))
  (a4:∀M K:List (By×Bool),(Hm M).set mb (.aN (K.map cW))=Hm K) (a5:∀M,aB (Hm M) x.2 1 (x.1.bF.map al)) (hl:x.1.bF.length<2^30) {ts:TS}(hlen:ts.length=56) (t4:slot ts 4=.ptr bb 0) (t6:slot ts 6=.ptr xb 0)
  {M:List (By×Bool)}{S:List (By)}(hM:∀w,fM M w=decide (w∈S)):
  WC P AM FV.BJ [] ts (Hm M) λe _ h4=>e=.normal/\∃M',h4=Hm M'/\∀w,fM M' w=decide (w∈(if x.1.name∈S then S++x.1.bF else S)):=by
 have l2:∀{M n o},aq n (.ptr bb o) (λz=>(Hm M)[z]?)=dI n o (.b [.map mb]):=λ{M _ _}=>az (a2 M)
 have l3:∀{M n o},aq n (.ptr xb o) (λz=>(Hm M)[z]?)=dI n o (.b [.str x.1.name,.str x.1.gives,.str x.1.line,x.2]):=λ{M _ _}=>az (a3 M)
 have lk:∀{M w},gk .s (.bool false) false (.map mb) (.str w) (λz=>(Hm M)[z]?)=some (.bool (fM M w),.ar):=λ{M _}=>ni (a1 M)
 have mp:∀{M w b},rT .s (.map mb) (.str w) (.bool b) (λz=>(Hm M)[z]?)=some (au,.set mb (.aN ((pV M w b).map cW))):=λ{M _ _}=>pC (a1 M)
 have Rc:=λM G=>(a5 M).aS G
 unfold FV I0 fn214 gA;simp only[an.tl,an.hd,an.Gk,an.BJ]
 repeat (first|simp (config:={maxSteps:=1000000}) only[aL,aR,bd,bf,reduceAdd,reduceMul,reduceLeDiff,reduceEqDiff,bj,hlen,UC,UD,t4,t6,l2,l3,Rc M]|simp (config:={maxSteps:=1000000}) (disch:=first|(simp only[Ud,Ui,Ul]<;>omega)|rfl|omega|fail) only[dZ,aL,aR,bd,bf,reduceAdd,reduceMul,reduceLeDiff,reduceEqDiff,bj,hlen,UC,UD,t4,t6,l2,l3,Rc M])
 refine WL.inv T.mix (λn ts h'=>∃(k:Nat) (M':List (By×Bool)),k<=x.1.bF.length/\n=x.1.bF.length-k/\h' =Hm M'/\(∀w,fM M' w=decide (w∈S\/(x.1.name∈S/\w∈x.1.bF.take k)))/\
   ts.length=56/\slot ts 4=.ptr bb 0/\slot ts 6=.ptr xb 0/\slot ts 20=x.2/\slot ts 21=.i x.1.bF.length/\slot ts 22=.i k) x.1.bF.length
  ⟨0,M,Om,rfl,rfl,λw=>by rw[hM];simp,Sn,(Sq t4),(Sq t6),(Sq t6),(Sq t6),iR⟩ ?_
 clear t4 t6 hlen hM;clear M ts;rintro _ ts _ ⟨k,M,hk',rfl,rfl,hM,hlen,t4,t6,t20,t21,t22⟩;by_cases hlt:k<x.1.bF.length
 ·have e3:=gh hlt;have ix:=(a5 M).fx (kk:=.i64) hlt;have ld:aq none (eO x.2 1 k) (λb=>(Hm M)[b]?)=some (.str x.1.bF[k],.ar):=(a5 M).kK hlt rfl (Ext.refl _);have e5:=wrapN (n:=k) Om;have hnew:∀w,fM (pV M x.1.bF[k] (fM M x.1.bF[k]||fM M x.1.name)) w=decide (w∈S\/(x.1.name∈S/\w∈x.1.bF.take (k+1))):=by
   intro w;rw[pY];have ht:x.1.bF.take (k+1)=x.1.bF.take k++[x.1.bF[k]]:=by rw[U9,Uj hlt];rfl
   rw[ht];by_cases hw:w=x.1.bF[k]
   ·rw[Ut hw,hM,hM,hw,<-Bool.decide_or,Wb,Um,Uw];constructor
    ·rintro((h1|h1)|(h1|h1))
     ·exact .inl h1
     ·exact .inr ⟨h1.1,.inl h1.2⟩
     ·exact .inr ⟨h1,.inr rfl⟩
     ·exact .inr ⟨h1.1,.inr rfl⟩
    ·rintro(h1|h1)
     ·exact .inl (.inl h1)
     ·exact .inr (.inl h1.1)
   ·rw[Ur hw,hM,Wb,Um,Uw];simp only[hw,V3]
  cases hb:fM M x.1.bF[k]with
  |true=>
   rw[hb,W6]at hnew;exact Nd
  |false=>
   rw[hb,Wr]at hnew;exact Nd
 ·have e3:=gG hlt;have e4:k=x.1.bF.length:=Om
  rw[e4,UU]at hM;refine Rs (A6 t4 t6 t20 t21 t22 e3) ?_;refine⟨M,rfl,λw=>?_⟩;rw[hM,Wb];by_cases hx:x.1.name∈S<;>simp[hx]
end
def Ln:jH×AV:=(FU,.ah)
def rp(X:List (jH×AV)):List (List AV):=(List.range X.length).map λj=>[.i ((X.length-1-j:Nat):Int),.agg (aP (X.getD (X.length-1-j) Ln))]
def gZ{X}:(rp X).length=X.length:=by simp[rp]
def rn{X j}(hj:j<(rp X).length):(rp X)[j]=[.i ((X.length-1-j:Nat):Int),.agg (aP (X[X.length-1-j]'(by rw[gZ]at hj;omega)))]:=by
 have h1:X.length-1-j<X.length:=by rw[gZ]at hj;omega
 simp only[rp,Vz,List.getElem_range,UQ,Uj h1,Wt]
structure oq(V:RV)(m:By)(cm cr:Nat)(k:af):Prop where
 m:k[cm]? =some (.b [.str m])
 r:k[cr]? =some (.b V.row)
 o:aG k V
theorem oq.ext{V m cm cr k k'}(p:oq V m cm cr k)(e:Ext k k'):oq V m cm cr k':=⟨e.some p.m,e.some p.r,p.o.ext e⟩
def ia(V:RV)(m:By):List (jH×AV):=V.aJ.filter λx=>decide (x.1.name∈fh m V.aD.aJ.reverse)
def yk{m:By}{l:List jH}{i:Nat}(hi:i<l.length):fh m (l.take (i+1))=(if l[i].name∈fh m (l.take i)then fh m (l.take i)++l[i].bF else fh m (l.take i)):=by
 rw[U9,Uj hi,fh,List.foldl_append];rfl
def yy{α:Type}{p:α->Bool}{l:List α}{k:Nat}(hk:k<l.length)(hp:p l[k]=true):∃h:((l.take k).filter p).length<(l.filter p).length,(l.filter p)[((l.take k).filter p).length]=l[k]:=by
 have e:l.filter p=(l.take k).filter p++(l[k]:: (l.drop (k+1)).filter p):=by
  conv=>lhs;rw[<-U8 k l,VC hk,List.filter_append,List.filter_cons,Ut hp]
 have h:((l.take k).filter p).length<(l.filter p).length:=by rw[e];simp
 refine⟨h,?_⟩;have:(l.filter p)[((l.take k).filter p).length]? =some l[k]:=by rw[e,Un (Uq _)];simp
 exact(Ue.1 this).2
def AR{α:Type}{p:α->Bool}{l:List α}{k:Nat}(hk:k<l.length):((l.take (k+1)).filter p).length=if p l[k]=true then((l.take k).filter p).length+1 else((l.take k).filter p).length:=by
 rw[U9,Uj hk,List.filter_append,Ud];cases h:p l[k]<;>simp[h]
def Bi{N}:nD .cQ N=some (.ptr N 0,.push (.b [.cQ])):=rfl
def Im{r N}:jq 1 0 (.map r) N (.b [.cQ])=some (au,.set N (.b [.map r])):=rfl
section
variable {P:Program}(T:eF P) {h:af}
include T
def r215{s}(o:s.one=true):ak P 215 [s] h (λv h'=>v=.func (.func 259) [] [.ptr h.length 0]/\h' =h++[.b [s]]):=by
 refine .of T.mix T.c215 ?_;unfold fn215 gA;exact Ws @o Tv
def yv{b s X}(hl:X.length<2^30):
  Iter P 259 [] [.ptr b 0] (rp X) (λk=>k[b]? =some (.b [s])/\aB k s 4 (X.map aP)):=by
 refine⟨λl h1 J Dn hpre happ OZ P3 h0=>c9.of T.mix T.c259 ?_⟩;obtain⟨ts,Ol⟩:∃ts,ts=aQ 19 ([]++[.func (.yield l) [] []]++[.ptr b 0]):=⟨_,rfl⟩;have hlen:ts.length=19:=by rw[Ol];rfl
 have t0:slot ts 0=.func (.yield l) [] []:=by rw[Ol];rfl
 have t1:slot ts 1=.ptr b 0:=by rw[Ol];rfl
 unfold fn259 gA;show WC P cB _ [] (aQ 19 ([]++[.func (.yield l) [] []]++[.ptr b 0])) h1 _;rw[<-Ol];clear Ol;have p0:=hpre 0 h1 h0;have l0:∀{n o},aq n (.ptr b o) (λz=>h1[z]?)=dI n o (.b [s]):=λ{_ _}=>az p0.1
 have e0:IntKind.i64.wrap ((X.length:Int)-1)=(X.length:Int)-1-(0:Nat):=by rw[aH Om Om];omega
 refine Rs (A5 t0 t1 @l0 p0.2.aS e0) ?_;refine WL.inv T.mix (λn ts h'=>∃k:Nat,k<=X.length/\n=X.length-k/\J k h'/\ts.length=19/\slot ts 0=.func (.yield l) [] []/\slot ts 1=.ptr b 0/\slot ts 3=.i ((X.length:Int)-1-k)) X.length
  ⟨0,Om,rfl,h0,Sn,(Sq t0),(Sq t1),(Sq t0)⟩ ?_
 clear t0 t1 hlen l0 p0;clear ts;rintro _ ts h' ⟨k,hk,rfl,hJ,hlen,t0,t1,t3⟩;obtain⟨p1,p2⟩:=hpre _ _ hJ;have l0:∀{n o},aq n (.ptr b o) (λz=>h'[z]?)=dI n o (.b [s]):=λ{_ _}=>az p1
 by_cases hlt:k<X.length
 ·have hj:X.length-1-k<X.length:=Om
  have ei:(X.length:Int)-1-k=((X.length-1-k:Nat):Int):=Om
  have e3:decide ((0:Int)<=((X.length-1-k:Nat):Int))=true:=Uk Om;have ix:=p2.fx (kk:=.i64) hj;have ld:aq (some 4) (eO s 4 (X.length-1-k)) (λb=>h'[b]?)=some (.agg (aP X[X.length-1-k]),.ar):=p2.mY hj (Ext.refl _);have hwk:IntKind.i64.wrap (((X.length-1-k:Nat):Int)-1)=(X.length:Int)-1-((k+1:Nat):Int):=by rw[aH Om Om];omega
  rw[ei]at t3;refine Rs (A7 t0 t1 t3 @l0 e3 ix @ld) ?_;obtain⟨bb,k',q1,q2⟩:=OZ k (by rw[gZ];exact hlt) h' hJ;rw[rn]at q1;refine WF.Ig q1 ?_;cases bb with
  |true=>
   refine Rs (A5 t0 t1 t3 @UA @hwk) ?_;exact⟨_,Om,k+1,Om,rfl,q2,rfl⟩
  |false=>
   refine Rs (A4 t0 t1 t3 @UF) ?_;exact q2
 ·have e3:decide ((0:Int)<=(X.length:Int)-1-k)=false:=Uh Om;have e4:k=X.length:=Om
  refine Rs (A4 t0 t1 t3 e3) ?_;refine P3 h' ?_;rw[gZ,<-e4];exact hJ
def r119{V}(o:aG h V)(m:By):ak P 119 [.agg V.row,.str m] h (λv h'=>v=.func (.func 214) [] [.ptr (h.length+1) 0,.ptr h.length 0]/\oq V m (h.length+1) h.length h'):=by
 refine .eQ 6 T.mix T.c119 ?_;intro ts hlen t0 t1;unfold fn119 gA;have Oj:=@aG.box _ _ o;have hl2:(h++[ai.b V.row]).length=h.length+1:=Si
 refine Rs (A3 t0 t1 @Oj) ?_;rw[hl2];refine⟨rfl,?_,sf,o.ext Xx⟩;rw[<-hl2];exact bO
def pL{V:RV}(l:iS V)(hin:∀x∈V.aJ,x.1.bF.length<2^30)(m:By)(cm cr:Nat):
  IterM P 214 [] [.ptr cm 0,.ptr cr 0] ((ia V m).map λx=>[.agg (aP x)]) (oq V m cm cr):=by
 refine⟨λlp h J Dn hpre happ OZ P3 hlp p0 h0=>c9.of T.mix T.c214 ?_⟩;obtain⟨ts,Ol⟩:∃ts,ts=aQ 56 ([]++[.func (.yield lp) [] []]++[.ptr cm 0,.ptr cr 0]):=⟨_,rfl⟩;have hlen:ts.length=56:=by rw[Ol];rfl
 have t0:slot ts 0=.func (.yield lp) [] []:=by rw[Ol];rfl
 have t1:slot ts 1=.ptr cm 0:=by rw[Ol];rfl
 have t2:slot ts 2=.ptr cr 0:=by rw[Ol];rfl
 show WC P cB (fn214).body [] (aQ 56 ([]++[.func (.yield lp) [] []]++[.ptr cm 0,.ptr cr 0])) h _;rw[<-Ol,IZ];clear Ol;obtain⟨RR,Pa⟩:∃RR,RR=Lp:=⟨_,rfl⟩;obtain⟨RA,Ta⟩:∃RA,RA=FV.Ca:=⟨_,rfl⟩;obtain⟨RB,S9⟩:∃RB,RB=FV.BJ:=⟨_,rfl⟩;rw[<-Pa,<-Ta,<-S9];unfold I0 fn214 gA;simp only[an.tl,an.hd];have lm:=@jg _ _ _ p0.m;have lr:=@jg _ _ _ p0.r;have u0:rT .s (.map h.length) (.str m) (.bool true) (λz=>(h++[ai.aN []])[z]?)=some (au,.set h.length (.aN ([(m,true)].map cW))):=pC (M:=[]) bO;refine Rs (uO t0 t1 t2 @lm @lr @hO @u0 @kQ @Bi @Im) ?_;refine WF.res T.c215 (r215 T p0.o.i3.one) ?_;rintro _ g1 ⟨rfl,hg⟩;have hg:=V4 hg
 subst hg;refine Rs (A3 t0 t1 t2) ?_;have hlV:V.aD.aJ.length=V.aJ.length:=by simp[RV.aD]
 refine WC.iter T.mix T.c259 (a:=[]) (c:=[.ptr (h++[ai.aN (List.map cW [(m,true)])]++[ai.b [AV.map h.length]]).length 0]) (Sq t0) (yv T (s:=V.s3) (X:=V.aJ) (by have:=l.l3;omega)) (λy hy=>by obtain⟨z,_,rfl⟩:=UI.1 hy;rfl)
  (λi h' g=>∃M:List (By×Bool),h' =h++[ai.aN (M.map cW)]++[ai.b [AV.map h.length]]++[ai.b [V.s3]]/\∀w,fM M w=decide (w∈fh m (V.aD.aJ.reverse.take i))) (λ_ _ _=>False)
  ⟨[(m,true)],rfl,λw=>?_⟩ (λi h' g g' hI=>hI) (λi h' g X hl hI=>?_) (λi hi h' g R B OJ hI=>?_) (λe h' g hl hI=>?_)
 ·show(if w=m then true else false)=decide (w∈[m]);by_cases hw:w=m<;>simp[hw]
 ·obtain⟨M,rfl,_⟩:=hI;refine⟨?_,p0.o.i3.ext Xx⟩;have e:(h++[ai.aN (List.map cW [(m,true)])]++[ai.b [AV.map h.length]]).length=(h++[ai.aN (M.map cW)]++[ai.b [AV.map h.length]]).length:=Si
  rw[e];exact yL
 ·obtain⟨M,rfl,hM⟩:=hI;have hi':i<V.aJ.length:=by rw[<-gZ];exact hi
  have hj:V.aJ.length-1-i<V.aJ.length:=Om
  rw[rn,Ta];have PI:V.aJ[V.aJ.length-1-i]∈V.aJ:=UB _;have hxr:V.aD.aJ.reverse[i]'(by rw[List.length_reverse];omega)=(V.aJ[V.aJ.length-1-i]).1:=by
   rw[List.getElem_reverse];simp only[RV.aD,Vz,Uv]
  have hns:=yk (m:=m) (l:=V.aD.aJ.reverse) (i:=i) (by rw[List.length_reverse];omega);rw[hxr]at hns;generalize V.aJ[V.aJ.length-1-i]=x at *;have ox:=p0.o.hX.2.1 x PI;unfold FV I0 fn214 gA;simp only[an.tl,an.hd,an.Gk,an.Ca,setArgs,aP];refine Rs (A4 t0 t1 t2 @ox) ?_;refine⟨_,g++[ai.b [AV.str x.1.name,.str x.1.gives,.str x.1.line,x.2]],by rw[<-Uf],OJ,?_⟩;have xin:=p0.o.e3 x PI;rw[S9];refine WC.Ey (At T (x:=x) (mb:=h.length) (bb:=(h++[ai.aN (List.map cW [(m,true)])]).length) (xb:=(h++[ai.aN (List.map cW M)]++[ai.b [AV.map h.length]]++[ai.b [V.s3]]++[R]++g).length)
   (Hm:=λM=>h++[ai.aN (List.map cW M)]++[ai.b [AV.map h.length]]++[ai.b [V.s3]]++[B]++(g++[ai.b (aP x)]))
   (λM=>sd) (λM=>?_) (λM'=>?_) (λM K=>?_) (λM=>xin.ext Xx) (hin x PI) ?_ (Sq t0) (Sq t0) hM) ?_
  ·have eL:(h++[ai.aN (List.map cW [(m,true)])]).length=(h++[ai.aN (List.map cW M)]).length:=Si
   rw[eL];exact qk
  ·have eL:(h++[ai.aN (List.map cW M)]++[ai.b [AV.map h.length]]++[ai.b [V.s3]]++[B]++g).length=(h++[ai.aN (List.map cW M')]++[ai.b [AV.map h.length]]++[ai.b [V.s3]]++[B]++g).length:=Si
   rw[<-Uf];have eR:(h++[ai.aN (List.map cW M)]++[ai.b [AV.map h.length]]++[ai.b [V.s3]]++[R]++g).length=(h++[ai.aN (List.map cW M')]++[ai.b [AV.map h.length]]++[ai.b [V.s3]]++[B]++g).length:=Si
   rw[eR];exact bO
  ·exact zy
  ·simp only[bj,hlen]
  ·rintro e _ _ ⟨rfl,M',rfl,hM'⟩;refine⟨_,_,rfl,Si,?_⟩;rw[Ut rfl];exact⟨M',rfl,λw=>by rw[hM',hns]⟩
 ·by_cases OQ:e=.normal
  case neg=>rw[Ur OQ]at hI;exact hI.elim
  subst OQ;rw[Ut rfl]at hI;obtain⟨M,rfl,hM⟩:=hI;have hM:∀w,fM M w=decide (w∈fh m V.aD.aJ.reverse):=λw=>by
   rw[hM,UO (by rw[List.length_reverse,gZ,hlV];exact Uq _)]
  rw[Pa];obtain⟨K0,R8⟩:∃K0,K0=h++[ai.aN (M.map cW)]++[ai.b [AV.map h.length]]++[ai.b [V.s3]]++[ai.dead]++g:=⟨_,rfl⟩;have eK:Ext h K0:=by rw[R8];exact Xx
  have k1:K0[h.length]? =some (.aN (M.map cW)):=by rw[R8];exact sd
  have k2:K0[(h++[ai.aN (List.map cW [(m,true)])]).length]? =some (.b [AV.map h.length]):=by
   have eL:(h++[ai.aN (List.map cW [(m,true)])]).length=(h++[ai.aN (List.map cW M)]).length:=Si
   rw[R8,eL];exact qk
  have hJ0:J K0.length 0 K0:=by
   obtain⟨g',OG⟩:=eK;have:=h0 g'
   rwa [<-OG]at this
  have Sl:(h++[ai.aN (List.map cW [(m,true)])]).length<K0.length:=by rw[R8];simp only[Ud,Ui,Ul];omega
  have hbb:(h++[ai.aN (List.map cW [(m,true)])]).length=h.length+1:=Si
  rw[<-R8];generalize K0.length=mm at hJ0 Sl;have lr0:∀{n o},aq n (.ptr cr o) (λz=>K0[z]?)=dI n o (.b V.row):=λ{_ _}=>az (eK.some p0.r)
  have hlm3:=λG=>p0.o.i3.aS G
  unfold Lp fn214 gA;simp only[an.tl];refine Rs (A6 t0 t1 t2 @lr0 @kQ @hlm3) ?_;rw[hbb]at k2 Sl;refine WL.inv T.mix (λn ts h'=>∃k:Nat,k<=V.aJ.length/\n=V.aJ.length-k/\J mm ((V.aJ.take k).filter λx=>decide (x.1.name∈fh m V.aD.aJ.reverse)).length h'/\h'[h.length]? =some (.aN (M.map cW))/\h'[h.length+1]? =some (.b [AV.map h.length])/\
    ts.length=56/\slot ts 0=.func (.yield lp) [] []/\slot ts 4=.ptr (h.length+1) 0/\slot ts 39=V.s3/\slot ts 40=.i V.aJ.length/\slot ts 41=.i k) V.aJ.length
   ⟨0,Om,rfl,hJ0,k1,k2,Sn,(Sq t0),(Sq (A2 t0 @hbb)),(Sq t0),(Sq t0),iR⟩ ?_
  clear t0 t1 t2 hlen lr lm u0 lr0 hJ0 k1 k2 hlm3;clear ts;rintro _ ts h' ⟨k,hk,rfl,hJ,k1,k2,hlen,t0,t4,t39,t40,t41⟩;by_cases hlt:k<V.aJ.length
  ·have p1:=hpre _ _ _ hJ;have PI:V.aJ[k]∈V.aJ:=UB _;have ix:=p1.o.i3.fx (kk:=.i64) hlt;have ld:aq (some 4) (eO V.s3 4 k) (λb=>h'[b]?)=some (.agg (aP V.aJ[k]),.ar):=p1.o.i3.mY hlt (Ext.refl _);have ox:=p1.o.hX.2.1 _ PI;have e3:=gh hlt;have e5:IntKind.i64.wrap ((k:Int)+1)=((k+1:Nat):Int):=wrapN (by have:=l.l3;omega);have l2:∀{z n o},Ext h' z->aq n (.ptr (h.length+1) o) (λb=>z[b]?)=dI n o (.b [AV.map h.length]):=λ{_ _ _} e=>az (e.some k2)
   have lk:∀{C w},gk .s (.bool false) false (.map h.length) (.str w) (λz=>(h'++[C])[z]?)=some (.bool (fM M w),.ar):=λ{C _}=>ni ((Ext.app [C] (Ext.refl h')).some k1)
   have hf:=yy (p:=λx:jH×AV=>decide (x.1.name∈fh m V.aD.aJ.reverse)) hlt;have hs:=AR (p:=λx:jH×AV=>decide (x.1.name∈fh m V.aD.aJ.reverse)) hlt;have hMx:=hM V.aJ[k].1.name;generalize V.aJ[k]=x at *;unfold aP at ld;cases hb:fM M x.1.name with
   |true=>
    rw[hb]at hMx;obtain⟨Re,QA⟩:=hf hMx.symm;refine Rs (Hk t0 t4 t39 t40 t41 ix @ld @ox e3 @l2 @bA @lk @hb) ?_;obtain⟨bb,k',q1,q2,q3⟩:=OZ mm _ (by rw[Uv];exact Re) _ (happ _ _ _ [ai.b [AV.str x.1.name,.str x.1.gives,.str x.1.line,x.2]] hJ);rw[Vz]at q1;have hf2':(ia V m)[((V.aJ.take k).filter λx=>decide (x.1.name∈fh m V.aD.aJ.reverse)).length]'Re=x:=QA;have q1:eG P (.func (.yield lp) [] []) [AV.agg (aP x)] (h'++[ai.b [AV.str x.1.name,.str x.1.gives,.str x.1.line,x.2]]) (.bool bb) k':=by
     refine Eq.mp ?_ q1;congr 1;exact UM (λy=>[AV.agg (aP y)]) hf2'
    unfold aP at q1;refine WF.Ig q1 ?_;cases bb with
    |true=>
     refine Rs (A7 t0 t4 t39 t40 t41 @UA e5) ?_;have hlt1:=(Ue.1 k1).1;have Qy:=(Ue.1 k2).1;refine⟨_,Om,k+1,Om,rfl,?_,?_,?_,rfl⟩
     ·rw[hs,<-hMx,Ut rfl];exact q3
     ·rw[q2 _ Om Om,Ug hlt1];exact k1
     ·rw[q2 _ Om Om,Ug Qy];exact k2
    |false=>
     refine Rs (A6 t0 t4 t39 t40 t41 @UF) ?_;exact q3
   |false=>
    rw[hb]at hMx;refine Rs (Ec t0 t4 t39 t40 t41 ix @ld @ox e3 @l2 @bA @lk @hb e5) ?_;have hlt1:=(Ue.1 k1).1;have Qy:=(Ue.1 k2).1;refine⟨_,Om,k+1,Om,rfl,?_,?_,?_,rfl⟩
    ·rw[hs,<-hMx,Ur De];exact happ _ _ _ _ hJ
    ·rw[Ug hlt1];exact k1
    ·rw[Ug Qy];exact k2
  ·have e3:=gG hlt;have e4:k=V.aJ.length:=Om
   rw[e4,UU]at hJ;refine Rs (A6 t0 t4 t39 t40 t41 e3) ?_;refine P3 mm h' ?_;rw[Uv];exact hJ
end
def BS:an:=((fn122).body.tl.tl).hd
def Iu:an:=BS.tl.Gk
def KY:an:=(fn122).body.tl.tl.tl
def It:(fn122).body=.seq ((fn122).body.hd) (.seq ((fn122).body.tl.hd) (.seq (.seq BS.hd (.block 0 (.ft (.t 10) [11] Iu.Ca Iu.BJ))) KY)):=rfl
def Fj{r N}:jq 1 0 (.map r) N (.b [.cQ])=some (au,.set N (.b [.map r])):=rfl
def qN{V m}:(ia V m).map Prod.fst=tF V.aD m:=by
 rw[ia,tF];show _=List.filter _ (List.map Prod.fst V.aJ);rw[WA];rfl
section
variable {P:Program}(T:eF P) {h:af}
include T
def r217{x b c M}(hb:h[b]? =some (.b [.map c]))(hc:h[c]? =some (.aN (M.map cW))):ak P 217 [.agg (cp x),.ptr b 0] h (λv _=>v=.bool (fM M x.name)):=by
 refine .eQ 8 T.mix T.c217 ?_;intro ts hlen t0 t1;unfold fn217 gA;have lb:∀{k:af}{n':Option Nat}{a:Nat},Ext h k->aq n' (.ptr b a) (λz=>k[z]?)=dI n' a (.b [.map c]):=λe=>az (e.some hb)
 have lk:∀{C w},gk .s (.bool false) false (.map c) (.str w) (λz=>(h++[C])[z]?)=some (.bool (fM M w),.ar):=λ{C _}=>ni ((Ext.app [C] (Ext.refl h)).some hc)
 unfold cp at t0;exact Rs (A5 t0 t1 @lb @bA @lk) Tv
def r122{V}(o:aG h V)(l:iS V)(hin:∀x∈V.aJ,x.1.bF.length<2^30)(m:By):ak P 122 [.agg V.row,.str m] h (λv h'=>aB h' v 3 ((jT V.aD m).map cp)):=by
 refine .of T.mix T.c122 ?_;obtain⟨ts,Ol⟩:∃ts,ts=aQ 19 [.agg V.row,.str m]:=⟨_,rfl⟩;have hlen:ts.length=19:=by rw[Ol];rfl
 have t0:slot ts 0=.agg V.row:=by rw[Ol];rfl
 have t1:slot ts 1=.str m:=by rw[Ol];rfl
 show WC P cB (fn122).body [] (aQ 19 [.agg V.row,.str m]) h _;rw[<-Ol,It];clear Ol;obtain⟨RR,Pa⟩:∃RR,RR=KY:=⟨_,rfl⟩;obtain⟨RA,Ta⟩:∃RA,RA=Iu.Ca:=⟨_,rfl⟩;obtain⟨RB,S9⟩:∃RB,RB=Iu.BJ:=⟨_,rfl⟩;rw[<-Pa,<-Ta,<-S9];unfold BS fn122 gA;simp only[an.tl,an.hd];have Oj:=@aG.box _ _ o;refine Rs (A6 t0 t1 @Oj @Bi @Fj @bM) ?_;obtain⟨H0,Rh⟩:∃H0,H0=h++[ai.b V.row]:=⟨_,rfl⟩;have e0:Ext h H0:=by rw[Rh];exact Xx
 rw[<-Rh];refine WF.res T.c119 (r119 T (o.ext (e0.trans Xx)) m) ?_;rintro _ g1 ⟨rfl,hp⟩;refine Rs (A2 t0 t1) ?_;obtain⟨cm,S6⟩:∃cm,cm=(H0++[ai.aN []]++[ai.b [AV.map H0.length]]).length:=⟨_,rfl⟩;rw[<-S6]at hp ⊢;have pmap:∀(M:List (By×Bool)) (Z:af),oq V m (cm+1) cm (H0++[ai.aN (M.map cW)]++[ai.b [AV.map H0.length]]++g1++Z):=by
  intro M Z;have hne:∀b,b≠H0.length->(H0++[ai.aN (M.map cW)]++[ai.b [AV.map H0.length]]++g1)[b]? =(H0++[ai.aN []]++[ai.b [AV.map H0.length]]++g1)[b]? :=λb hb=>by
   have:=oG (A:=H0) (B:=[ai.b [AV.map H0.length]]++g1) (K:=ai.aN (M.map cW)) (K':=ai.aN []) (b:=b) hb
   simpa only[Uf]using this
  have hcl:cm=H0.length+2:=by rw[S6];simp
  refine oq.ext ⟨(hne _ Om).trans hp.m,(hne _ Om).trans hp.r,(o.ext e0).ext Xx⟩ (Ext.app Z (Ext.refl _))
 refine WC.iterM T.mix T.c214 (a:=[]) (c:=[.ptr (cm+1) 0,.ptr cm 0]) (Sq t0) (pL T l hin m (cm+1) cm) (λy hy=>by obtain⟨z,_,rfl⟩:=UI.1 hy;rfl)
  (λmm i h' g=>∃M:List (By×Bool),h' =H0++[ai.aN (M.map cW)]++[ai.b [AV.map H0.length]]++g1/\mm<=h'.length+1+g.length/\∀w,fM M w=decide (w∈((ia V m).take i).map λx=>x.1.line)) (λ_ _ _=>False)
  (λg=>⟨[],rfl,Uq _,λw=>rfl⟩) (λmm i h' g g' hI=>by obtain⟨M,a1,a2,a3⟩:=hI;exact⟨M,a1,by rw[Ud];omega,a3⟩) (λX=>pmap [] [X]) (λmm i h' g X hl hI=>?_) (λmm i hi h' g R B OJ hI=>?_) (λe h' g hl hI=>?_)
 ·obtain⟨M,rfl,_⟩:=hI;rw[Uf (H0++[ai.aN (M.map cW)]++[ai.b [AV.map H0.length]]++g1)];exact pmap M _
 ·obtain⟨M,rfl,Sl,hM⟩:=hI;have hi':i<(ia V m).length:=by simpa using hi
  rw[Vz,Ta,S9];have PI:(ia V m)[i]∈V.aJ:=(VQ.1 (UB hi')).1;have OK:((ia V m).take (i+1)).map (λx=>x.1.line)=((ia V m).take i).map (λx=>x.1.line)++[(ia V m)[i].1.line]:=by
   rw[U9,Uj hi',Up];rfl
  generalize (ia V m)[i]=x at *;have ox:=o.hX.2.1 x PI;have eL:∀K:List (By×Bool),(H0++[ai.aN (K.map cW)]).length=(H0++[ai.aN []]).length:=λK=>by simp
  have u0:∀{Z Y:af},rT .s (.map H0.length) (.str x.1.line) (.bool true) (λz=>(H0++[ai.aN (M.map cW)]++[ai.b [AV.map H0.length]]++g1++[B]++Z++Y)[z]?)=some (au,.set H0.length (.aN ((pV M x.1.line true).map cW))):=λ{Z Y}=>pC Br
  have lb:∀{Z Y:af}{n a},aq n (.ptr (H0++[ai.aN []]).length a) (λz=>(H0++[ai.aN (M.map cW)]++[ai.b [AV.map H0.length]]++g1++[B]++Z++Y)[z]?)=dI n a (.b [.map H0.length]):=λ{Z Y _ _}=>by
   rw[<-eL M];exact az sd
  have lx:∀{n a},aq n (.ptr (H0++[ai.aN (M.map cW)]++[ai.b [AV.map H0.length]]++g1++[R]++g).length a) (λz=>(H0++[ai.aN (M.map cW)]++[ai.b [AV.map H0.length]]++g1++[B]++g++[ai.b [AV.str x.1.name,.str x.1.gives,.str x.1.line,x.2]])[z]?)=dI n a (.b [AV.str x.1.name,.str x.1.gives,.str x.1.line,x.2]):=λ{_ _}=>by
   have:(H0++[ai.aN (M.map cW)]++[ai.b [AV.map H0.length]]++g1++[R]++g).length=(H0++[ai.aN (M.map cW)]++[ai.b [AV.map H0.length]]++g1++[B]++g).length:=Si
   rw[this];exact az bO
  unfold Iu BS fn122 gA;simp only[an.tl,an.hd,an.Gk,an.Ca,an.BJ,setArgs,aP];refine Rs (A3 t0 t1 @ox) ?_;refine⟨_,g++[ai.b [AV.str x.1.name,.str x.1.gives,.str x.1.line,x.2]],by rw[<-Uf],OJ,?_⟩;rw[<-Uf];refine Rs (A7 t0 t1 @ox @lb @lx @hO @u0) ?_;refine⟨_,g++[ai.b [AV.str x.1.name,.str x.1.gives,.str x.1.line,x.2]],by rw[<-Uf],Si,λy hy=>Ug ?_,_,rfl,?_,λw=>?_⟩
  ·simp only[Ud,Ui,Ul]at hy Sl;omega
  ·simp only[Ud,Ui,Ul]at Sl ⊢;omega
  ·rw[pY,OK];by_cases hw:w=x.1.line
   ·rw[Ut hw];simp[hw]
   ·rw[Ur hw,hM];simp[hw]
 ·by_cases OQ:e=.normal
  case neg=>rw[Ur OQ]at hI;exact hI.elim
  subst OQ;rw[Ut rfl]at hI;obtain⟨mm,M,rfl,_,hM⟩:=hI;rw[Uv,UU]at hM;rw[Pa];have eL:(H0++[ai.aN (M.map cW)]).length=(H0++[ai.aN []]).length:=Si
  obtain⟨K0,R8⟩:∃K0,K0=H0++[ai.aN (M.map cW)]++[ai.b [AV.map H0.length]]++g1++[ai.dead]++g:=⟨_,rfl⟩;have eK:Ext H0 K0:=by rw[R8];exact Xx
  have k1:K0[H0.length]? =some (.aN (M.map cW)):=by rw[R8];exact sd
  have k2:K0[(H0++[ai.aN []]).length]? =some (.b [AV.map H0.length]):=by
   rw[R8,<-eL];exact qk
  rw[<-R8];have lr:∀{k n a},Ext K0 k->aq n (.ptr h.length a) (λz=>k[z]?)=dI n a (.b V.row):=λ{_ _ _} e=>az ((eK.trans e).some (by rw[Rh];exact bO))
  unfold KY fn122 gA;simp only[an.tl];refine Rs (A4 t0 t1 @lr @ph) ?_;refine WF.res T.c216 (r216 T (o.i0.ext (e0.trans (eK.trans Xx))) (by have:=l.l0;omega) (λx=>fM M x.name) (λx hx k e=>aV.of (a:=[]) (c:=[.ptr (H0++[ai.aN []]).length 0]) T.c217 (r217 T (e.some k2) (e.some k1)))) ?_;rintro s1 g2 hf;have eh:=e0.trans eK;have es:V.lines.filter (λx=>fM M x.name)=jT V.aD m:=by
   refine List.filter_congr λx _=>?_
   rw[hM,<-qN,Wl];rfl
  rw[es]at hf;have:=hf.aM;refine Rs (A2 t0 t1) ?_;exact⟨Ext.app _ eh,this⟩
end
def fy(x:Nat×Bool):List AV:=[.i (x.1:Int),.bool x.2]
def jh:Kd->AV
 |.fW=>.nilFunc
 |.line=>.func (.func 148) [] []
 |.tape=>.func (.func 151) [] []
 |.iY=>.func (.func 155) [] []
 |.copy=>.func (.func 157) [] []
 |.accept=>.func (.func 159) [] []
 |.source=>.func (.func 161) [] []
 |.iP=>.func (.func 163) [] []
 |.merge=>.func (.func 165) [] []
 |.run=>.func (.func 167) [] []
 |.iW=>.func (.func 169) [] []
 |.fail=>.func (.func 171) [] []
 |.jd=>.func (.func 173) [] []
 |.rel=>.func (.func 175) [] []
def nj:Kd->AV
 |.fW=>.nilFunc
 |.line=>.func (.func 149) [] []
 |.tape=>.func (.func 152) [] []
 |.iY=>.func (.func 156) [] []
 |.copy=>.func (.func 158) [] []
 |.accept=>.func (.func 160) [] []
 |.source=>.func (.func 162) [] []
 |.iP=>.func (.func 164) [] []
 |.merge=>.func (.func 166) [] []
 |.run=>.func (.func 168) [] []
 |.iW=>.func (.func 170) [] []
 |.fail=>.func (.func 172) [] []
 |.jd=>.func (.func 174) [] []
 |.rel=>.func (.func 176) [] []
def CN:Kd->Option Nat
 |.fW=>none
 |.line=>some 0
 |.tape=>some 3
 |.iY=>some 1
 |.copy=>some 3
 |.accept=>some 0
 |.source=>some 1
 |.iP=>none
 |.merge=>none
 |.run=>none
 |.iW=>none
 |.fail=>none
 |.jd=>none
 |.rel=>none
def wk(h:af)(d:Kd)(v:AV):Prop:=
 match CN d with
 |none=>v=.nilFunc
 |some 3=>v=.func (.func 153) [] []
 |some i=>∃b,v=.func (.func 240) [] [.ptr b 0]/\h[b]? =some (.b [.i (i:Int)])
structure yZ(h:af)(d:Kd)(v:AV):Prop where
 ex:∃rs a,v=.agg [rs,.i (a8 d:Int),jh d,nj d,a]/\aB h rs 2 ((aC d).map fy)/\a.one=true/\wk h d a
def LI(vf:Kd->AV):List (AV×AV):=EC.map λd=>(.str (bw d),vf d)
structure sL(h:af)(r:Nat)(vf:Kd->AV):Prop where
 m:h[r]? =some (.aN (LI vf))
 k:∀d,yZ h d (vf d)
theorem xy{vf:Kd->AV}{k:By}:∀{L:List Kd},iw .s (.str k) (L.map λd=>(AV.str (bw d),vf d))=some ((L.find? λd=>bw d==k).map vf)
 |[]=>rfl
 |d::L=>by
  rw[Vl,List.find?_cons];by_cases hk:k=bw d
  ·subst hk;simp only[iw,cR,BEq.rfl,V6]
  ·have h1:(k==bw d)=false:=by simp[hk]
   have h2:(bw d==k)=false:=by simp[Wy hk]
   simp only[iw,cR,h1,h2];exact xy
def sL.look{h:af}{r:Nat}{vf:Kd->AV}(o:sL h r vf){z:AV}{ok:Bool}{k:By}:gk .s z ok (.map r) (.str k) (λb=>h[b]?)=jY z ok ((eC k).map vf):=pF o.m xy
def E2(h g:af)(s:AV)(rs:List (Nat×Bool)):Prop:=∀X,aB (h++[X]++g) s 2 (rs.map fy)
theorem E2.app{h g s rs}(o:E2 h g s rs)(g':af):E2 h (g++g') s rs:=λX=>by rw[<-Uf];exact(o X).app g'
def Od(h g:af)(b:Nat)(i:Int):Prop:=∀X,(h++[X]++g)[b]? =some (ai.b [.i i])
theorem wk.app{h d v}(o:wk h d v)(g:af):wk (h++g) d v:=by
 unfold wk at *;split at o
 ·exact o
 ·exact o
 ·obtain⟨b,h1,h2⟩:=o;exact⟨b,h1,(Ext.app g (Ext.refl _)).some h2⟩
theorem yZ.app{h d v}(o:yZ h d v)(g:af):yZ (h++g) d v:=by
 obtain⟨rs,a,e,hs,ha,hb⟩:=o.ex;exact⟨rs,a,e,hs.app g,ha,hb.app g⟩
def j5(ds:List Kd)(vf:Kd->AV):List (AV×AV):=ds.map λd=>(.str (bw d),vf d)
def CL(vf:Kd->AV)(d:Kd)(v:AV):Kd->AV:=λx=>if x=d then v else vf x
def y6(a:Nat)(F:List (Nat×AV)):Bool:=decide (a<56)&&decide (a≠1)&&F.all λp=>decide (p.1≠a)
structure p8(h:af)(ts:TS)(g:af)(ds:List Kd)(vf:Kd->AV)(F:List (Nat×AV)):Prop where
 l:ts.length=56
 m:slot ts 1=.map h.length
 f:∀p∈F,slot ts p.1=p.2
 e:∀d∈ds,∀X,yZ (h++[X]++g) d (vf d)
def p8.put{h ts g ds vf F}(s:p8 h ts g ds vf F){a v}(g':af)(hc:y6 a F=true):p8 h (ts.set a v) (g++g') ds vf ((a,v)::F):=by
 simp only[y6,UH,UT,UJ]at hc;have hl:a+1<=ts.length:=by rw[s.l];omega
 refine⟨by simp only[bj,s.l],by simp only[bj,VO hc.1.2,s.m],λp hp=>?_,λd hd X=>?_⟩
 ·rcases UR.1 hp with rfl|hp
  ·simp only[bj,hl]
  ·simp only[bj,VO (λe=>hc.2 p hp (Eq.symm e)),s.f p hp]
 ·rw[<-Uf];exact(s.e d hd X).app g'
theorem zh{vf k v}:∀{ds},ds.all (λx=>!(bw x==k))=true->mZ .s (.str k) v (j5 ds vf)=some (j5 ds vf++[(.str k,v)])
 |[],_=>rfl
 |d::ds,hd=>by
  rw[VJ,UH]at hd;have h2:(bw d==k)=false:=by simpa using hd.1
  have h3:¬bw d=k:=by simpa using hd.1
  have h1:(k==bw d)=false:=by simp[Wy h3]
  have:=zh (vf:=vf) (v:=v) hd.2;unfold j5 at *;simp only[Vl,mZ,cR,h1,h2,this,V6,Vp]
def gE:AV.one .nilFunc=true:=rfl
section
variable {P:Program}(T:eF P) {h:af}
include T
def r147(t:Int):ak P 147 [.i t] h (λv _=>v=.agg [.i t,.bool false]):=by
 refine .of T.mix T.c147 ?_;unfold fn147 gA;exact Wn Tv
def r154(t:Int):ak P 154 [.i t] h (λv _=>v=.agg [.i t,.bool true]):=by
 refine .of T.mix T.c154 ?_;unfold fn154 gA;exact Wn Tv
def r150(i:Int):ak P 150 [.i i] h (λv h'=>v=.func (.func 240) [] [.ptr h.length 0]/\h' =h++[.b [.i i]]):=by
 refine .of T.mix T.c150 ?_;unfold fn150 gA;exact Wn Tv
section
variable {ks:List Kt}{ts:TS}{Q:Ex->TS->af->Prop}{g:af}{ds:List Kd}{vf:Kd->AV}{F:List (Nat×AV)}{a:Nat}{l:List bo}
def iK{t}(s:p8 h ts g ds vf F)(hc:y6 a F=true)(K:∀ts' g',p8 h ts' (g++g') ds vf ((a,.agg [.i t,.bool false])::F)->WP P cB l ks ts' (h++[.aN (j5 ds vf)]++(g++g')) Q):
  WP P cB (.c a 147 [.c (.i t)]::l) ks ts (h++[.aN (j5 ds vf)]++g) Q:=by
 refine Wn ?_;refine WF.ce T.c147 (r147 T t) λg1=>?_
 exact HQ
def iJ{t}(s:p8 h ts g ds vf F)(hc:y6 a F=true)(K:∀ts' g',p8 h ts' (g++g') ds vf ((a,.agg [.i t,.bool true])::F)->WP P cB l ks ts' (h++[.aN (j5 ds vf)]++(g++g')) Q):
  WP P cB (.c a 154 [.c (.i t)]::l) ks ts (h++[.aN (j5 ds vf)]++g) Q:=by
 refine Wn ?_;refine WF.ce T.c154 (r154 T t) λg1=>?_
 exact HQ
def CO{t}(s:p8 h ts g ds vf F)(hc:y6 a F=true)(K:∀ts' g' b,p8 h ts' (g++g') ds vf ((a,.func (.func 240) [] [.ptr b 0])::F)->Od h (g++g') b t->WP P cB l ks ts' (h++[.aN (j5 ds vf)]++(g++g')) Q):
  WP P cB (.c a 150 [.c (.i t)]::l) ks ts (h++[.aN (j5 ds vf)]++g) Q:=by
 refine Wn ?_;refine WF.res T.c150 (r150 T t) ?_;rintro _ g1 ⟨rfl,hg⟩;have hg:=V4 hg;subst hg;rw[Uf (h++[ai.aN (j5 ds vf)]) g];refine K _ _ _ (s.put _ hc) λX=>?_
 have e:(h++[ai.aN (j5 ds vf)]++g).length=(h++[X]++g).length:=Si
 rw[e,<-Uf];exact bO
theorem AI{N}(s:p8 h ts g ds vf F)(hc:y6 a []=true){n xs}(hN:N=(h++[ai.aN (j5 ds vf)]++g).length)(hn:xs.length=n)(K:∀ts' g' s,p8 h ts' (g++g') ds vf [(a,s)]->E2 h (g++g') s xs->WP P cB l ks ts' (h++[.aN (j5 ds vf)]++(g++g')) Q):
  WP P cB l ks (ts.set a (.slice N 0 n 2)) (h++[.aN (j5 ds vf)]++g++[.cells (xs.map fy).flatten true true]) Q:=by
 subst hN;subst hn;rw[Uf (h++[ai.aN (j5 ds vf)]) g];have s0:p8 h ts g ds vf []:=⟨s.l,s.m,λ_ hp=>(by cases hp),s.e⟩;refine K _ _ _ (s0.put _ hc) λX=>?_
 have e:(h++[ai.aN (j5 ds vf)]++g).length=(h++[X]++g).length:=Si
 rw[e,<-Uf];have:=(Fr.push (N:=0) (h:=h++[X]++g) (UK _) (xs.map fy) (es:=2) (by intro c hc;obtain⟨x,_,rfl⟩:=UI.1 hc;rfl)).aM
 rwa [Uv]at this
def qV{a0 x0}(s:p8 h ts g ds vf [(a0,.agg (fy x0))])(hc:y6 a []=true)(K:∀ts' g' s,p8 h ts' (g++g') ds vf [(a,s)]->E2 h (g++g') s [x0]->WP P cB l ks ts' (h++[.aN (j5 ds vf)]++(g++g')) Q):
  WP P cB (.o a (.aY 2 1 [.i 0,.bool false] [(0,.t a0)])::l) ks ts (h++[.aN (j5 ds vf)]++g) Q:=by
 have s0:slot ts a0=.agg [.i (x0.1:Int),.bool x0.2]:=s.f (a0,.agg (fy x0)) Si;refine Ws @s0 ?_;exact AI T s hc rfl rfl K
def tV{a0 a1 x0 x1}(s:p8 h ts g ds vf [(a1,.agg (fy x1)),(a0,.agg (fy x0))])(hc:y6 a []=true)(K:∀ts' g' s,p8 h ts' (g++g') ds vf [(a,s)]->E2 h (g++g') s [x0,x1]->WP P cB l ks ts' (h++[.aN (j5 ds vf)]++(g++g')) Q):
  WP P cB (.o a (.aY 2 2 [.i 0,.bool false] [(0,.t a0),(2,.t a1)])::l) ks ts (h++[.aN (j5 ds vf)]++g) Q:=by
 have s0:slot ts a0=.agg [.i (x0.1:Int),.bool x0.2]:=s.f (a0,.agg (fy x0)) Si;have s1:slot ts a1=.agg [.i (x1.1:Int),.bool x1.2]:=s.f (a1,.agg (fy x1)) Si;refine Ws (A2 @s0 @s1) ?_;exact AI T s hc rfl rfl K
def EE{a0 a1 a2 x0 x1 x2}(s:p8 h ts g ds vf [(a2,.agg (fy x2)),(a1,.agg (fy x1)),(a0,.agg (fy x0))])(hc:y6 a []=true)(K:∀ts' g' s,p8 h ts' (g++g') ds vf [(a,s)]->E2 h (g++g') s [x0,x1,x2]->WP P cB l ks ts' (h++[.aN (j5 ds vf)]++(g++g')) Q):
  WP P cB (.o a (.aY 2 3 [.i 0,.bool false] [(0,.t a0),(2,.t a1),(4,.t a2)])::l) ks ts (h++[.aN (j5 ds vf)]++g) Q:=by
 have s0:slot ts a0=.agg [.i (x0.1:Int),.bool x0.2]:=s.f (a0,.agg (fy x0)) Si;have s1:slot ts a1=.agg [.i (x1.1:Int),.bool x1.2]:=s.f (a1,.agg (fy x1)) Si;have s2:slot ts a2=.agg [.i (x2.1:Int),.bool x2.2]:=s.f (a2,.agg (fy x2)) Si;refine Ws (A3 @s0 @s1 @s2) ?_;exact AI T s hc rfl rfl K
theorem Jl{v}:WP P cB [.o a (.dq (.c v))] ks ts h Q=WE P cB .normal ks (ts.set a v) h Q:=by
 unfold bo.o;rw[BF,BD,wv,nT]
theorem Jm:WP P cB (.o a .mg::l) ks ts h Q=WP P cB l ks (ts.set a (.map h.length)) (h++[.aN []]) Q:=uK
theorem ED{z ps v}(d:Kd)(s:p8 h ts g ds vf F)(hc:y6 a []=true)(hd:ds.all (λx=>!(bw x==bw d))=true)
  (hv:pU (dW z (ps.map λp=>(p.1,p.2.1,val ts p.2.2)))=some v) (ok:∀X,yZ (h++[X]++g) d v)
  (K:∀ts',p8 h ts' g (ds++[d]) (CL vf d v) []->WP P cB l ks ts' (h++[.aN (j5 (ds++[d]) (CL vf d v))]++g) Q):
  WP P cB (.o a (.build z ps):: .x (.fu .s (.t 1) (.c (.str (bw d))) (.t a))::l) ks ts (h++[.aN (j5 ds vf)]++g) Q:=by
 have e1:rT .s (.map h.length) (.str (bw d)) v (λb=>(h++[ai.aN (j5 ds vf)]++g)[b]?)=some (au,.set h.length (.aN (j5 ds vf++[(.str (bw d),v)]))):=rS sf (zh hd);have hn:∀x∈ds,x≠d:=λx hx e=>by
  have:=UJ.1 hd x hx;rw[e]at this;simp at this
 have eL:j5 ds vf++[(.str (bw d),v)]=j5 (ds++[d]) (CL vf d v):=by
  unfold j5;rw[Up,List.map_singleton,CL,Ut rfl];exact UM (· ++_) (List.map_congr_left λx hx=>by rw[CL,Ur (hn x hx)])
 unfold bo.o bo.x;rw[p5,hv,sC,sH];simp only[y6,UH,UT]at hc;have hl:a+1<=ts.length:=by rw[s.l];omega
 have e2:val (put ts (some a) v) (.t 1)=.map h.length:=by
  simp only[nT,sR,bj,VO hc.1.2,s.m]
 have e3:val (put ts (some a) v) (.t a)=v:=by simp only[nT,sR,bj,hl]
 rw[hO,e2,e3,wv,e1,p4,Aj,nT];have e4:(h++[ai.aN (j5 ds vf)]++g).set h.length (.aN (j5 ds vf++[(.str (bw d),v)]))=h++[.aN (j5 ds vf++[(.str (bw d),v)])]++g:=wG;rw[e4,eL];refine K _ ⟨by simp only[bj,s.l],by simp only[bj,VO hc.1.2,s.m],λ_ hp=>(by cases hp),λx hx X=>?_⟩;rcases Um.1 hx with hx|hx
 ·rw[CL,Ur (hn x hx)];exact s.e x hx X
 ·rw[Uw.1 hx,CL,Ut rfl];exact ok X
def nq{i f2 f3 n x4 r a4}(d:Kd)(s:p8 h ts g ds vf F)(hc:y6 a []=true)(hd:ds.all (λx=>!(bw x==bw d))=true)(hi:(i,r)∈F)(hb:E2 h g r (aC d))(h4:val ts x4=a4)(o4:a4.one=true)(b4:∀X,wk (h++[X]++g) d a4)
  (hn:(a8 d:Int)=n) (h2:jh d=.func (.func f2) [] []) (h3:nj d=.func (.func f3) [] [])
  (K:∀ts',p8 h ts' g (ds++[d]) (CL vf d (.agg [r,.i n,jh d,nj d,a4])) []->WP P cB l ks ts' (h++[.aN (j5 (ds++[d]) (CL vf d (.agg [r,.i n,jh d,nj d,a4])))]++g) Q):
  WP P cB (.o a (.build [.ah,.i 0,.nilFunc,.nilFunc,.nilFunc] [(0,1,.t i),(1,1,.c (.i n)),(2,1,.f f2),(3,1,.f f3),(4,1,x4)]):: .x (.fu .s (.t 1) (.c (.str (bw d))) (.t a))::l) ks ts (h++[.aN (j5 ds vf)]++g) Q:=by
 have s0:slot ts i=r:=s.f (i,r) hi;have o0:r.one=true:=(hb (.aN [])).one;refine ED T d s hc hd ?_ (λX=>⟨r,a4,by rw[hn],hb X,o4,b4 X⟩) K;exact Ws (A6 @s0 @h4 @o0 @o4 @h2 @h3) Tv
end
def r90:ak P 90 [] h (λv h'=>∃vf,v=.map h.length/\sL h' h.length vf):=by
 refine .NX 56 T.mix T.c90 ?_;intro ts hlen;unfold fn90;have m0:slot ((ts.set 0 AV.cQ).set 1 (.map h.length)) 1=.map h.length:=by simp only[bj,hlen,reduceAdd,reduceLeDiff]
 have l0:((ts.set 0 AV.cQ).set 1 (.map h.length)).length=56:=by simp only[bj,hlen]
 dsimp only[an.j,an.s,an.r];rw[p6,p7,Jl T,sJ,p6,p7,Jm T];rw[<-UE (h++[ai.aN []])];generalize (ts.set 0 AV.cQ).set 1 (.map h.length)=ts at *;clear hlen;have s:p8 h ts [] [] (λ_=>au) []:=⟨l0,m0,λ_ hp=>(by cases hp),λ_ hd=>(by cases hd)⟩;clear l0 m0;refine ED T .fW s rfl rfl (v:=.agg [.ah,.i 0,.nilFunc,.nilFunc,.nilFunc]) rfl (λX=>⟨_,_,rfl,.nil,rfl,rfl⟩) ?_;intro ts s;refine iK T (t:=0) s rfl ?_;intro ts g s;refine qV T (x0:=(0,false)) s rfl ?_;intro ts g r s b;refine CO T (t:=0) s rfl ?_;intro ts g p s c;refine nq T .line s rfl rfl (by simp only[UR,true_or,or_true]) (b.app g) (s.f (_,_) (U4 ..)) rfl (λX=>⟨p,rfl,c X⟩) rfl rfl rfl ?_
 intro ts s;refine iK T (t:=1) s rfl ?_;intro ts g s;refine qV T (x0:=(1,false)) s rfl ?_;intro ts g r s b;refine nq T .tape s rfl rfl (U4 ..) b rfl rfl (λ_=>rfl) rfl rfl rfl ?_;intro ts s;refine iK T (t:=2) s rfl ?_;intro ts g s;refine iJ T (t:=0) s rfl ?_;intro ts g s;refine iJ T (t:=1) s rfl ?_;intro ts g s;refine EE T (x0:=(2,false)) (x1:=(0,true)) (x2:=(1,true)) s rfl ?_;intro ts g r s b;refine CO T (t:=1) s rfl ?_;intro ts g p s c;refine nq T .iY s rfl rfl (by simp only[UR,true_or,or_true]) (b.app g) (s.f (_,_) (U4 ..)) rfl (λX=>⟨p,rfl,c X⟩) rfl rfl rfl ?_;intro ts s;refine iJ T (t:=1) s rfl ?_
 intro ts g s;refine iJ T (t:=1) s rfl ?_;intro ts g s;refine tV T (x0:=(1,true)) (x1:=(1,true)) s rfl ?_;intro ts g r s b;refine nq T .copy s rfl rfl (U4 ..) b rfl rfl (λ_=>rfl) rfl rfl rfl ?_;intro ts s;refine iJ T (t:=0) s rfl ?_;intro ts g s;refine qV T (x0:=(0,true)) s rfl ?_;intro ts g r s b;refine CO T (t:=0) s rfl ?_;intro ts g p s c;refine nq T .accept s rfl rfl (by simp only[UR,true_or,or_true]) (b.app g) (s.f (_,_) (U4 ..)) rfl (λX=>⟨p,rfl,c X⟩) rfl rfl rfl ?_;intro ts s;refine iK T (t:=3) s rfl ?_;intro ts g s;refine iJ T (t:=0) s rfl ?_;intro ts g s;refine tV T (x0:=(3,false)) (x1:=(0,true)) s rfl ?_
 intro ts g r s b;refine CO T (t:=1) s rfl ?_;intro ts g p s c;refine nq T .source s rfl rfl (by simp only[UR,true_or,or_true]) (b.app g) (s.f (_,_) (U4 ..)) rfl (λX=>⟨p,rfl,c X⟩) rfl rfl rfl ?_;intro ts s;refine iK T (t:=3) s rfl ?_;intro ts g s;refine iJ T (t:=3) s rfl ?_;intro ts g s;refine tV T (x0:=(3,false)) (x1:=(3,true)) s rfl ?_;intro ts g r s b;refine nq T .iP s rfl rfl (U4 ..) b rfl rfl (λ_=>rfl) rfl rfl rfl ?_;intro ts s;refine iK T (t:=3) s rfl ?_;intro ts g s;refine iJ T (t:=3) s rfl ?_;intro ts g s;refine iJ T (t:=3) s rfl ?_;intro ts g s;refine EE T (x0:=(3,false)) (x1:=(3,true)) (x2:=(3,true)) s rfl ?_
 intro ts g r s b;refine nq T .merge s rfl rfl (U4 ..) b rfl rfl (λ_=>rfl) rfl rfl rfl ?_;intro ts s;refine iK T (t:=4) s rfl ?_;intro ts g s;refine iJ T (t:=3) s rfl ?_;intro ts g s;refine tV T (x0:=(4,false)) (x1:=(3,true)) s rfl ?_;intro ts g r s b;refine nq T .run s rfl rfl (U4 ..) b rfl rfl (λ_=>rfl) rfl rfl rfl ?_;intro ts s;refine iJ T (t:=4) s rfl ?_;intro ts g s;refine qV T (x0:=(4,true)) s rfl ?_;intro ts g r s b;refine nq T .iW s rfl rfl (U4 ..) b rfl rfl (λ_=>rfl) rfl rfl rfl ?_;intro ts s;refine iJ T (t:=4) s rfl ?_;intro ts g s;refine qV T (x0:=(4,true)) s rfl ?_;intro ts g r s b
 refine nq T .fail s rfl rfl (U4 ..) b rfl rfl (λ_=>rfl) rfl rfl rfl ?_;intro ts s;refine iK T (t:=5) s rfl ?_;intro ts g s;refine iJ T (t:=4) s rfl ?_;intro ts g s;refine tV T (x0:=(5,false)) (x1:=(4,true)) s rfl ?_;intro ts g r s b;refine nq T .jd s rfl rfl (U4 ..) b rfl rfl (λ_=>rfl) rfl rfl rfl ?_;intro ts s;refine iJ T (t:=5) s rfl ?_;intro ts g s;refine qV T (x0:=(5,true)) s rfl ?_;intro ts g r s b;refine nq T .rel s rfl rfl (U4 ..) b rfl rfl (λ_=>rfl) rfl rfl rfl ?_;intro ts s;have hlen:=s.l;have t1:=s.m;refine Rs t1 ?_;exact⟨_,sf,λd=>s.e d (by cases d<;>decide) _⟩
end
end Go.Abs
