/- A part of the proof that HouseEvents holds. No condition. -/
import Derived.Test.YtgplmdgpmbegiaaGreatDoorEv4
import Derived.Test.YtgplmdgpmbegiaaGreatDoorEv0
set_option maxHeartbeats 4000000
set_option linter.all false
open Nat (reduceAdd reduceMul reduceLeDiff reduceEqDiff)
namespace Go.Abs
def dP:
  (∀{b o:Nat}{n:Option Nat}{X:ah}{K:ak}(_:b=X.length),ao n (.ptr b o) (λz=>(X++[K])[z]?)=dC n o K)/\
  (∀{b o:Nat}{n:Option Nat}{X a:ah}(_:b<X.length),ao n (.ptr b o) (λz=>(X++a)[z]?)=ao n (.ptr b o) (λz=>X[z]?))/\
  (∀{b o y:Nat}{v:AV}{X:ah}{K:ak}(_:b=X.length),aT y (.ptr b o) v (λz=>(X++[K])[z]?)=km y o v b K)/\
  (∀{b o y:Nat}{v:AV}{X a:ah}(_:b<X.length),aT y (.ptr b o) v (λz=>(X++a)[z]?)=aT y (.ptr b o) v (λz=>X[z]?))/\
  (∀{b:Nat}{X:ah}{K K':ak}(_:b=X.length),(X++[K]).set b K' =X++[K'])/\
  (∀{b:Nat}{X a:ah}{K':ak}(_:b<X.length),(X++a).set b K' =X.set b K'++a)/\
  (∀{b pos:Nat}{s:By}{X:ah}(_:b=X.length),fF (.ptr b 0) (λz=>(X++[.iter s pos])[z]?)=ep b s pos)/\
  (∀{b:Nat}{X a:ah}(_:b<X.length),fF (.ptr b 0) (λz=>(X++a)[z]?)=fF (.ptr b 0) (λz=>X[z]?)):=by
 refine⟨λh=>?_,λh=>?_,λh=>?_,λh=>?_,λh=>?_,λh=>?_,λh=>?_,λh=>?_⟩
 ·subst h;exact az a8
 ·simp only[ao,c7 _ h]
 ·subst h;exact aJ a8
 ·simp only[aT,c7 _ h]
 ·subst h;exact yJ
 ·exact e9 _ _ h
 ·subst h;exact dK a8
 ·simp only[fF,c7 _ h]
end Go.Abs
namespace Go.Abs
def ng{h':ah}{X:ak}{g:ah}{n:Nat}(hn:h'.length=n):(h'++[X]++g)[n]? =some X:=by
 subst hn;exact z152
def rr{h':ah}{X Y:ak}{g:ah}{n:Nat}(hn:h'.length=n):(h'++[X]++g).set n Y=h'++[Y]++g:=by
 subst hn;rw[YV,ZY _ _ (Zc _),Z6,YV];rfl
structure Iter(P:Program)(f:FuncId)(a c:List AV)(L:List (List AV))(pre:ah->Prop):Prop where
 run:∀(l:Nat) (h:ah) (J:Nat->ah->Prop) (D:ah->Prop),(∀i k,J i k->pre k)->(∀i k g,J i k->J i (k++g))->
  (∀i (hi:i<L.length) k,J i k->∃b k',fw P (.func (.yield l) [] []) L[i] k (.bool b) k'/\(if b=true then J (i+1) k' else D k'))->
  (∀k,J L.length k->D k)->J 0 h->dh P f (a++[.func (.yield l) [] []]++c) h (λ_ k=>D k)
section
variable {P:Program}{ks:List Kt}{ts:TS}{h:ah}{Q:Ex->TS->ah->Prop}
def WC.iter(hmix:P.follows .mixedOrders=true){f A a c L pre g ps asg body}(hA:bS P f=some A)
  (hg:val ts g=.func (.func f) a c) (hi:Iter P f a c L pre) (hps:∀x∈L,x.length=ps.length) (I:Nat->ah->ah->Prop) (Fin:Ex->ah->ah->Prop)
  (h0:I 0 h []) (hcl:∀i h' g g2,I i h' g->I i h' (g++g2)) (hpre:∀i h' g X,h'.length=h.length->I i h' g->pre (h'++[X]++g))
  (step:∀i (hi:i<L.length) h' g (R B:ak),h'.length=h.length->I i h' g->
   WC P Cj asg [] (setArgs ts ps L[i]) (h'++[R]++g) λe1 U1 h2=>e1=.normal/\∃h1 g1,h2=h1++[R]++g1/\h1.length=h.length/\
    WC P Cj body [] U1 (h1++[B]++g1) λe2 _ h4=>∃h3 g3,h4=h3++[B]++g3/\h3.length=h.length/\(if e2=.normal then I (i+1) h3 g3 else Fin e2 h3 g3))
  (done:∀e h' g,h'.length=h.length->(if e=.normal then I L.length h' g else Fin e h' g)->WE P bJ e ks ts (h'++[ak.dead]++g) Q):WC P bJ (.fN g ps asg body) ks ts h Q:=by
 let J:Nat->ah->Prop:=λi k=>∃h' g,k=h'++[.loop .ready .normal ts ps asg body]++g/\h'.length=h.length/\I i h' g
 let D:ah->Prop:=λk=>∃e h' g st,k=h'++[.loop st e ts ps asg body]++g/\h'.length=h.length/\st≠.busy/\(if e=.normal then I L.length h' g else Fin e h' g)
 obtain⟨v,h2,hs,e,h',g',st,rfl,hl,bV,To⟩:=hi.run h.length (h++[.loop .ready .normal ts ps asg body]) J D
  (λi k hJ=>by obtain⟨h',g,rfl,h1,h2⟩:=hJ;exact hpre i h' g _ h1 h2)
  (λi k g2 hJ=>by obtain⟨h',g,rfl,h1,h2⟩:=hJ;exact⟨h',g++g2,by rw[YV],h1,hcl _ _ _ _ h2⟩)
  (λi hi k hJ=>by
   obtain⟨h',g,rfl,h1,h2⟩:=hJ;obtain⟨e1,U1,k2,q1,rfl,h3,g3,rfl,h4,q2⟩:=W.sound hmix (step i hi h' g (.loop .ready .normal ts ps asg body) (.loop .busy .normal ts ps asg body) h1 h2);obtain⟨e2,ts3,k3,q3,h5,g5,rfl,h6,q4⟩:=W.sound hmix q2;have hy:fw P (.func (.yield h.length) [] []) L[i] (h'++[.loop .ready .normal ts ps asg body]++g) (.bool (decide (e2=.normal))) (List.set (h5++[ak.loop .busy .normal ts ps asg body]++g5) h.length (ak.loop (if e2=.normal then .ready else .done) e2 ts ps asg body)):=
    fw.yield (ng h1) (hps _ (Zb hi)) (λr=>q1 (some r) ⟨r,rfl⟩) (ng h4) (λr=>by rw[rr h4];exact q3 (some r) ⟨r,rfl⟩) (ng h6)
   rw[rr h6]at hy;refine⟨decide (e2=.normal),_,hy,?_⟩;by_cases he:e2=.normal
   ·exact z139
   ·rw[Za he]at q4;simp only[he,Zx,ZS,Zi];exact⟨e2,h5,g5,.done,rfl,h6,Si,by rw[Za he];exact q4⟩)
  (λk hJ=>by obtain⟨h',g,rfl,h1,h2⟩:=hJ;exact⟨.normal,h',g,.ready,rfl,h1,Si,by rw[Zh rfl];exact h2⟩)
  ⟨h,[],by rw[Zr],rfl,h0⟩
 exact Qo
end
end Go.Abs
namespace Go.Abs
theorem ve:∀(l c pre:List AV),c.length=l.length->fM (pre++c) pre.length l=pre++l
 |[],c,pre,h=>by
  exact z206
 |x::l,[],pre,h=>by simp at h
 |x::l,y::c,pre,h=>by
  have e1:(pre++y::c).set pre.length x=(pre++[x])++c:=by
   exact z154
  have e2:pre.length+1=(pre++[x]).length:=Si
  rw[pq,e1,e2,ve l c (pre++[x]) (by simpa using h),YV];rfl
theorem qc{es:Nat}{v:AV}:∀{cs:List (List AV)},(∀x∈cs,x.length=es)->∀{i off:Nat}(hi:i<cs.length),off<es->cs.flatten.set (i*es+off) v=(cs.set i (cs[i].set off v)).flatten
 |[],_,i,off,hi,_=>absurd hi (Nat.not_lt_zero _)
 |c::cs,h,0,off,hi,ho=>by
  have hc:c.length=es:=h c (ZU ..);rw[Z1,aa2,ZN,abl _ _ Om];rfl
 |c::cs,h,i+1,off,hi,ho=>by
  have hc:c.length=es:=h c (ZU ..);have h1:=qc (v:=v) (cs:=cs) (λx hx=>h x (ZH _ hx)) (i:=i) (off:=off) (by simpa using hi) ho;rw[Z1,ZY _ _ (by rw[aaj];omega),show(i+1)*es+off-c.length=i*es+off by rw[aaj];omega,h1];rfl
def nU{es w N0 n:Nat}{z:List AV}{k k':IntKind}(h1:w*n<=2^48)(h2:n<2^63):ti es w z (.int k n) (.int k' n) N0=some (.slice N0 0 n es,.push (.cells (dO n z) true true)):=by
 simp only[ti];rw[Zh ⟨Om,Om,by exact_mod_cast h1,by exact_mod_cast h2⟩];rfl
def Fr.A1{N n es h z}(hN:N<=h.length)(hz:z.length=es):Fr N (h++[.cells (dO n z) true true]) (.slice h.length 0 n es) es (List.replicate n z):=by
 have:=Fr.push (h:=h) (es:=es) hN (List.replicate n z) (λx hx=>by rw[(List.mem_replicate.1 hx).2];exact hz);rw[Z9]at this;exact this
section
variable {P:Program}{ro:Option Nat->Prop}{ks:List Kt}{ts:TS}{Q:Ex->TS->ah->Prop}{d:Option Nat}{l:List bK}
def WR.pG{q N b es w h y ys}(hb:h[b]? =some (.cells [] true false))(hN:N<=b)(hy:aK h y es ys)(eJ:ys.length*w<=2^46)
  (K:∀s' g,Fr N (h++g) s' es ys->WP P ro l ks (put ts d s') (h++g) Q):WR P ro (pH es w (.slice b 0 0 es) y (λb=>h[b]?) h.length) q d l ks ts h Q:=by
 have hbl:b<h.length:=(YU.1 hb).1;simp only[pH,hy.fu,Zk];by_cases hk:ys.length=0
 ·have hys:ys=[]:=Z4.1 hk;subst hys;simp only[Y6,Zk,aaV,List.isEmpty_nil];rw[jc];have:=K (.slice b 0 0 es) [] (by rw[Zr];exact Fr.mk (cs:=[]) hN hb Si)
  rwa [Zr]at this
 ·simp only[Za hk,ZN,Zh eJ,hb];rw[Zh Si,mq];exact K _ _ (Fr.push Om ys hy.rows)
def WR.vw{α:Type}{row:α->List AV}{L:List α}{h0 g:ah}{s v:AV}{es i off:Nat}{x':α}(hs:Fr h0.length (h0++g) s es (L.map row))(hi:i<L.length)(ho:off<es)(hv:v.one=true)(hx:row x' =(row L[i]).set off v)
  (K:∀g',g'.length=g.length->Fr h0.length (h0++g') s es ((L.set i x').map row)->(∀b,(∀b0 o n e,s=.slice b0 o n e->b≠b0)->(h0++g')[b]? =(h0++g)[b]?)->WP P ro l ks (put ts d ay) (h0++g') Q):
  WR P ro (aT 1 (lH s es i off) v (λb=>(h0++g)[b]?)) false d l ks ts (h0++g) Q:=by
 have Tj:=hs.aW.rows;generalize Ue:L.map row=cs at hs;have hcl:cs.length=L.length:=by rw[<-Ue,Y7]
 cases hs with
 |nil=>simp at hcl;omega
 | @mk b _ _ tl hN hb he=>
  have R7:=eU he;have hie:i*es+off<cs.flatten.length:=by
   rw[R7,hcl];have:(i+1)*es<=L.length*es:=Z7 _ hi;rw[aaj]at this;omega
  have aQ:cs.flatten.set (i*es+off) v=((L.set i x').map row).flatten:=by
   have:=qc (v:=v) he (i:=i) (off:=off) Om ho;rw[this,aa3,hx,Ue];congr 2;simp[<-Ue]
  have hbl:b<(h0++g).length:=(YU.1 hb).1;show WR P ro (aT 1 (.ptr b (0+i*es+off)) v (λb=>(h0++g)[b]?)) false d l ks ts (h0++g) Q;rw[ZN,aJ hb,bO hv Om,rS,aQ,ZY _ _ hN];refine K _ Si ?_ λb' hb'=>?_
  ·have hl2:((L.set i x').map row).length=cs.length:=by simp[hcl]
   rw[<-hl2];refine Fr.mk hN (tl:=tl) ?_ λy hy=>?_
   ·exact z160
   ·rw[aa3]at hy;rcases aaJ hy with hy|hy
    ·exact he y (by rw[<-Ue];exact hy)
    ·rw[hy,hx,ZI];exact he _ (by rw[<-Ue];exact Zu (Zb hi))
  ·exact z131
def WR.Mf{h0 g s sy es cs ys x y}(hx:val ts x=s)(hy:val ts y=sy)(hs:Fr h0.length (h0++g) s es cs)(hsy:aK (h0++g) sy es ys)(hl:cs.length=ys.length)
  (K:∀g' v,g'.length=g.length->Fr h0.length (h0++g') s es ys->(∀b,(∀b0 o n e,s=.slice b0 o n e->b≠b0)->(h0++g')[b]? =(h0++g)[b]?)->WP P ro l ks (put ts d v) (h0++g') Q):
  WR P ro (stepT (.za es x y) (val ts) (λb=>(h0++g)[b]?) (h0++g).length) false d l ks ts (h0++g) Q:=by
 simp only[stepT,nj,hx,hy,hsy.fu];have TG:=eU hsy.rows;cases hs with
 |nil=>
  have:ys=[]:=Z4.1 hl.symm;subst this;simp only;rw[jc];exact K g _ rfl .nil λ_ _=>rfl
 | @mk b _ _ tl hN hb he=>
  have hcl:=eU he;have UR:min ys.length cs.length=ys.length:=Om
  simp only[Zk,UR];by_cases hk:ys.length=0
  ·have hys:ys=[]:=Z4.1 hk;have Ue:cs=[]:=Z4.1 Om;subst hys;subst Ue;simp only[Y6,Zk];rw[jc];exact K g _ rfl (Fr.mk (cs:=[]) hN hb Si) λ_ _=>rfl
  ·have hbl:b<(h0++g).length:=(YU.1 hb).1;simp only[Za hk,hb,ZN];rw[Zh (by rw[hcl,hl];omega),rS];have aQ:fM cs.flatten 0 (ys.flatten.take (ys.length*es))=ys.flatten:=by
    rw[<-TG,ZD];have:=ve ys.flatten cs.flatten [] (by rw[hcl,TG,hl])
    simpa using this
   rw[aQ,ZY _ _ hN];refine K _ _ Si ?_ λb' hb'=>?_
   ·rw[hl];refine Fr.mk hN (tl:=tl) ?_ hsy.rows;exact z160
   ·exact z131
end
end Go.Abs
namespace Go.Abs
section
variable (P:Program) (ro:Option Nat->Prop)
def WQ(l:List bK)(cs:List Acc)(ks:List Kt)(ts:TS)(h:ah)(Q:Ex->TS->ah->Prop):Prop:=AU h l ts cs λts' cs=>fj cs/\kq P ro ks Q .normal ts' (dS h cs)
def Gz(r:Option AV)(d:Option Nat)(l:List bK)(cs:List Acc)(ks:List Kt)(ts:TS)(h:ah)(Q:Ex->TS->ah->Prop):Prop:=
 match r with
 |some v=>WQ P ro l cs ks (put ts d v) h Q
 |none=>False
def PX(a:AV)(r:Option (AV×iI))(d:Option Nat)(l:List bK)(cs:List Acc)(ks:List Kt)(ts:TS)(h:ah)(Q:Ex->TS->ah->Prop):Prop:=
 match a,r with
 |.ptr b _,some (v,.ar)=>WQ P ro l (cs++[.rd b]) ks (put ts d v) h Q
 |_,_=>False
def PW(a:AV)(r:Option (AV×iI))(d:Option Nat)(l:List bK)(cs:List Acc)(ks:List Kt)(ts:TS)(h:ah)(Q:Ex->TS->ah->Prop):Prop:=
 match a,r with
 |.ptr _ _,some (v,.set b k)=>WQ P ro l (cs++[.wr b k]) ks (put ts d v) h Q
 |_,_=>False
def MT(a:AV)(b q:Bool)(k:o6)(d:Option Nat)(l:List bK)(cs:List Acc)(ks:List Kt)(ts:TS)(h:ah)(Q:Ex->TS->ah->Prop):Prop:=
 match a with
 |.bool t=>if t=b then WQ P ro ({dst:=d,k:=k,gd:=none,q:=q} ::l) cs ks ts h Q else WQ P ro l cs ks (put ts d ay) h Q
 |_=>WQ P ro l cs ks (put ts d ay) h Q
end
section
variable {P:Program}{ro:Option Nat->Prop}{ks:List Kt}{ts:TS}{h:ah}{Q:Ex->TS->ah->Prop}{d:Option Nat}{q:Bool}{l:List bK}{cs:List Acc}
def qI:WC P ro (.sg l) ks ts h Q=WQ P ro l [] ks ts h Q:=rfl
def C5:WQ P ro [] cs ks ts h Q=(fj cs/\WE P ro .normal ks ts (dS h cs) Q):=rfl
def oO{v}:Gz P ro (some v) d l cs ks ts h Q=WQ P ro l cs ks (put ts d v) h Q:=rfl
def oQ{v b o}:PX P ro (.ptr b o) (some (v,.ar)) d l cs ks ts h Q=WQ P ro l (cs++[.rd b]) ks (put ts d v) h Q:=rfl
def oP{v b b' o k}:PW P ro (.ptr b o) (some (v,.set b' k)) d l cs ks ts h Q=WQ P ro l (cs++[.wr b' k]) ks (put ts d v) h Q:=rfl
def kO{k}(hp:fC k=true){r}(hr:stepT k (val ts) (λz=>h[z]?) h.length=r.map λv=>(v,.ar)):
  WQ P ro ({dst:=d,k:=k,gd:=none,q:=q} ::l) cs ks ts h Q=Gz P ro r d l cs ks ts h Q:=by
 apply propext
 constructor
 ·rintro⟨v,c,⟨hn,_⟩|⟨_,hs⟩,H⟩
  ·exact absurd trivial hn
  rcases hs with⟨_,rfl,hs⟩|⟨n,a,b,off,hk,_⟩|⟨n,a,x,b,off,k',hk,_⟩
  ·have hs:stepT k (val ts) (λz=>h[z]?) h.length=some (v,.ar):=hs;rw[hr]at hs;cases r with
   |none=>cases hs
   |some v'=>cases hs;exact H
  ·have hk:k=.load n a:=hk;rw[hk]at hp;cases hp
  ·have hk:k=.store n a x:=hk;rw[hk]at hp;cases hp
 ·intro H;cases r with
  |none=>exact H.elim
  |some v=>exact⟨v,.no,.inr ⟨trivial,.inl ⟨hp,rfl,hr⟩⟩,H⟩
def qG{n a}:WQ P ro ({dst:=d,k:=.load n a,gd:=none,q:=q} ::l) cs ks ts h Q=PX P ro (val ts a) (ao n (val ts a) (λz=>h[z]?)) d l cs ks ts h Q:=by
 apply propext
 constructor
 ·rintro⟨v,c,⟨hn,_⟩|⟨_,hs⟩,H⟩
  ·exact absurd trivial hn
  rcases hs with⟨hp,_⟩|⟨n',a',b,off,hk,ha,rfl,hs⟩|⟨n',a',x,b,off,k',hk,_⟩
  ·cases hp
  ·cases hk;have hs:ao n (val ts a) (λz=>h[z]?)=some (v,.ar):=hs;rw[hs,ha];exact H
  ·cases hk
 ·intro H;unfold PX at H;split at H
  ·rename_i b o v ha hr;exact⟨v,.rd b,.inr ⟨trivial,.inr (.inl ⟨n,a,b,o,rfl,ha,rfl,hr⟩)⟩,H⟩
  ·exact H.elim
def oI{n a x}:WQ P ro ({dst:=d,k:=.store n a x,gd:=none,q:=q} ::l) cs ks ts h Q=PW P ro (val ts a) (aT n (val ts a) (val ts x) (λz=>h[z]?)) d l cs ks ts h Q:=by
 apply propext
 constructor
 ·rintro⟨v,c,⟨hn,_⟩|⟨_,hs⟩,H⟩
  ·exact absurd trivial hn
  rcases hs with⟨hp,_⟩|⟨n',a',b,off,hk,_⟩|⟨n',a',x',b,off,k',hk,ha,rfl,hs⟩
  ·cases hp
  ·cases hk
  ·cases hk;have hs:aT n (val ts a) (val ts x) (λz=>h[z]?)=some (v,.set b k'):=hs;rw[hs,ha];exact H
 ·intro H;unfold PW at H;split at H
  ·rename_i b o v b' k ha hr;have hb:b' =b:=by
    rw[ha]at hr;simp only[aT]at hr;split at hr
    ·split at hr
     ·cases hr;rfl
     ·cases hr
    ·cases hr
   subst hb;exact⟨v,.wr b' k,(.inr ⟨trivial,.inr (.inr ⟨n,a,x,b',o,k,rfl,ha,rfl,hr⟩)⟩),H⟩
  ·exact H.elim
def zl{k g b}:WQ P ro ({dst:=d,k:=k,gd:=some (g,b),q:=q} ::l) cs ks ts h Q=MT P ro (val ts (.t g)) b q k d l cs ks ts h Q:=by
 have key:∀t:Bool,val ts (.t g)=.bool t->(wanted (some (g,b)) ts↔t=b):=λt hg=>by
  show ts[g]? =some (.bool b)↔_;have hg:ts.getD g ay=.bool t:=hg;have e:ts[g]? =some (.bool t):=by
   rw[ZK]at hg;cases hx:ts[g]? with
   |none=>rw[hx]at hg;cases hg
   |some y=>rw[hx]at hg;exact Zv some hg
  rw[e];simp
 have neg:(∀t,val ts (.t g)≠.bool t)->¬wanted (some (g,b)) ts:=λhn hw=>by
  have hw:ts[g]? =some (.bool b):=hw;exact hn b (by show ts.getD g ay=_;rw[ZK,hw];rfl)
 have no:¬wanted (some (g,b)) ts->WQ P ro ({dst:=d,k:=k,gd:=some (g,b),q:=q} ::l) cs ks ts h Q=WQ P ro l cs ks (put ts d ay) h Q:=λhy=>by
  apply propext
  constructor
  ·rintro⟨v,c,⟨_,rfl,rfl⟩|⟨hn,hs⟩,H⟩
   ·exact H
   ·exact absurd hn hy
  ·intro H;exact⟨ay,.no,.inl ⟨hy,rfl,rfl⟩,H⟩
 unfold MT;split
 ·rename_i t ht;have hw:=key t ht;by_cases e:t=b
  ·rw[Zh e];have hy:=hw.2 e
   apply propext
   constructor
   ·rintro⟨v,c,⟨hn,_⟩|⟨_,hs⟩,H⟩
    ·exact absurd hy hn
    ·exact⟨v,c,.inr ⟨trivial,hs⟩,H⟩
   ·rintro⟨v,c,⟨hn,_⟩|⟨_,hs⟩,H⟩
    ·exact absurd trivial hn
    ·exact⟨v,c,.inr ⟨hy,hs⟩,H⟩
  ·rw[Za e];exact no λz=>e (hw.1 z)
 ·rename_i hn;exact no (neg hn)
def uD{k}:MT P ro (.bool true) true q k d l cs ks ts h Q=WQ P ro ({dst:=d,k:=k,gd:=none,q:=q} ::l) cs ks ts h Q:=rfl
def uE{k}:MT P ro (.bool false) true q k d l cs ks ts h Q=WQ P ro l cs ks (put ts d ay) h Q:=rfl
def qE{c a b}:WQ P ro ({dst:=d,k:=.pick c a b,gd:=none,q:=q} ::l) cs ks ts h Q=Gz P ro (s9 (val ts c) (val ts a) (val ts b)) d l cs ks ts h Q:=by
 refine kO rfl ?_;simp only[stepT,nj,s9];cases val ts c<;>rfl
def oM{x}:WQ P ro ({dst:=d,k:=.len .sl x,gd:=none,q:=q} ::l) cs ks ts h Q=Gz P ro (ue (jM .sl (λb=>h[b]?) (val ts x))) d l cs ks ts h Q:=by
 refine kO rfl ?_;simp only[stepT,nj,ue];cases jM .sl (λb=>h[b]?) (val ts x)<;>rfl
def uB{x}:WQ P ro ({dst:=d,k:=.cg x,gd:=none,q:=q} ::l) cs ks ts h Q=WQ P ro l cs ks (put ts d (val ts x)) h Q:=kO (r:=some (val ts x)) rfl rfl
def uC{op x y}:WQ P ro ({dst:=d,k:=.bin op x y,gd:=none,q:=q} ::l) cs ks ts h Q=Gz P ro (eI op (val ts x) (val ts y)) d l cs ks ts h Q:=by
 refine kO rfl ?_;exact Jx
def zk{op x}:WQ P ro ({dst:=d,k:=.un op x,gd:=none,q:=q} ::l) cs ks ts h Q=Gz P ro (wX op (val ts x)) d l cs ks ts h Q:=by
 refine kO rfl ?_;simp only[stepT,nj];cases wX op (val ts x)<;>rfl
def qH{off x}:WQ P ro ({dst:=d,k:=.aX off x,gd:=none,q:=q} ::l) cs ks ts h Q=Gz P ro (tC off (val ts x)) d l cs ks ts h Q:=by
 refine kO rfl ?_;simp only[stepT,nj,tC];cases val ts x<;>rfl
def mw{x}:WQ P ro ({dst:=d,k:=.bQ x,gd:=none,q:=q} ::l) cs ks ts h Q=Gz P ro (qo (val ts x)) d l cs ks ts h Q:=by
 refine kO rfl ?_;exact z143
end
def uz{a:List Acc}:[]++a=a:=rfl
def uy{c:Acc}{a b:List Acc}:(c::a)++b=c:: (a++b):=rfl
def oG{h}:dS h []=h:=rfl
def oE{h b cs}:dS h (.rd b::cs)=dS h cs:=rfl
def oD{h b k cs}:dS h (.wr b k::cs)=dS (h.set b k) cs:=rfl
def AE(b:Nat)(cs:List Acc):Prop:=∀x∈cs,x.dR≠some b
def oA(b:Nat)(cs:List Acc):Prop:=∀x∈cs,∀k,x≠Acc.wr b k
def IL{b}:AE b []=True:=abA λx hx=>by cases hx
def IM{b c cs}:AE b (c::cs)=(c.dR≠some b/\AE b cs):=by
 simp[AE]
def Fh{b}:oA b []=True:=abA λx hx=>by cases hx
def Fg{b b' cs}:oA b (.rd b'::cs)=oA b cs:=by
 simp[oA]
def Ff{b b' k cs}:oA b (.wr b' k::cs)=(b'≠b/\oA b cs):=by
 unfold oA;simp only[ZG,forall_eq_or_imp];refine propext ⟨λh=>⟨λe=>h.1 k (by rw[e]),h.2⟩,λh=>⟨λk' e=>h.1 (by cases e;rfl),h.2⟩⟩
def Fe:fj []=True:=rfl
def Fc{b cs}:fj (.rd b::cs)=(oA b cs/\fj cs):=by
 unfold oA;simp only[fj,Acc.dR,Zy];refine propext ⟨λh=>⟨λx hx k hk=>h.1 b rfl x hx (by rw[hk]) k k (.inr hk),h.2⟩,λh=>⟨λb' e x hx _ k k' hk=>?_,h.2⟩⟩;subst e;rcases hk with hk|hk
 ·cases hk
 ·exact h.1 x hx k' hk
def Fb{b k cs}:fj (.wr b k::cs)=(AE b cs/\fj cs):=by
 unfold AE;simp only[fj,Acc.dR,Zy];refine propext ⟨λh=>⟨λx hx hk=>h.1 b rfl x hx hk k k (.inl rfl),h.2⟩,λh=>⟨λb' e x hx hk _ _ _=>?_,h.2⟩⟩;subst e;exact h.1 x hx hk
def Mj{b}:(Acc.rd b).dR=some b:=rfl
def Mi{b k}:(Acc.wr b k).dR=some b:=rfl
def ba:
  (∀{ts:TS}{i j:Nat}{v:AV}(_:(i=j)=False),slot (ts.set i v) j=slot ts j)/\
  (∀{ts:TS}{i:Nat}{v:AV}(_:i+1<=ts.length),slot (ts.set i v) i=v)/\
  (∀{ts:TS}{i:Nat}{X:Prop}(_:i+1<=ts.length),LG ts[i]? X=X)/\
  (∀{ts:TS}{i:Nat}{v:AV},(ts.set i v).length=ts.length)/\
  (∀{u:TypeId}{x:AV}{G:Nat->Option ak}{N:Nat},mJ (.uM u) x G N=some (.uM u x,.ar)):=by
 refine⟨λ{ts i j v} h=>?_,λ{ts i v} h=>?_,λ{ts i X} h=>by rw[YZ h];rfl,λ{ts i v}=>ZI,rfl⟩
 ·have hne:i≠j:=λe=>by rw[<-h];exact e
  unfold slot;rw[List.getD,List.getD,Zf hne]
 ·unfold slot;rw[List.getD,Zg h];rfl
end Go.Abs
namespace Go.Abs
abbrev ak.b(l:List AV):ak:=.cells l true false
abbrev AV.i(n:Int):AV:=.int .i64 n
def Rs{A B F:Prop}(f:F)(b:B)(e:F->(B->A)/\(∃x:Prop,x=B):=by(intro f;refine⟨λb=>?_,?_⟩;(focus (repeat (first|simp (config:={maxSteps:=1000000}) only[aO,aQ,aY,aZ,reduceAdd,reduceMul,reduceLeDiff,reduceEqDiff,ba,hlen,Zi,Zk,f]|simp (config:={maxSteps:=1000000}) (disch:=first|(simp only[YT,YX,Y6]<;>omega)|rfl|omega|fail) only[dP,aO,aQ,aY,aZ,reduceAdd,reduceMul,reduceLeDiff,reduceEqDiff,ba,hlen,Zi,Zk,f]));all_goals exact b);first|exact⟨True,rfl⟩|exact⟨_,rfl⟩)):A:=(e f).1 b
def pa{A B F:Prop}(f:F)(b:B)(e:F->(B->A)/\(∃x:Prop,x=B):=by(intro f;refine⟨λb=>?_,?_⟩;(focus (repeat (first|simp (config:={maxSteps:=1000000}) only[aO,aQ,aY,aZ,reduceAdd,reduceMul,reduceLeDiff,reduceEqDiff,ba,hlen,Zi,Zk,reduceCtorEq,f]|simp (config:={maxSteps:=1000000}) (disch:=first|(simp only[YT,YX,Y6]<;>omega)|rfl|omega|fail) only[dP,aO,aQ,aY,aZ,reduceAdd,reduceMul,reduceLeDiff,reduceEqDiff,ba,hlen,Zi,Zk,reduceCtorEq,f]));all_goals exact b);first|exact⟨True,rfl⟩|exact⟨_,rfl⟩)):A:=(e f).1 b
def Zs{A B F:Prop}(f:F)(b:B)(e:F->(B->A)/\(∃x:Prop,x=B):=by(intro f;refine⟨λb=>?_,?_⟩;(focus (simp only[aO,aQ,aY,aZ,reduceAdd,reduceMul,reduceLeDiff,reduceEqDiff,ba,hlen,Zi,Zk,f]);all_goals exact b);first|exact⟨True,rfl⟩|exact⟨_,rfl⟩)):A:=(e f).1 b
def Zn{A B:Prop}(b:B)(e:(B->A)/\(∃x:Prop,x=B):=by(refine⟨λb=>?_,?_⟩;(focus (simp only[aO,aQ,aY,aZ,reduceAdd,reduceMul,reduceLeDiff,reduceEqDiff,ba,hlen,Zi,Zk]);all_goals exact b);first|exact⟨True,rfl⟩|exact⟨_,rfl⟩)):A:=e.1 b
def Ws{A B F:Prop}(f:F)(b:B)(e:F->(B->A)/\(∃x:Prop,x=B):=by(intro f;refine⟨λb=>?_,?_⟩;(focus (simp only[aO,aQ,aY,aZ,reduceAdd,reduceMul,reduceLeDiff,reduceEqDiff,Zk,Zi,f]);all_goals exact b);first|exact⟨True,rfl⟩|exact⟨_,rfl⟩)):A:=(e f).1 b
def Wn{A B:Prop}(b:B)(e:(B->A)/\(∃x:Prop,x=B):=by(refine⟨λb=>?_,?_⟩;(focus (simp only[aO,aQ,aY,aZ,reduceAdd,reduceMul,reduceLeDiff,reduceEqDiff,Zk,Zi]);all_goals exact b);first|exact⟨True,rfl⟩|exact⟨_,rfl⟩)):A:=e.1 b
def Sq{A F:Prop}(f:F)(e:F->A:=by(intro f;simp only[aO,aQ,aY,aZ,reduceAdd,reduceMul,reduceLeDiff,reduceEqDiff,ba,hlen,Zi,Zk,f])):A:=e f
def Sw{A:Prop}(e:A:=by simp only[aO,aQ,aY,aZ,reduceAdd,reduceMul,reduceLeDiff,reduceEqDiff,ba,hlen,Zi,Zk]):A:=e
def Rr{A F:Prop}(f:F)(e:F->A:=by(intro f;(simp only[aO,aQ,aY,aZ,reduceAdd,reduceMul,reduceLeDiff,reduceEqDiff,ba,hlen,Zi,Zk,f];rfl))):A:=e f
def fV{A:Prop}(e:A:=by(simp only[aO,aQ,aY,aZ,reduceAdd,reduceMul,reduceLeDiff,reduceEqDiff,ba,hlen,Zi,Zk];rfl)):A:=e
def Sn{A:Prop}(e:A:=by simp only[ba,hlen]):A:=e
def Xx{A:Prop}(e:A:=by repeat first|with_reducible exact Ext.refl _|refine Ext.app _ ?_):A:=e
def aA.Q1{P:Program}{h:ah}(nt:Nat)(hmix:P.follows .mixedOrders=true){f:FuncId}{A:au}(hA:bS P f=some A){R:AV->ah->Prop}(H:∀ts:TS,ts.length=nt->WC P bJ A.body [] ts h (FQ A.rs (λv h'=>Ext h h'/\R v h')))(hn:A.nt=nt:=by rfl)(hl:(aV nt []).length=nt:=by rfl):aA P f [] h R:=by
 subst hn;exact .of hmix hA (H (aV A.nt []) hl)
def aA.kr{P:Program}{h:ah}(nt:Nat)(hmix:P.follows .mixedOrders=true){f:FuncId}{A:au}(hA:bS P f=some A){a0:AV}{R:AV->ah->Prop}(H:∀ts:TS,ts.length=nt->slot ts 0=a0->WC P bJ A.body [] ts h (FQ A.rs (λv h'=>Ext h h'/\R v h')))(hn:A.nt=nt:=by rfl)(hl:(aV nt [a0]).length=nt:=by rfl):aA P f [a0] h R:=by
 subst hn;exact .of hmix hA (H (aV A.nt [a0]) hl rfl)
def aA.eF{P:Program}{h:ah}(nt:Nat)(hmix:P.follows .mixedOrders=true){f:FuncId}{A:au}(hA:bS P f=some A){a0 a1:AV}{R:AV->ah->Prop}(H:∀ts:TS,ts.length=nt->slot ts 0=a0->slot ts 1=a1->WC P bJ A.body [] ts h (FQ A.rs (λv h'=>Ext h h'/\R v h')))(hn:A.nt=nt:=by rfl)(hl:(aV nt [a0,a1]).length=nt:=by rfl):aA P f [a0,a1] h R:=by
 exact z194
def dh.eF{P:Program}{h:ah}(nt:Nat)(hmix:P.follows .mixedOrders=true){f:FuncId}{A:au}(hA:bS P f=some A){a0 a1:AV}{R:AV->ah->Prop}(H:∀ts:TS,ts.length=nt->slot ts 0=a0->slot ts 1=a1->WC P bJ A.body [] ts h (FQ A.rs (R)))(hn:A.nt=nt:=by rfl)(hl:(aV nt [a0,a1]).length=nt:=by rfl):dh P f [a0,a1] h R:=by
 exact z194
def aA.mS{P:Program}{h:ah}(nt:Nat)(hmix:P.follows .mixedOrders=true){f:FuncId}{A:au}(hA:bS P f=some A){a0 a1 a2:AV}{R:AV->ah->Prop}(H:∀ts:TS,ts.length=nt->slot ts 0=a0->slot ts 1=a1->slot ts 2=a2->WC P bJ A.body [] ts h (FQ A.rs (λv h'=>Ext h h'/\R v h')))(hn:A.nt=nt:=by rfl)(hl:(aV nt [a0,a1,a2]).length=nt:=by rfl):aA P f [a0,a1,a2] h R:=by
 exact z173
def dh.mS{P:Program}{h:ah}(nt:Nat)(hmix:P.follows .mixedOrders=true){f:FuncId}{A:au}(hA:bS P f=some A){a0 a1 a2:AV}{R:AV->ah->Prop}(H:∀ts:TS,ts.length=nt->slot ts 0=a0->slot ts 1=a1->slot ts 2=a2->WC P bJ A.body [] ts h (FQ A.rs (R)))(hn:A.nt=nt:=by rfl)(hl:(aV nt [a0,a1,a2]).length=nt:=by rfl):dh P f [a0,a1,a2] h R:=by
 exact z173
def WF.ce{P:Program}{ro:Option Nat->Prop}{ks:List Kt}{ts:TS}{h:ah}{Q:Ex->TS->ah->Prop}{q:Bool}{f:FuncId}{A:au}(hA:bS P f=some A){a c args:List AV}{d:Option Nat}{l:List bK}{V:AV}(H:aA P f (a++args++c) h (λv _=>v=V))(K:∀g,WP P ro l ks (put ts d V) (h++g) Q):WF P ro q (.func (.func f) a c) args d l ks ts h Q:=
 WF.res hA H λ_ g e=>e▸K g
def dG{W:ah}{b:Nat}{B:ak}(h:W[b]? =some B){k:ah}{n:Option Nat}{a:Nat}(e:Ext W k):ao n (.ptr b a) (λz=>k[z]?)=dC n a B:=az (e.some h)
def dM{k n:Nat}(h:k<n):decide ((k:Int)<(n:Int))=true:=Y5 Om
def eC{k n:Nat}(h:¬k<n):decide ((k:Int)<(n:Int))=false:=YW Om
def bX(c:Bool)(e:Int):Int:=if c then e else 0
def bu(n lo hi:Int):Int:=if n<lo\/hi<n then 3 else 0
def aS:List Int->Int
 |[]=>0
 |x::xs=>if x=0 then aS xs else x
def fU(c:UInt8):Bool:=(65<=c.toNat&&c.toNat<=90)||(97<=c.toNat&&c.toNat<=122)
def fp(c:UInt8):Bool:=48<=c.toNat&&c.toNat<=57
def jV(c:UInt8):Bool:=fU c||fp c||c.toNat==95
def ez:By->Bool
 |[]=>false
 |c::r=>decide (r.length<24)&&fU c&&r.all jV
inductive Kd where
 |eZ
 |line
 |tape
 |gq
 |copy
 |accept
 |source
 |fZ
 |merge
 |run
 |fW
 |fail
 |gu
 |rel
 deriving DecidableEq
def bA:Kd->By
 |.eZ=>[117,110,100,111]
 |.line=>[108,105,110,101]
 |.tape=>[116,97,112,101]
 |.gq=>[115,104,111,116]
 |.copy=>[99,111,112,121]
 |.accept=>[97,99,99,101,112,116]
 |.source=>[115,111,117,114,99,101]
 |.fZ=>[109,111,100,117,108,101]
 |.merge=>[109,101,114,103,101]
 |.run=>[114,117,110]
 |.fW=>[116,105,108,101]
 |.fail=>[102,97,105,108]
 |.gu=>[112,105,99,116,117,114,101]
 |.rel=>[114,101,108,101,97,115,101]
def F8:List Kd:=[.eZ,.line,.tape,.gq,.copy,.accept,.source,.fZ,.merge,.run,.fW,.fail,.gu,.rel]
def bM:Kd->List (Nat×Bool)
 |.eZ=>[]
 |.line=>[(0,false)]
 |.tape=>[(1,false)]
 |.gq=>[(2,false),(0,true),(1,true)]
 |.copy=>[(1,true),(1,true)]
 |.accept=>[(0,true)]
 |.source=>[(3,false),(0,true)]
 |.fZ=>[(3,false),(3,true)]
 |.merge=>[(3,false),(3,true),(3,true)]
 |.run=>[(4,false),(3,true)]
 |.fW=>[(4,true)]
 |.fail=>[(4,true)]
 |.gu=>[(5,false),(4,true)]
 |.rel=>[(5,true)]
def cE:Kd->Nat
 |.eZ=>0
 |.line=>2
 |.tape=>2
 |.gq=>1
 |.copy=>1
 |.accept=>1
 |.source=>1
 |.fZ=>2
 |.merge=>1
 |.run=>2
 |.fW=>3
 |.fail=>2
 |.gu=>1
 |.rel=>1
def gO(k:By):Option Kd:=F8.find? λd=>bA d==k
def lV(d:Kd):gO (bA d)=some d:=by cases d<;>rfl
def cA{k d}(h:gO k=some d):k=bA d:=by
 have:=abu h;exact(eq_of_beq this).symm
def dE{k}(h:gO k=none)(d:Kd):k≠bA d:=by
 rintro rfl;rw[lV]at h;cases h
structure eD where
 num:Int
 kind:By
 names:List (By)
 cB:List Int
 text:By
structure gZ where
 name:By
 want:Int
 acc:Bool
structure rX where
 name:By
 last:Int
structure jR where
 name:By
 line:By
 aE:List (By)
structure gY where
 name:By
 gives:By
 line:By
 bo:List (By)
structure kY where
 name:By
 mod:By
 bt:List Int
structure qm where
 name:By
 AS:By
 lI:Int
 rel:Bool
structure dJ where
 tick:Int
 lines:List gZ
 aE:List rX
 aj:List jR
 aC:List gY
 aF:List kY
 aI:List qm
def dJ.zero:dJ:=⟨0,[],[],[],[],[],[]⟩
def B4:gZ:=⟨[],0,false⟩
def Ov:rX:=⟨[],0⟩
def DZ:jR:=⟨[],[],[]⟩
def B3:gY:=⟨[],[],[],[]⟩
def zP:kY:=⟨[],[],[]⟩
def Hx:qm:=⟨[],[],0,false⟩
def bp(l:List (By))(n:By):Nat:=l.findIdx λx=>decide (x=n)
def rD{α:Type}(f:α->By)(l:List α)(n:By)(d:α):α:=l.getD (bp (l.map f) n) d
def gJ(R:dJ):List (By):=R.lines.map gZ.name
def jL(R:dJ):List (By):=R.aE.map rX.name
def mT(R:dJ):List (By):=R.aj.map jR.name
def gV(R:dJ):List (By):=R.aC.map gY.name
def iO(R:dJ):List (By):=R.aF.map kY.name
def k5(R:dJ):List (By):=R.aI.map qm.name
def Jc(R:dJ):Nat->List (By)
 | 0=>gJ R
 | 1=>jL R
 | 2=>mT R
 | 3=>gV R
 | 4=>iO R
 |_=>k5 R
def dN(R:dJ)(n:By):gZ:=rD gZ.name R.lines n B4
def jz(R:dJ)(n:By):rX:=rD rX.name R.aE n Ov
def qU(R:dJ)(n:By):jR:=rD jR.name R.aj n DZ
def gN(R:dJ)(n:By):gY:=rD gY.name R.aC n B3
def gB(R:dJ)(n:By):kY:=rD kY.name R.aF n zP
def jX(R:dJ)(n:By):qm:=rD qm.name R.aI n Hx
def dX(R:dJ)(t:Nat)(n:By):Bool:=decide (n∈Jc R t)
def jB(R:dJ)(t:Int)(n:By):Bool:=decide (t<=(jz R n).last)
def iJ(R:dJ)(x:jR)(t:Int):Bool:=x.aE.any (jB R t)
def ko(R:dJ)(t:Int):List (By):=(R.aj.filter λx=>!iJ R x t).map jR.name
def zO(R:dJ)(n:By):List jR:=R.aj.filter λx=>decide (x.line=n)
def cU:List Int->Nat->List Int
 |[],_=>[]
 |x::r,i=>if x<0 then(i:Int)::cU r (i+1)else cU r (i+1)
def qh(R:dJ)(j:By):Bool:=R.aI.any λp=>decide (p.AS=j)
def cP(m:By)(l:List gY):List (By):=l.foldl (λn x=>if x.name∈n then n++x.bo else n) [m]
def mF(R:dJ)(m:By):List gY:=R.aC.filter λx=>decide (x.name∈cP m R.aC.reverse)
def iT(R:dJ)(m:By):List gZ:=R.lines.filter λl=>decide (l.name∈(mF R m).map gY.line)
def sZ(R:dJ)(p:By):List (By):=
 (R.aj.filter λx=>decide (x.line∈(iT R (gB R (jX R p).AS).mod).map gZ.name)).map jR.name
def gf(l:List Int):Int:=l.foldl (λx s=>(257*x+s).tmod 16777213) 1
def aP(e:eD)(i:Nat):By:=e.names.getD i []
def bF(e:eD)(i:Nat):Int:=e.cB.getD i 0
def dU:By:=[115,104,111,116,115]
def lZ:By:=[115,101,99,116,105,111,110]
def n7:By:=[105,109,97,103,101]
def mP(n:Int):By:=if n=1 then dU else if n=2 then dU else if n=3 then lZ else n7
def jP(n:Int):By:=if n=1 then dU else if n=2 then lZ else n7
def eG(e:eD):Int:=
 if bu e.num 1 1000≠0 then 3 else
 match gO e.kind with
 |none=>13
 |some d=>if e.names.length≠(bM d).length\/e.cB.length≠cE d then 2
  else if e.names.any (λs=>!ez s)then 8
  else if e.cB.any (λn=>decide (bu n 0 999999999≠0))then 3
  else if e.text≠[]then 1 else 0
def mO(R:dJ)(e:eD):List (Nat×Bool)->Nat->Bool
 |[],_=>false
 |r::l,i=>(r.2 && !dX R r.1 (aP e i))||mO R e l (i+1)
def qO(R:dJ)(e:eD):List (Nat×Bool)->Nat->Bool
 |[],_=>false
 |r::l,i=>(!r.2&&dX R r.1 (aP e i))||qO R e l (i+1)
def kW(d:Kd)(R:dJ)(e:eD):Int:=if mO R e (bM d) 0 then 10 else if qO R e (bM d) 0 then 9 else 0
def fK(R:dJ)(e:eD):Int:=(gB R (aP e 0)).bt.getD (bF e 1).toNat 0
def jQ(R:dJ)(e:eD):Int:=if qh R (aP e 0)then 23 else if((gB R (aP e 0)).bt.length:Int)<=bF e 1 then 3 else 0
def bD(R:dJ)(e:eD):Kd->Int
 |.eZ=>0
 |.line=>if bu (bF e 1) 1 64≠0 then 3 else if 16<=R.lines.length then 5 else 0
 |.tape=>if 999999999<bF e 0+bF e 1 then 4 else if 16<=R.aE.length then 5 else 0
 |.gq=>if(dN R (aP e 1)).acc then 23 else if !jB R (bF e 0) (aP e 2)then 30 else if 64<=R.aj.length then 5 else 0
 |.copy=>if aP e 0=aP e 1 then 24 else if !jB R (bF e 0) (aP e 0)then 30 else if !jB R (bF e 0) (aP e 1)then 30 else 0
 |.accept=>if(dN R (aP e 0)).acc then 23 else if((zO R (aP e 0)).length:Int)<(dN R (aP e 0)).want then 16 else if(zO R (aP e 0)).any (λx=>!iJ R x (bF e 0))then 30 else 0
 |.source=>if 32<=R.aC.length then 5 else 0
 |.fZ=>if bu (bF e 1) 1 4≠0 then 13 else if(gN R (aP e 1)).gives≠mP (bF e 1)then 2 else if 32<=R.aC.length then 5 else 0
 |.merge=>if aP e 1=aP e 2 then 24 else if(gN R (aP e 1)).gives≠(gN R (aP e 2)).gives then 2 else if 32<=R.aC.length then 5 else 0
 |.run=>if(iT R (aP e 1)).any (λx=>!x.acc)then 32 else if bu (bF e 1) 1 32≠0 then 3 else if 16<=R.aF.length then 5 else 0
 |.fW=>if jQ R e≠0 then jQ R e else if 0<=fK R e then 9 else 0
 |.fail=>if jQ R e≠0 then jQ R e else if fK R e<0 then 7 else 0
 |.gu=>if qh R (aP e 1)then 23 else if cU (gB R (aP e 1)).bt 0≠[]then 32 else if 16<=R.aI.length then 5 else 0
 |.rel=>if(jX R (aP e 0)).rel then 23 else 0
def kJ(a b:By)(x:jR):jR:=if a∈x.aE/\b∉x.aE then {x with aE:=x.aE++[b] } else x
def mU(R:dJ)(e:eD)(s:Int):List kY:=R.aF.set (bp (iO R) (aP e 0)) {gB R (aP e 0)with bt:=(gB R (aP e 0)).bt.set (bF e 1).toNat s}
def du(R:dJ)(e:eD):Kd->dJ
 |.eZ=>R
 |.line=>{R with lines:=R.lines++[⟨aP e 0,bF e 1,false⟩] }
 |.tape=>{R with aE:=R.aE++[⟨aP e 0,bF e 0+bF e 1⟩] }
 |.gq=>{R with aj:=R.aj++[⟨aP e 0,aP e 1,[aP e 2]⟩] }
 |.copy=>{R with aj:=R.aj.map (kJ (aP e 0) (aP e 1)) }
 |.accept=>{R with lines:=R.lines.set (bp (gJ R) (aP e 0)) {dN R (aP e 0)with acc:=true} }
 |.source=>{R with aC:=R.aC++[⟨aP e 0,dU,aP e 1,[]⟩] }
 |.fZ=>{R with aC:=R.aC++[⟨aP e 0,jP (bF e 1),[],e.names.drop 1⟩] }
 |.merge=>{R with aC:=R.aC++[⟨aP e 0,(gN R (aP e 1)).gives,[],e.names.drop 1⟩] }
 |.run=>{R with aF:=R.aF++[⟨aP e 0,aP e 1,List.replicate (bF e 1).toNat (-1)⟩] }
 |.fW=>{R with aF:=mU R e (bF e 2) }
 |.fail=>{R with aF:=mU R e (-1) }
 |.gu=>{R with aI:=R.aI++[⟨aP e 0,aP e 1,gf (gB R (aP e 1)).bt,false⟩] }
 |.rel=>{R with aI:=R.aI.set (bp (k5 R) (aP e 0)) {jX R (aP e 0)with rel:=true} }
def gQ(R:dJ)(e:eD)(d:Kd):Int:=if bF e 0<R.tick then 22 else if kW d R e≠0 then kW d R e else bD R e d
def jZ(R:dJ)(e:eD)(d:Kd):dJ:={du R e d with tick:=bF e 0}
structure iH where
 dm:List eD
 fe:List eD
 cC:List dJ
def iH.zero:iH:=⟨[],[],[]⟩
def iH.now(H:iH):dJ:=H.cC.getLastD dJ.zero
def ju(e:eD):Kd:=(gO e.kind).getD .eZ
def jv(H:iH)(e:eD):Int:=
 if e.num≠(H.dm.length:Int)+1 then 11 else
 if ju e=.eZ then
  (match H.fe.getLast? with
  |none=>12
  |some c=>if ju c=.rel then 21 else 0)
 else gQ H.now e (ju e)
def kM(H:iH)(e:eD):iH:=
 if ju e=.eZ then⟨H.dm++[e],H.fe.dropLast,H.cC.dropLast⟩
 else⟨H.dm++[e],H.fe++[e],H.cC++[jZ H.now e (ju e)]⟩
def eS(H:iH)(e:eD):Int:=if eG e≠0 then eG e else jv H e
def gL(H:iH):List eD->Nat->iH×Int×Int
 |[],_=>(H,0,0)
 |e::l,i=>if eS H e≠0 then(iH.zero,(i:Int)+1,eS H e)else gL (kM H e) l (i+1)
def bn(l:List eD):iH×Int×Int:=if 1000<l.length then(iH.zero,0,5)else gL iH.zero l 0
def cY{l n}(h:n∈l):bp l n<l.length:=
 List.findIdx_lt_length_of_exists ⟨n,h,Si⟩
def rf{l n}(h:n∈l):l[bp l n]'(cY h)=n:=by
 have:=List.findIdx_getElem (p:=λx=>decide (x=n)) (xs:=l) (w:=cY h);exact aak this
def dq{α:Type}{f:α->By}{l:List α}{n:By}{d:α}(h:n∈l.map f):rD f l n d=l[bp (l.map f) n]'(by simpa using cY h):=by
 have:bp (l.map f) n<l.length:=by simpa using cY h
 rw[rD,ZK,YZ this];rfl
def iC{α:Type}{f:α->By}{l:List α}{n:By}{d:α}(h:n∈l.map f):rD f l n d∈l:=by
 rw[dq h];exact Zb _
def gX{α:Type}{f:α->By}{l:List α}{n:By}{d:α}(h:n∈l.map f):f (rD f l n d)=n:=by
 rw[dq h];have:=rf h;rw[aab]at this;exact this
def uh{α:Type}{f:α->By}{l:List α}{x d:α}(hn:(l.map f).Nodup)(h:x∈l):rD f l (f x) d=x:=by
 have hm:f x∈l.map f:=Zu h;obtain⟨i,hi,rfl⟩:=aa4 h;rw[dq hm];have h1:=rf hm;have h2:(l.map f)[i]'(by simpa using hi)=f l[i]:=aab ..;have:=(List.getElem_inj hn).1 (h1.trans h2.symm);congr 1
structure pP(l:List (By)):Prop where
 nd:l.Nodup
 nm:∀n∈l,ez n=true
def pP.nil:pP []:=⟨List.nodup_nil,λ_ h=>by cases h⟩
def pP.add{l n}(h:pP l)(hn:ez n=true)(hl:n∉l):pP (l++[n]):=by
 refine⟨List.nodup_append.2 ⟨h.nd,Si,?_⟩,λx hx=>?_⟩
 ·intro a ha b hb e;rw[Zj]at hb;exact hl (hb▸e▸ha)
 ·rcases Y8.1 hx with hx|hx
  ·exact h.nm x hx
  ·rw[Zj]at hx;rw[hx];exact hn
structure ee(R:dJ):Prop where
 n0:pP (gJ R)
 n1:pP (jL R)
 n2:pP (mT R)
 n3:pP (gV R)
 n4:pP (iO R)
 n5:pP (k5 R)
 tk:0<=R.tick/\R.tick<=999999999
 l0:R.lines.length<=16
 l1:R.aE.length<=16
 l2:R.aj.length<=64
 l3:R.aC.length<=32
 l4:R.aF.length<=16
 l5:R.aI.length<=16
 ln:∀x∈R.lines,1<=x.want/\x.want<=64
 tp:∀x∈R.aE,0<=x.last/\x.last<=999999999
 sh:∀x∈R.aj,x.line∈gJ R/\x.aE≠[]/\x.aE.Nodup/\∀t∈x.aE,t∈jL R
 md:∀x∈R.aC,((x.bo=[]/\x.line∈gJ R)\/(x.bo≠[]/\x.line=[]))/\x.bo.length<=2/\∀t∈x.bo,t∈gV R
 jb:∀x∈R.aF,x.mod∈gV R/\1<=x.bt.length/\x.bt.length<=32/\∀s∈x.bt,-1<=s/\s<=999999999
 pc:∀x∈R.aI,x.AS∈iO R/\0<=x.lI/\x.lI<16777213
theorem ee.zero:ee dJ.zero:=by
 refine⟨.nil,.nil,.nil,.nil,.nil,.nil,De,De,De,De,De,De,De,?_,?_,?_,?_,?_,?_⟩
 all_goals intro x hx;cases hx
structure kj(e:eD)(d:Kd):Prop where
 kd:gO e.kind=some d
 nu:1<=e.num/\e.num<=1000
 nl:e.names.length=(bM d).length
 vl:e.cB.length=cE d
 nm:∀n∈e.names,ez n=true
 vr:∀v∈e.cB,0<=v/\v<=999999999
 tx:e.text=[]
def hP{n lo hi}(h:¬bu n lo hi≠0):lo<=n/\n<=hi:=by
 unfold bu at h;split at h
 ·exact absurd De h
 ·omega
def rJ{e}(h:eG e=0):∃d,kj e d:=by
 unfold eG at h;split at h
 ·cases h
 case isFalse h0=>
 cases hk:gO e.kind with
 |none=>rw[hk]at h;cases h
 |some d=>
  rw[hk]at h;simp only at h;split at h
  ·cases h
  case isFalse h1=>
  split at h
  ·cases h
  case isFalse h2=>
  split at h
  ·cases h
  case isFalse h3=>
  split at h
  ·cases h
  case isFalse h4=>
  refine⟨d,hk,hP h0,Om,Om,?_,?_,by simpa using h4⟩
  ·intro n hn;cases hc:ez n with
   |true=>rfl
   |false=>exact absurd (aaD.2 ⟨n,hn,by simp[hc]⟩) h2
  ·intro v hv;refine hP λhc=>h3 (aaD.2 ⟨v,hv,by simpa using hc⟩)
def D0{e i}(h:i<e.names.length):aP e i∈e.names:=by
 rw[aP,ZK,YZ h];exact Zb h
def qt{e i}(h:i<e.cB.length):bF e i∈e.cB:=by
 rw[bF,ZK,YZ h];exact Zb h
def gy{α:Type}{l m:List α}{x:α}(h:x∈l):x∈l++m:=Y8.2 (.inl h)
def ja{α:Type}{p:α->Prop}{l:List α}{y:α}(h:∀x∈l,p x)(hy:p y):∀x∈l++[y],p x:=by
 intro x hx;rcases Y8.1 hx with hx|hx
 ·exact h x hx
 ·rw[Zj]at hx;rw[hx];exact hy
def qC{α:Type}{p:α->Prop}{l:List α}{y:α}{i:Nat}(h:∀x∈l,p x)(hy:p y):∀x∈l.set i y,p x:=by
 intro x hx;rcases aaJ hx with hx|hx
 ·exact h x hx
 ·rw[hx];exact hy
def map_set{α:Type}{f:α->By}{l:List α}{n:By}{d y:α}(hn:n∈l.map f)(hy:f y=n):(l.set (bp (l.map f) n) y).map f=l.map f:=by
 rw[aa3];have:=rf hn;rw[hy]
 conv=>lhs;arg 3;rw[<-this]
 exact List.set_getElem_self _
structure sI(R:dJ)(e:eD)(d:Kd):Prop where
 kn:∀i t,(bM d)[i]? =some (t,true)->aP e i∈Jc R t
 fr:∀i t,(bM d)[i]? =some (t,false)->aP e i∉Jc R t
theorem Be{R e}:∀{l}{i},mO R e l i=false->∀j t,l[j]? =some (t,true)->aP e (i+j)∈Jc R t
 |[],i,_,j,t,h=>by simp at h
 |r::l,i,h,j,t,hj=>by
  rw[mO,Bool.or_eq_false_iff]at h;cases j with
  |zero=>
   simp only[aac,Zy]at hj;subst hj;have:=h.1;simp only[aav,Bool.not_eq_false',dX,ZO]at this;exact this
  |succ j=>
   simp only[aam]at hj;have:=Be h.2 j t hj
   rwa [Nat.add_assoc,Nat.add_comm 1 j]at this
theorem Bj{R e}:∀{l}{i},qO R e l i=false->∀j t,l[j]? =some (t,false)->aP e (i+j)∉Jc R t
 |[],i,_,j,t,h=>by simp at h
 |r::l,i,h,j,t,hj=>by
  rw[qO,Bool.or_eq_false_iff]at h;cases j with
  |zero=>
   simp only[aac,Zy]at hj;subst hj;have:=h.1;simp only[Zz,aav,dX,aaM]at this;exact this
  |succ j=>
   simp only[aam]at hj;have:=Bj h.2 j t hj
   rwa [Nat.add_assoc,Nat.add_comm 1 j]at this
def yS{R e d}(h:kW d R e=0):sI R e d:=by
 unfold kW at h;split at h
 ·cases h
 case isFalse h1=>
 split at h
 ·cases h
 case isFalse h2=>
 refine⟨λi t hi=>?_,λi t hi=>?_⟩
 ·have:=Be (by simpa using h1) i t hi;rwa [ZN]at this
 ·have:=Bj (by simpa using h2) i t hi;rwa [ZN]at this
def Ao(x s:Int)(hx:0<=x)(hs:0<=s):0<=(257*x+s).tmod 16777213/\(257*x+s).tmod 16777213<16777213:=by
 rw[Int.tmod_eq_emod_of_nonneg Om];omega
theorem wB:∀(l:List Int) (x:Int),(∀s∈l,0<=s)->0<=x->x<16777213->0<=l.foldl (λx s=>(257*x+s).tmod 16777213) x/\l.foldl (λx s=>(257*x+s).tmod 16777213) x<16777213
 |[],x,_,h1,h2=>⟨h1,h2⟩
 |s::l,x,hs,h1,h2=>by
  have:=Ao x s h1 (hs s Si);exact wB l _ (λt ht=>hs t (ZH _ ht)) this.1 this.2
def Eu{l}(hs:∀s∈l,0<=s):0<=gf l/\gf l<16777213:=wB l 1 hs De De
theorem tj:∀{l}{i},cU l i=[]->∀s∈l,0<=s
 |[],_,_,s,hs=>by cases hs
 |x::r,i,h,s,hs=>by
  rw[cU]at h;split at h
  ·cases h
  ·rcases ZG.1 hs with rfl|hs
   ·omega
   ·exact tj h s hs
theorem ee.tick{R}(w:ee R){t}(h:0<=t/\t<=999999999):ee {R with tick:=t}:={w with tk:=h}
section
variable {R:dJ}{e:eD}(w:ee R)
include w
theorem ee.LC{n}(hn:n∈iO R):gB R n∈R.aF/\(gB R n).name=n:=⟨iC hn,gX hn⟩
def ee.F0(s:Int)(hn:aP e 0∈iO R)(hs:-1<=s/\s<=999999999):ee {R with aF:=mU R e s}:=by
 have hj:=w.LC hn;have hm:List.map kY.name (mU R e s)=iO R:=map_set (d:=zP) hn hj.2;refine {w with n4:=?_,l4:=?_,jb:=?_,pc:=?_}
 ·show pP (List.map kY.name (mU R e s));rw[hm];exact w.n4
 ·show(mU R e s).length<=16;rw[mU,ZI];exact w.l4
 ·refine qC (λx hx=>w.jb x hx) ?_;have:=w.jb _ hj.1;refine⟨this.1,?_,?_,qC this.2.2.2 hs⟩
  ·show 1<=(List.set _ _ _).length;rw[ZI];exact this.2.1
  ·show(List.set _ _ _).length<=32;rw[ZI];exact this.2.2.1
 ·intro x hx;have:=w.pc x hx;exact⟨by show x.AS∈List.map kY.name (mU R e s);rw[hm];exact this.1,this.2⟩
def ee.act{d:Kd}(he:kj e d)(hk:sI R e d)(hc:bD R e d=0):ee (du R e d):=by
 have gn:∀i,i<(bM d).length->ez (aP e i)=true:=λi hi=>he.nm _ (D0 (by rw[he.nl];exact hi))
 have gv:∀i,i<cE d->0<=bF e i/\bF e i<=999999999:=λi hi=>he.vr _ (qt (by rw[he.vl];exact hi))
 cases d with
 |eZ=>exact w
 |line=>
  have f0:aP e 0∉gJ R:=hk.fr 0 0 rfl;rw[bD]at hc;split at hc
  ·cases hc
  case isFalse h1=>
  split at hc
  ·cases hc
  case isFalse h2=>
  have h1:=hP h1;have em:gJ (du R e .line)=gJ R++[aP e 0]:=Y9;refine {w with n0:=?_,l0:=?_,ln:=?_,sh:=?_,md:=?_}
  ·rw[em];exact w.n0.add (gn 0 De) f0
  ·show(R.lines++[_]).length<=16;rw[YT,Zt];omega
  ·exact ja w.ln h1
  ·intro x hx;have:=w.sh x hx;exact⟨by rw[em];exact gy this.1,this.2⟩
  ·intro x hx;obtain⟨h3,h4⟩:=w.md x hx;refine⟨?_,h4⟩;rcases h3 with h3|h3
   ·exact .inl ⟨h3.1,by rw[em];exact gy h3.2⟩
   ·exact .inr h3
 |tape=>
  have f0:aP e 0∉jL R:=hk.fr 0 1 rfl;have v0:=gv 0 De;have v1:=gv 1 De;rw[bD]at hc;split at hc
  ·cases hc
  case isFalse h1=>
  split at hc
  ·cases hc
  case isFalse h2=>
  have em:jL (du R e .tape)=jL R++[aP e 0]:=Y9;refine {w with n1:=?_,l1:=?_,tp:=?_,sh:=?_}
  ·rw[em];exact w.n1.add (gn 0 De) f0
  ·show(R.aE++[_]).length<=16;rw[YT,Zt];omega
  ·exact ja w.tp (by show 0<=bF e 0+bF e 1/\bF e 0+bF e 1<=999999999;omega)
  ·intro x hx;obtain⟨h3,h4,h5,h6⟩:=w.sh x hx;exact⟨h3,h4,h5,λt ht=>by rw[em];exact gy (h6 t ht)⟩
 |gq=>
  have f0:aP e 0∉mT R:=hk.fr 0 2 rfl;have k1:aP e 1∈gJ R:=hk.kn 1 0 rfl;have k2:aP e 2∈jL R:=hk.kn 2 1 rfl;rw[bD]at hc;split at hc
  ·cases hc
  split at hc
  ·cases hc
  split at hc
  ·cases hc
  case isFalse h2=>
  have em:mT (du R e .gq)=mT R++[aP e 0]:=Y9;refine {w with n2:=?_,l2:=?_,sh:=?_}
  ·rw[em];exact w.n2.add (gn 0 De) f0
  ·show(R.aj++[_]).length<=64;rw[YT,Zt];omega
  ·refine ja w.sh ⟨k1,Si,Si,λt ht=>?_⟩;rw[Zj]at ht;rw[ht];exact k2
 |copy=>
  have k1:aP e 1∈jL R:=hk.kn 1 1 rfl;have en:∀x,(kJ (aP e 0) (aP e 1) x).name=x.name:=λx=>by unfold kJ;split<;>rfl
  have el:∀x,(kJ (aP e 0) (aP e 1) x).line=x.line:=λx=>by unfold kJ;split<;>rfl
  have em:mT (du R e .copy)=mT R:=by
   show List.map _ (List.map _ _)=_;rw[aaE];exact List.map_congr_left λx _=>en x
  refine {w with n2:=?_,l2:=?_,sh:=?_}
  ·rw[em];exact w.n2
  ·show(List.map _ _).length<=64;rw[Y7];exact w.l2
  ·intro y hy;obtain⟨x,hx,rfl⟩:=ZB.1 (show y∈List.map _ R.aj from hy);obtain⟨h1,h2,h3,h4⟩:=w.sh x hx;rw[el];refine⟨h1,?_⟩;unfold kJ;split
   case isFalse=>exact⟨h2,h3,h4⟩
   case isTrue h5=>
    refine⟨Si,?_,ja h4 k1⟩;refine List.nodup_append.2 ⟨h3,Si,λa ha b hb eq=>?_⟩;rw[Zj]at hb;exact h5.2 (hb▸eq▸ha)
 |accept=>
  have k0:aP e 0∈gJ R:=hk.kn 0 0 rfl;have em:gJ (du R e .accept)=gJ R:=map_set (d:=B4) k0 (gX k0);refine {w with n0:=?_,l0:=?_,ln:=?_,sh:=?_,md:=?_}
  ·rw[em];exact w.n0
  ·show(List.set _ _ _).length<=16;rw[ZI];exact w.l0
  ·exact qC w.ln (w.ln (dN R (aP e 0)) (iC k0))
  ·intro x hx;have:=w.sh x hx;exact⟨by rw[em];exact this.1,this.2⟩
  ·intro x hx;obtain⟨h3,h4⟩:=w.md x hx;refine⟨?_,h4⟩;rcases h3 with h3|h3
   ·exact .inl ⟨h3.1,by rw[em];exact h3.2⟩
   ·exact .inr h3
 |source=>
  have f0:aP e 0∉gV R:=hk.fr 0 3 rfl;have k1:aP e 1∈gJ R:=hk.kn 1 0 rfl;rw[bD]at hc;split at hc
  ·cases hc
  case isFalse h2=>
  have em:gV (du R e .source)=gV R++[aP e 0]:=Y9;refine {w with n3:=?_,l3:=?_,md:=?_,jb:=?_}
  ·exact z162
  ·exact MX
  ·refine ja (λx hx=>?_) ⟨.inl ⟨rfl,k1⟩,ZA _,λt ht=>by cases ht⟩;exact M0
  ·intro x hx;have:=w.jb x hx;exact⟨by rw[em];exact gy this.1,this.2⟩
 |fZ=>
  have f0:aP e 0∉gV R:=hk.fr 0 3 rfl;have k1:aP e 1∈gV R:=hk.kn 1 3 rfl;have hl:e.names.length=2:=he.nl;have hdr:e.names.drop 1=[aP e 1]:=by
   match hn:e.names,hl with
   |[a,b],_=>simp[aP,hn]
  rw[bD]at hc;split at hc
  ·cases hc
  split at hc
  ·cases hc
  split at hc
  ·cases hc
  case isFalse h2=>
  have em:gV (du R e .fZ)=gV R++[aP e 0]:=Y9;refine {w with n3:=?_,l3:=?_,md:=?_,jb:=?_}
  ·exact z162
  ·exact MX
  ·refine ja (λx hx=>?_) ?_
   ·exact M0
   ·simp only[hdr];exact⟨.inr Si,Si,λt ht=>by rw[Zj]at ht;rw[ht,em];exact gy k1⟩
  ·intro x hx;have:=w.jb x hx;exact⟨by rw[em];exact gy this.1,this.2⟩
 |merge=>
  have f0:aP e 0∉gV R:=hk.fr 0 3 rfl;have k1:aP e 1∈gV R:=hk.kn 1 3 rfl;have k2:aP e 2∈gV R:=hk.kn 2 3 rfl;have hl:e.names.length=3:=he.nl;have hdr:e.names.drop 1=[aP e 1,aP e 2]:=by
   match hn:e.names,hl with
   |[a,b,c],_=>simp[aP,hn]
  rw[bD]at hc;split at hc
  ·cases hc
  split at hc
  ·cases hc
  split at hc
  ·cases hc
  case isFalse h2=>
  have em:gV (du R e .merge)=gV R++[aP e 0]:=Y9;refine {w with n3:=?_,l3:=?_,md:=?_,jb:=?_}
  ·exact z162
  ·exact MX
  ·refine ja (λx hx=>?_) ?_
   ·exact M0
   ·simp only[hdr];refine⟨.inr Si,Si,λt ht=>?_⟩;rw[em];rcases ZG.1 ht with ht|ht
    ·rw[ht];exact gy k1
    ·rw[Zj]at ht;rw[ht];exact gy k2
  ·intro x hx;have:=w.jb x hx;exact⟨by rw[em];exact gy this.1,this.2⟩
 |run=>
  have f0:aP e 0∉iO R:=hk.fr 0 4 rfl;have k1:aP e 1∈gV R:=hk.kn 1 3 rfl;rw[bD]at hc;split at hc
  ·cases hc
  split at hc
  ·cases hc
  case isFalse h1=>
  split at hc
  ·cases hc
  case isFalse h2=>
  have h1:=hP h1;have em:iO (du R e .run)=iO R++[aP e 0]:=Y9;refine {w with n4:=?_,l4:=?_,jb:=?_,pc:=?_}
  ·rw[em];exact w.n4.add (gn 0 De) f0
  ·show(R.aF++[_]).length<=16;rw[YT,Zt];omega
  ·refine ja w.jb ⟨k1,?_,?_,λs hs=>?_⟩
   ·show 1<=(List.replicate _ _).length;rw[Z9];omega
   ·show(List.replicate _ _).length<=32;rw[Z9];omega
   ·rw[(List.mem_replicate.1 hs).2];decide
  ·intro x hx;have:=w.pc x hx;exact⟨by rw[em];exact gy this.1,this.2⟩
 |fW=>exact w.F0 _ (hk.kn 0 4 rfl) (by have:=gv 2 De;omega)
 |fail=>exact w.F0 _ (hk.kn 0 4 rfl) De
 |gu=>
  have f0:aP e 0∉k5 R:=hk.fr 0 5 rfl;have k1:aP e 1∈iO R:=hk.kn 1 4 rfl;rw[bD]at hc;split at hc
  ·cases hc
  split at hc
  ·cases hc
  case isFalse h1=>
  split at hc
  ·cases hc
  case isFalse h2=>
  have em:k5 (du R e .gu)=k5 R++[aP e 0]:=Y9;refine {w with n5:=?_,l5:=?_,pc:=?_}
  ·rw[em];exact w.n5.add (gn 0 De) f0
  ·show(R.aI++[_]).length<=16;rw[YT,Zt];omega
  ·exact ja w.pc ⟨k1,Eu (tj (Classical.not_not.1 h1))⟩
 |rel=>
  have k0:aP e 0∈k5 R:=hk.kn 0 5 rfl;have em:k5 (du R e .rel)=k5 R:=map_set (d:=Hx) k0 (gX k0);refine {w with n5:=?_,l5:=?_,pc:=?_}
  ·rw[em];exact w.n5
  ·show(List.set _ _ _).length<=16;rw[ZI];exact w.l5
  ·exact qC w.pc (w.pc (jX R (aP e 0)) (iC k0))
def ee.step{d}(he:kj e d)(hd:d≠.eZ)(h:gQ R e d=0):ee (jZ R e d):=by
 unfold gQ at h;split at h
 ·cases h
 split at h
 case isTrue h1=>exact absurd h h1
 case isFalse h1=>
 have h1:=Classical.not_not.1 h1;refine(w.act he (yS h1) h).tick (he.vr _ (qt ?_));rw[he.vl];cases d<;>first|exact absurd rfl hd|decide
end
def de{α:Type}(p:α->Bool)(L:List α):Int:=
 match L.findIdx? p with
 |some i=>(i:Int)
 |none=>-1
def n6{α:Type}(p:α->Bool)(L:List α):decide (0<=de p L)=L.any p:=by
 unfold de;cases hx:L.findIdx? p with
 |none=>
  simp only[List.findIdx?_eq_none_iff]at hx;have:L.any p=false:=by rw[List.any_eq_false];intro x RI;simp[hx x RI]
  rw[this];rfl
 |some i=>
  have h1:=List.findIdx?_isSome (xs:=L) (p:=p);rw[hx]at h1;rw[<-h1];simp
def aq(x:By):List AV:=[.str x]
def bG(x:gZ):List AV:=[.str x.name,.i x.want,.bool x.acc]
def cp(x:rX):List AV:=[.str x.name,.i x.last]
def aU(x:jR×AV):List AV:=[.str x.1.name,.str x.1.line,x.2]
def aM(x:gY×AV):List AV:=[.str x.1.name,.str x.1.gives,.str x.1.line,x.2]
def bB(x:kY×AV):List AV:=[.str x.1.name,.str x.1.mod,x.2]
def cw(x:qm):List AV:=[.str x.name,.str x.AS,.i x.lI,.bool x.rel]
structure RV where
 tick:Int
 lines:List gZ
 aE:List rX
 aj:List (jR×AV)
 aC:List (gY×AV)
 aF:List (kY×AV)
 aI:List qm
 s0:AV
 s1:AV
 s2:AV
 s3:AV
 s4:AV
 s5:AV
def RV.an(V:RV):dJ:=⟨V.tick,V.lines,V.aE,V.aj.map Prod.fst,V.aC.map Prod.fst,V.aF.map Prod.fst,V.aI⟩
def RV.row(V:RV):List AV:=[.i V.tick,V.s0,V.s1,V.s2,V.s3,V.s4,V.s5]
def RV.zero:RV:=⟨0,[],[],[],[],[],[],.af,.af,.af,.af,.af,.af⟩
structure aB(h:ah)(V:RV):Prop where
 i0:aK h V.s0 3 (V.lines.map bG)
 i1:aK h V.s1 2 (V.aE.map cp)
 i2:aK h V.s2 3 (V.aj.map aU)
 i3:aK h V.s3 4 (V.aC.map aM)
 i4:aK h V.s4 3 (V.aF.map bB)
 i5:aK h V.s5 4 (V.aI.map cw)
 e2:∀x∈V.aj,aK h x.2 1 (x.1.aE.map aq)
 e3:∀x∈V.aC,aK h x.2 1 (x.1.bo.map aq)
 e4:∀x∈V.aF,aK h x.2 1 (x.1.bt.map aL)
theorem aB.ext{h k V}(o:aB h V)(e:Ext h k):aB k V:=
 ⟨o.i0.ext e,o.i1.ext e,o.i2.ext e,o.i3.ext e,o.i4.ext e,o.i5.ext e,λx hx=>(o.e2 x hx).ext e,λx hx=>(o.e3 x hx).ext e,λx hx=>(o.e4 x hx).ext e⟩
theorem aB.zero{h}:aB h RV.zero:=by
 refine⟨.nil,.nil,.nil,.nil,.nil,.nil,?_,?_,?_⟩
 all_goals intro x hx;cases hx
def sB:AV->Option Nat
 |.slice b _ _ _=>some b
 |_=>none
def NF{v b}(h:sB v=some b):∃o n e,v=.slice b o n e:=by
 cases v with
 |slice b' o n e=>cases h;exact⟨o,n,e,rfl⟩
 |_=>cases h
def Fr.bP{N h s es cs}(hs:Fr N h s es cs){b}(hb:sB s=some b):N<=b/\b<h.length:=by
 obtain⟨o,n,e,rfl⟩:=NF hb;exact hs.lt rfl
def Fr.aD{N h k s es cs}(hs:Fr N h s es cs)(hk:∀b,sB s=some b->k[b]? =h[b]?):Fr N k s es cs:=by
 exact JU
def RV.bl(V:RV):List (Option Nat):=[sB V.s0,sB V.s1,sB V.s2,sB V.s3,sB V.s4,sB V.s5]++(V.aj.map λx=>sB x.2)++(V.aC.map λx=>sB x.2)++(V.aF.map λx=>sB x.2)
def k8(l:List (Option Nat)):Prop:=l.Pairwise λx y=>∀b,x=some b->y≠some b
structure cJ(N:Nat)(h:ah)(V:RV):Prop where
 i0:Fr N h V.s0 3 (V.lines.map bG)
 i1:Fr N h V.s1 2 (V.aE.map cp)
 i2:Fr N h V.s2 3 (V.aj.map aU)
 i3:Fr N h V.s3 4 (V.aC.map aM)
 i4:Fr N h V.s4 3 (V.aF.map bB)
 i5:Fr N h V.s5 4 (V.aI.map cw)
 e2:∀x∈V.aj,Fr N h x.2 1 (x.1.aE.map aq)
 e3:∀x∈V.aC,Fr N h x.2 1 (x.1.bo.map aq)
 e4:∀x∈V.aF,Fr N h x.2 1 (x.1.bt.map aL)
 di:k8 V.bl
def cJ.ok{N h V}(o:cJ N h V):aB h V:=
 ⟨o.i0.aW,o.i1.aW,o.i2.aW,o.i3.aW,o.i4.aW,o.i5.aW,λx hx=>(o.e2 x hx).aW,λx hx=>(o.e3 x hx).aW,λx hx=>(o.e4 x hx).aW⟩
theorem cJ.app{N h V}(o:cJ N h V)(g:ah):cJ N (h++g) V:=
 ⟨o.i0.app g,o.i1.app g,o.i2.app g,o.i3.app g,o.i4.app g,o.i5.app g,λx hx=>(o.e2 x hx).app g,λx hx=>(o.e3 x hx).app g,λx hx=>(o.e4 x hx).app g,o.di⟩
def cJ.ar{N h k V}(o:cJ N h V)(hk:∀b,some b∈V.bl->k[b]? =h[b]?):cJ N k V:=by
 have m6:∀x∈[sB V.s0,sB V.s1,sB V.s2,sB V.s3,sB V.s4,sB V.s5],x∈V.bl:=λx hx=>by simp only[RV.bl,Y8];exact .inl (.inl (.inl hx))
 refine⟨o.i0.aD λb hb=>hk b (hb▸m6 _ Si),o.i1.aD λb hb=>hk b (hb▸m6 _ Si),o.i2.aD λb hb=>hk b (hb▸m6 _ Si),o.i3.aD λb hb=>hk b (hb▸m6 _ Si),o.i4.aD λb hb=>hk b (hb▸m6 _ Si),o.i5.aD λb hb=>hk b (hb▸m6 _ Si),
  λx hx=>(o.e2 x hx).aD λb hb=>hk b ?_,λx hx=>(o.e3 x hx).aD λb hb=>hk b ?_,λx hx=>(o.e4 x hx).aD λb hb=>hk b ?_,o.di⟩
 ·exact z145
 ·exact JR
 ·exact JK
structure EV where
 ev:eD
 sn:AV
 sv:AV
def EV.row(x:EV):List AV:=[.i x.ev.num,.str x.ev.kind,x.sn,x.sv,.str x.ev.text]
structure bh(h:ah)(x:EV):Prop where
 n:aK h x.sn 1 (x.ev.names.map aq)
 v:aK h x.sv 1 (x.ev.cB.map aL)
theorem bh.ext{h k x}(o:bh h x)(e:Ext h k):bh k x:=⟨o.n.ext e,o.v.ext e⟩
structure dW(h:ah)(L:List EV)(s:AV):Prop where
 sl:aK h s 5 (L.map EV.row)
 all:∀x∈L,bh h x
theorem dW.ext{h k L s}(o:dW h L s)(e:Ext h k):dW k L s:=⟨o.sl.ext e,λx hx=>(o.all x hx).ext e⟩
end Go.Abs
namespace Go.Abs
inductive Ow (N:Nat) (h:ah):AV->Nat->List (List AV)->Prop
 |nil {es:Nat}:Ow N h .af es []
 |mk {b es:Nat}{cs:List (List AV)}{junk:List AV}(hN:N<=b) (hb:h[b]? =some (.cells (cs.flatten++junk) true true)) (he:∀x∈cs,x.length=es):Ow N h (.slice b 0 cs.length es) es cs
def Ow.aW{N h s es cs}(hs:Ow N h s es cs):aK h s es cs:=by
 cases hs with
 |nil=>exact .nil
 |mk hN hb he=>
  have hl:=eU he;exact .mk hb (by rw[aao,<-hl,List.take_left]) (by rw[YT];omega) he
def Ow.bP{N h s es cs}(hs:Ow N h s es cs){b}(hb:sB s=some b):N<=b/\b<h.length:=by
 cases hs with
 |nil=>cases hb
 |mk hN hb' he=>cases hb;exact⟨hN,(YU.1 hb').1⟩
def Ow.aD{N h k s es cs}(hs:Ow N h s es cs)(hk:∀b,sB s=some b->k[b]? =h[b]?):Ow N k s es cs:=by
 exact JU
def Ow.cut{N h s es cs}(hs:Ow N h s es cs){n:Nat}(hn:n<=cs.length){k}:
  ∃s',AP es s none (some (.int k (n:Int)))=some (s',.ar)/\sB s' =sB s/\Ow N h s' es (cs.take n):=by
 cases hs with
 |nil=>
  have:n=0:=by simpa using hn
  subst this;exact⟨.af,by simp only[AP,jI (Zc 0)],rfl,by rw[List.take_nil];exact .nil⟩
 | @mk b _ _ junk hN hb he=>
  refine⟨.slice b 0 n es,?_,rfl,?_⟩
  ·simp only[AP,Zk,jI hn,aa2,abt,Nat.sub_zero]
  ·have hl:(cs.take n).length=n:=by rw[ZQ];omega
   have hf:cs.flatten++junk=(cs.take n).flatten++((cs.drop n).flatten++junk):=by
    rw[<-YV,<-aaH,aal]
   rw[hf]at hb;have:=Ow.mk (cs:=cs.take n) hN hb (λx hx=>he x (Z8 hx))
   rwa [hl]at this
section
variable {P:Program}{ro:Option Nat->Prop}{ks:List Kt}{ts:TS}{Q:Ex->TS->ah->Prop}
def WR.IG{h s y es cs ys N w d l}(hs:Ow N h s es cs)(hy:aK h y es ys)(hN:N<=h.length)(hes:0<es)(hne:0<ys.length)(eJ:(cs.length+ys.length)*w<=2^46)
  (K:∀h',h'.length=h.length+1->Ow N h' (.slice h.length 0 (cs++ys).length es) es (cs++ys)->(∀b,b<h.length->sB s≠some b->h'[b]? =h[b]?)->WP P ro l ks (put ts d (.slice h.length 0 (cs++ys).length es)) h' Q):
  WR P ro (pH es w s y (λb=>h[b]?) h.length) false d l ks ts h Q:=by
 have TC:∀x∈cs++ys,x.length=es:=λx hx=>by
  exact z146
 have hk:¬ys.length=0:=Om
 simp only[pH,hy.fu];have mk:∀h1:ah,h1.length=h.length->Ow N (h1++[.cells (cs++ys).flatten true true]) (.slice h.length 0 (cs++ys).length es) es (cs++ys):=by
  intro h1 h1l;refine Ow.mk (junk:=[]) hN ?_ TC;rw[Zr,<-h1l];exact a8
 cases hs with
 |nil=>
  simp only[Y6,ZN]at eJ;simp only[Za hk,Zh eJ];rw[mq];have hK:=K (h++[.cells ys.flatten true true]) Si (mk h rfl) (λb hb _=>YY hb);exact hK
 | @mk b _ _ junk hbN hb hre=>
  have hcl:=eU hre;simp only[Zk,Za hk,Zh eJ,hb,ZN];rw[Zh (by rw[YT];omega),nC];have hbl:b<h.length:=(YU.1 hb).1;have hc:List.take (cs.length*es) (List.drop 0 (cs.flatten++junk))=cs.flatten:=by rw[aao,<-hcl,List.take_left]
  rw[hc];have hK:=K (h.set b .dead++[.cells (cs++ys).flatten true true]) Si (mk _ Si) (λi hi hne=>by
   have:b≠i:=λe=>hne (by rw[<-e];rfl)
   rw[YY (by simpa using hi),Zf this])
  simp only[aaH,YT]at hK ⊢;exact hK
end
def fL(ex:List (Option Nat))(h:ah):ah:=h.mapIdx λb k=>if some b∈ex then .dead else k
def uc{ex h b}(hb:some b∉ex):(fL ex h)[b]? =h[b]? :=by
 rw[fL,List.getElem?_mapIdx];cases h[b]? with
 |none=>rfl
 |some k=>simp[hb]
def rm{ex h b c mu tl}(hb:(fL ex h)[b]? =some (.cells c mu tl)):some b∉ex/\h[b]? =some (.cells c mu tl):=by
 rw[fL,List.getElem?_mapIdx]at hb;cases hk:h[b]? with
 |none=>rw[hk]at hb;cases hb
 |some k=>
  rw[hk]at hb;simp only[aaS,Zy]at hb;split at hb
  ·cases hb
  case isFalse h1=>exact⟨h1,by rw[hb]⟩
def jr(k h:ah):Prop:=∀(b:Nat) (c:List AV) (mu tl:Bool),k[b]? =some (ak.cells c mu tl)->h[b]? =some (ak.cells c mu tl)
def aK.sub{k h s es cs}(o:aK k s es cs)(e:jr k h):aK h s es cs:=by
 cases o with
 |nil=>exact .nil
 |mk hb hf ho he=>exact .mk (e _ _ _ _ hb) hf ho he
theorem aB.sub{k h V}(o:aB k V)(e:jr k h):aB h V:=
 ⟨o.i0.sub e,o.i1.sub e,o.i2.sub e,o.i3.sub e,o.i4.sub e,o.i5.sub e,λx hx=>(o.e2 x hx).sub e,λx hx=>(o.e3 x hx).sub e,λx hx=>(o.e4 x hx).sub e⟩
theorem bh.sub{k h x}(o:bh k x)(e:jr k h):bh h x:=⟨o.n.sub e,o.v.sub e⟩
theorem jr.fL(ex:List (Option Nat))(h:ah):jr (fL ex h) h:=λ_ _ _ _ hb=>(rm hb).2
theorem aK.fL{h s es cs}(o:aK h s es cs){ex}(hx:∀b,sB s=some b->some b∉ex):aK (Go.Abs.fL ex h) s es cs:=by
 cases o with
 |nil=>exact .nil
 |mk hb hf ho he=>exact .mk ((uc (hx _ rfl)).trans hb) hf ho he
def aB.ar{h k V}(o:aB h V)(hk:∀b,some b∈V.bl->k[b]? =h[b]?):aB k V:=by
 have m6:∀x∈[sB V.s0,sB V.s1,sB V.s2,sB V.s3,sB V.s4,sB V.s5],x∈V.bl:=λx hx=>by simp only[RV.bl,Y8];exact .inl (.inl (.inl hx))
 have kp:∀{s:AV}{es:Nat}{cs:List (List AV)},aK h s es cs->(∀b,sB s=some b->k[b]? =h[b]?)->aK k s es cs:=λ{s es cs} hs hb=>by
  cases hs with
  |nil=>exact .nil
  |mk h1 h2 h3 h4=>exact .mk ((hb _ rfl).trans h1) h2 h3 h4
 refine⟨kp o.i0 λb hb=>hk b (hb▸m6 _ Si),kp o.i1 λb hb=>hk b (hb▸m6 _ Si),kp o.i2 λb hb=>hk b (hb▸m6 _ Si),kp o.i3 λb hb=>hk b (hb▸m6 _ Si),kp o.i4 λb hb=>hk b (hb▸m6 _ Si),kp o.i5 λb hb=>hk b (hb▸m6 _ Si),
  λx hx=>kp (o.e2 x hx) λb hb=>hk b ?_,λx hx=>kp (o.e3 x hx) λb hb=>hk b ?_,λx hx=>kp (o.e4 x hx) λb hb=>hk b ?_⟩
 ·exact z145
 ·exact JR
 ·exact JK
structure HV where
 dm:List EV
 fe:List EV
 cC:List RV
 se:AV
 sc:AV
 sr:AV
def HV.bV(V:HV):iH:=⟨V.dm.map EV.ev,V.fe.map EV.ev,V.cC.map RV.an⟩
def HV.ex(b:Nat)(V:HV):List (Option Nat):=[some b,sB V.se,sB V.sc,sB V.sr]
structure cH(N:Nat)(h:ah)(b:Nat)(V:HV):Prop where
 hN:N<=b
 hb:h[b]? =some (.b [V.se,V.sc,V.sr])
 oe:Ow N h V.se 5 (V.dm.map EV.row)
 oc:Ow N h V.sc 5 (V.fe.map EV.row)
 og:Ow N h V.sr 7 (V.cC.map RV.row)
 di:k8 (V.ex b)
 ae:∀x∈V.dm,bh (fL (V.ex b) h) x
 ac:∀x∈V.fe,bh (fL (V.ex b) h) x
 ag:∀x∈V.cC,aB (fL (V.ex b) h) x
 lo:∀x∈V.cC,∀j,some j∈x.bl->N<=j
def nG{ex ex' h h'}(hk:∀b,b<h.length->some b∉ex->h'[b]? =h[b]?)(he:∀b,b<h.length->some b∈ex'->some b∈ex):jr (fL ex h) (fL ex' h'):=by
 intro b c mu tl hb;obtain⟨h1,h2⟩:=rm hb;have hlt:b<h.length:=(YU.1 h2).1;rw[uc λh3=>h1 (he b hlt h3),hk b hlt h1,h2]
def cH.app{N h b V}(o:cH N h b V)(g:ah):cH N (h++g) b V:=by
 have hs:jr (fL (V.ex b) h) (fL (V.ex b) (h++g)):=nG (λb hb _=>YY hb) (λb _ hb=>hb);have hbl:=(YU.1 o.hb).1;exact⟨o.hN,(YY hbl).trans o.hb,o.oe.aD λb hb=>YY (o.oe.bP hb).2,o.oc.aD λb hb=>YY (o.oc.bP hb).2,o.og.aD λb hb=>YY (o.og.bP hb).2,o.di,
  λx hx=>(o.ae x hx).sub hs,λx hx=>(o.ac x hx).sub hs,λx hx=>(o.ag x hx).sub hs,o.lo⟩
end Go.Abs
namespace Go.Abs
def j9:By->Bool
 |[]=>true
 |c::r=>fU c&&r.all jV
def th(s:By):ez s=(decide (s≠[])&&decide (s.length<=24)&&j9 s):=by
 cases s with
 |nil=>rfl
 |cons c r=>
  have:(r.length<24)=((c::r).length<=24):=by simp;omega
  simp only[ez,j9,this];simp[Bool.and_assoc]
def zY{s:By}{k:Nat}(hk:k<s.length):j9 (s.take (k+1))=(j9 (s.take k)&&(if k=0 then fU s[k]else jV s[k])):=by
 cases s with
 |nil=>simp at hk
 |cons c r=>
  cases k with
  |zero=>simp[j9]
  |succ k=>
   have hk':k<r.length:=by simpa using hk
   simp only[aaR,j9,List.getElem_cons_succ];rw[ZJ,YZ hk',Option.toList_some];rw[List.all_append,aau,List.all_nil,Bool.and_true,Bool.and_assoc,Za Om]
def zX{s k}(h:j9 (s.take k)=false):j9 s=false:=by
 cases s with
 |nil=>simp[j9]at h
 |cons c r=>
  cases k with
  |zero=>simp[j9]at h
  |succ k=>
   simp only[aaR,j9,Bool.and_eq_false_iff]at h ⊢;rcases h with h|h
   ·exact .inl h
   ·right
    rw[List.all_eq_false]at h ⊢;obtain⟨x,hx,hr⟩:=h;exact⟨x,Z8 hx,hr⟩
def dec_lt{s i}(hi:i<s.length)(h:s[i].toNat<128):Utf8.decode ⟨⟨s⟩⟩ i=(s[i].toNat,1):=by
 have hg:(ByteArray.get! ⟨⟨s⟩⟩ i).toNat=s[i].toNat:=by
  simp[ByteArray.get!,hi]
 simp only[Utf8.decode,abt,hg,Zh h]
def Is{s i}(hi:i<s.length)(h:128<=s[i].toNat):128<=(Utf8.decode ⟨⟨s⟩⟩ i).1:=by
 have hg:(ByteArray.get! ⟨⟨s⟩⟩ i).toNat=s[i].toNat:=by
  simp[ByteArray.get!,hi]
 simp only[Utf8.decode,abt,hg];rw[Za Om];simp only[Utf8.runeError]
 repeat' split
 all_goals first
  |(simp only;omega)
  |(simp only[ZE,ZO]at *;omega)
section
variable {P:Program}(T:fA P) {h:ah}
include T
def r85(c:Bool)(e:Int):aA P 85 [.bool c,.i e] h (λv _=>v=.i (bX c e)):=by
 refine .of T.mix T.c85 ?_;unfold fn85 gA;simp only[uset];cases c<;>simp only[aO]<;>rfl
def r94(n lo hi:Int):aA P 94 [.i n,.i lo,.i hi] h (λv _=>v=.i (bu n lo hi)):=by
 refine .of T.mix T.c94 ?_;unfold fn94 gA;simp only[uset];simp+contextual only[aO,pf,Zp,Zx];refine⟨λh1=>?_,λh1=>?_⟩<;>
 ·refine WF.res T.c85 (r85 T _ _) ?_;rintro _ g rfl;simp only[aO];simp[bX,bu,h1]
def r74{s l}(hs:aK h s 1 (l.map aL))(hl:l.length<2^63):aA P 74 [s] h (λv _=>v=.i (aS l)):=by
 refine .of T.mix T.c74 ?_;unfold fn74 gA;simp only[uset];have e1:(l.map aL).length=l.length:=Si
 simp only[aO,hs.jM,e1];refine WL.inv T.mix (λn ts h'=>∃k:Nat,k<=l.length/\n=l.length-k/\h' =h/\aS l=aS (l.drop k)/\ts.length=15/\slot ts 5=s/\slot ts 6=.i l.length/\slot ts 7=.i k) l.length
  ⟨0,Om,rfl,rfl,rfl,rfl,rfl,rfl,rfl⟩ ?_
 rintro _ ts _ ⟨k,hk,rfl,rfl,hf,hlen,h5,h6,h7⟩;rw[lG ts 15 hlen];by_cases hlt:k<l.length
 ·have hd:l.drop k=l[k]::l.drop (k+1):=Si
  have e2:(l.map aL)[k]'Om=[AV.i l[k]]:=Si
  have e3:(k:Int)<l.length:=Om
  simp+contextual (disch:=omega) only[aO,pf,h5,h6,h7,e3,Zp,hs.bw,Int.toNat_natCast,hs.Lh _ e2,bz];refine⟨λh1=>?_,λh1=>⟨l.length-(k+1),Om,k+1,Om,rfl,?_,rfl⟩⟩
  ·rw[hf,hd,aS,Za h1]
  ·rw[hf,hd,aS,Zh Om]
 ·have e3:¬(k:Int)<l.length:=Om
  have e4:k=l.length:=Om
  simp+contextual (disch:=omega) only[aO,h5,h6,h7,e3,Zx,Zk];rw[hf,e4,Z2];rfl
def r193(c:UInt8):aA P 193 [.int .u8 c.toNat] h (λv _=>v=.bool (fU c)):=by
 refine .of T.mix T.c193 ?_;unfold fn193 gA;simp only[uset];simp+contextual only[aO,pf,Zp,Zx]
 grind [fU]
def r194(c:UInt8):aA P 194 [.int .u8 c.toNat] h (λv _=>v=.bool (fp c)):=by
 refine .of T.mix T.c194 ?_;unfold fn194 gA;simp only[uset];simp+contextual only[aO,pf,Zp,Zx]
 grind [fp]
def r102(s:By)(hl:s.length<2^63):aA P 102 [.str s] h (λv _=>v=.bool (ez s)):=by
 refine .of T.mix T.c102 ?_;unfold fn102 gA;simp only[uset];cases s with
 |nil=>
  simp only[aO,Y6];simp only[show((0:Nat):Int)=0 from rfl,Zp,aO];rfl
 |cons c r=>
  have e1:¬(((c::r).length:Nat):Int)=0:=by simp;omega
  simp+contextual only[aO,pf,e1,Zp,Zx];refine⟨λh1=>?_,λh1=>?_⟩
  ·have:¬r.length<24:=by simp at h1;omega
   simp[ez,this]
  ·rw[vS];simp only[aO];refine WF.ce T.c193 (r193 T _) λg=>?_
   have hlt:r.length<24:=by simp at h1;omega
   cases hc:fU c with
   |false=>
    simp only[aO,Zz];simp[ez,hc]
   |true=>
    simp only[aO,Zw];have key:ez (c::r)=r.all jV:=by simp[ez,hc,hlt]
    refine WL.inv T.mix (λn ts h'=>∃k:Nat,k<=r.length/\n=r.length-k/\Ext h h'/\r.all jV=(r.drop k).all jV/\ts.length=42/\slot ts 0=.str (c::r)/\slot ts 3=.i (k+1)) r.length
     ⟨0,Om,rfl,⟨_,rfl⟩,rfl,rfl,rfl,rfl⟩ ?_
    rintro _ ts _ ⟨k,hk,rfl,⟨g',rfl⟩,hf,hlen,h0,h3⟩;rw[lG ts 42 hlen];have hlc:(c::r).length=r.length+1:=rfl;by_cases hlt:k<r.length
    ·have hd:r.drop k=r[k]::r.drop (k+1):=Si
     have e3:(k:Int)+1<((c::r).length:Nat):=Om
     have e4:vT (.str (c::r)) (.i (k+1))=some (.int .u8 r[k].toNat):=jN (s:=c::r) (i:=k+1) Om;simp only[aO,h0,h3,e3,Zp,e4];refine WF.ce T.c193 (r193 T _) λg1=>?_
     cases hx:fU r[k]with
     |true=>
      simp (disch:=omega) only[aO,Zw,bz];exact⟨_,Om,k+1,Om,rfl,by rw[hf,hd,aau,jV,hx,Bool.true_or,Bool.true_or,aav],rfl⟩
     |false=>
      simp only[aO,Zz,h0,h3,e4];refine WF.ce T.c194 (r194 T _) λg2=>?_
      cases hy:fp r[k]with
      |true=>
       simp (disch:=omega) only[aO,Zw,bz];exact⟨_,Om,k+1,Om,rfl,by rw[hf,hd,aau,jV,hx,hy,Bool.or_true,Bool.true_or,aav],rfl⟩
      |false=>
       simp+contextual (disch:=omega) only[aO,pf,Zz,h0,h3,e4,bz];refine⟨λh9=>?_,λh9=>⟨_,Om,k+1,Om,rfl,?_,rfl⟩⟩
       ·rw[key,hf,hd,aau,jV,hx,hy];simp;omega
       ·rw[hf,hd,aau,jV,hx,hy];simp;omega
    ·have e3:¬(k:Int)+1<((c::r).length:Nat):=Om
     have e4:k=r.length:=Om
     simp only[aO,h0,h3,e3,Zx,Zk];rw[key,hf,e4,Z2];rfl
def r132(s:By):aA P 132 [.str s] h (λv _=>v=.bool (ez s)):=by
 refine .of T.mix T.c132 ?_;unfold fn132 gA;simp only[uset];simp only[aO,aQ];refine WL.inv T.mix (λn ts h'=>∃k:Nat,k<=s.length/\n=s.length-k/\h' =h++[.iter s k]/\j9 (s.take k)=true/\ts.length=54/\slot ts 0=.str s/\slot ts 8=.ptr h.length 0) s.length
  ⟨0,Om,rfl,rfl,rfl,rfl,rfl,rfl⟩ ?_
 rintro _ ts _ ⟨k,hk,rfl,rfl,hf,hlen,h0,h8⟩;rw[lG ts 54 hlen];by_cases hlt:k<s.length
 ·have Sp:=zY hlt;rw[hf,aav]at Sp;obtain⟨c,w,T9,hcw⟩:∃c w,Utf8.decode ⟨⟨s⟩⟩ k=(c,w)/\(c=s[k].toNat/\w=1\/128<=c/\128<=s[k].toNat):=by
   by_cases hc:s[k].toNat<128
   ·exact⟨_,_,dec_lt hlt hc,.inl ⟨rfl,rfl⟩⟩
   ·exact Jv
  have TQ:(if k=0 then fU s[k]else jV s[k])=false->AV.bool false=AV.bool (ez s):=λhb=>by
   rw[hb]at Sp;rw[th,zX Sp,Bool.and_false]
  have XI:∀w',c=s[k].toNat/\w' =1->(if k=0 then fU s[k]else jV s[k])=true->∃m,m<s.length-k/\∃k_1,k_1<=s.length/\m=s.length-k_1/\h++[ak.iter s (k+w')]=h++[ak.iter s k_1]/\j9 (List.take k_1 s)=true/\True:=λw' hw hb=>by
   rw[hb]at Sp;exact⟨_,Om,k+1,Om,rfl,by rw[hw.2],Sp,trivial⟩
  have hl:fU s[k]=(decide (65<=s[k].toNat)&&decide (s[k].toNat<=90)||decide (97<=s[k].toNat)&&decide (s[k].toNat<=122)):=rfl;have hr:jV s[k]=(fU s[k]||(decide (48<=s[k].toNat)&&decide (s[k].toNat<=57))||s[k].toNat==95):=rfl;have h0':((k:Int)=0)=(k=0):=Si
  by_cases a1:(65:Int)<=c<;>by_cases a2:(c:Int)<=90<;>by_cases a3:(97:Int)<=c<;>by_cases a4:(c:Int)<=122<;>first|(exfalso;omega)|skip
  all_goals by_cases a5:(48:Int)<=c<;>by_cases a6:(c:Int)<=57<;>by_cases a7:(c:Int)=95<;>first|(exfalso;omega)|skip
  all_goals first|have b7:=aar a7|have b7:=abA a7
  all_goals simp only[aO,aQ,h0,h8,ep,hlt,Zk,T9,a1,a2,a3,a4,a5,a6,b7,Zp,Zx,Zw,Zz]
  all_goals first
   |exact XI _ Om (by grind)
   |(by_cases hk0:(k:Int)=0<;>simp only[aO,aQ,hk0,Zp,Zx,Zw,Zz]<;>first
     |exact TQ (by grind)
     |exact XI _ Om (by grind))
   |exact TQ (by grind)
 ·simp only[aO,aQ,h0,h8,ep,hlt,Zi,Zk];have e4:k=s.length:=Om
  rw[e4,ZD]at hf;by_cases he:s=[]<;>simp only[aO,he,Zp,Zx,ne_eq,not_true_eq_false,not_false_eq_true]
  ·rfl
  ·rw[th,hf];simp[he];omega
end
end Go.Abs
namespace Go.Abs
def fo{α:Type}{f:α->By}{L:List α}{n:By}(h:n∈L.map f):de (λx=>decide (f x=n)) L=(bp (L.map f) n:Int):=by
 have e:bp (L.map f) n=L.findIdx λx=>decide (f x=n):=by
  rw[bp,List.findIdx_map];rfl
 have hlt:=cY h;rw[e,Y7]at hlt;rw[e,de,List.findIdx?_eq_guard_findIdx_lt];simp[Option.guard,hlt]
def fJ{α:Type}{f:α->By}{L:List α}{n:By}:decide (0<=de (λx=>decide (f x=n)) L)=decide (n∈L.map f):=by
 rw[n6];rw[Bool.eq_iff_iff];simp[aaD]
section
variable {P:Program}(T:fA P) {h:ah}
include T
def r230{α:Type}{row L s f}(hs:aK h s 3 (L.map row))(hl:L.length<2^63)(p:α->Bool)
  (hf:∀x,x∈L->∀k,Ext h k->bH P f [.agg (row x)] k (λv _=>v=.bool (p x))):aA P 230 [s,f] h (λv _=>v=.i (de p L)):=by
 refine .of T.mix T.c230 ?_;unfold fn230 gA;exact z1
def r232{α:Type}{row L s f}(hs:aK h s 2 (L.map row))(hl:L.length<2^63)(p:α->Bool)
  (hf:∀x,x∈L->∀k,Ext h k->bH P f [.agg (row x)] k (λv _=>v=.bool (p x))):aA P 232 [s,f] h (λv _=>v=.i (de p L)):=by
 refine .of T.mix T.c232 ?_;unfold fn232 gA;exact z1
def r228{α:Type}{row L s f}(hs:aK h s 3 (L.map row))(hl:L.length<2^63)(p:α->Bool)
  (hf:∀x,x∈L->∀k,Ext h k->bH P f [.agg (row x)] k (λv _=>v=.bool (p x))):aA P 228 [s,f] h (λv _=>v=.i (de p L)):=by
 refine .of T.mix T.c228 ?_;unfold fn228 gA;exact z1
def r234{α:Type}{row L s f}(hs:aK h s 4 (L.map row))(hl:L.length<2^63)(p:α->Bool)
  (hf:∀x,x∈L->∀k,Ext h k->bH P f [.agg (row x)] k (λv _=>v=.bool (p x))):aA P 234 [s,f] h (λv _=>v=.i (de p L)):=by
 refine .of T.mix T.c234 ?_;unfold fn234 gA;exact z1
def r236{α:Type}{row L s f}(hs:aK h s 3 (L.map row))(hl:L.length<2^63)(p:α->Bool)
  (hf:∀x,x∈L->∀k,Ext h k->bH P f [.agg (row x)] k (λv _=>v=.bool (p x))):aA P 236 [s,f] h (λv _=>v=.i (de p L)):=by
 refine .of T.mix T.c236 ?_;unfold fn236 gA;exact z1
def r238{α:Type}{row L s f}(hs:aK h s 4 (L.map row))(hl:L.length<2^63)(p:α->Bool)
  (hf:∀x,x∈L->∀k,Ext h k->bH P f [.agg (row x)] k (λv _=>v=.bool (p x))):aA P 238 [s,f] h (λv _=>v=.i (de p L)):=by
 refine .of T.mix T.c238 ?_;unfold fn238 gA;exact z1
def r246{α:Type}{row:α->List AV}{L:List α}{s f:AV}(hs:aK h s 3 (L.map row))(hl:L.length<2^63)(p:α->Bool)
  (hf:∀x,x∈L->∀k,Ext h k->bH P f [.agg (row x)] k (λv _=>v=.bool (p x))):aA P 246 [s,f] h (λv _=>v=.bool (L.any p)):=by
 refine .of T.mix T.c246 ?_;unfold fn246 gA;refine Wn ?_;refine WF.ce T.c230 (r230 T hs hl p hf) λg=>?_
 exact Ws @n6 Tv
def r243{α:Type}{row:α->List AV}{L:List α}{s f:AV}(hs:aK h s 3 (L.map row))(hl:L.length<2^63)(p:α->Bool)
  (hf:∀x,x∈L->∀k,Ext h k->bH P f [.agg (row x)] k (λv _=>v=.bool (p x))):aA P 243 [s,f] h (λv _=>v=.bool (L.any p)):=by
 refine .of T.mix T.c243 ?_;unfold fn243 gA;refine Wn ?_;refine WF.ce T.c228 (r228 T hs hl p hf) λg=>?_
 exact Ws @n6 Tv
def r268{α:Type}{row:α->List AV}{L:List α}{s f:AV}(hs:aK h s 4 (L.map row))(hl:L.length<2^63)(p:α->Bool)
  (hf:∀x,x∈L->∀k,Ext h k->bH P f [.agg (row x)] k (λv _=>v=.bool (p x))):aA P 268 [s,f] h (λv _=>v=.bool (L.any p)):=by
 refine .of T.mix T.c268 ?_;unfold fn268 gA;refine Wn ?_;refine WF.ce T.c238 (r238 T hs hl p hf) λg=>?_
 exact Ws @n6 Tv
def r123(x:gZ):aA P 123 [.agg (bG x)] h (λv _=>v=.str x.name):=by
 refine .of T.mix T.c123 ?_;unfold fn123 gA bG;exact Wn Tv
def r231(x:gZ){b n}(hb:h[b]? =some (.b [.str n])):aA P 231 [.agg (bG x),.ptr b 0] h (λv _=>v=.bool (decide (x.name=n))):=by
 refine .of T.mix T.c231 ?_;unfold fn231 gA;have hlt:=(YU.1 hb).1;have hld:∀g:ah,ao none (.ptr b 0) (λz=>(h++g)[z]?)=dC none 0 (.b [.str n]):=λg=>az (by rw[c7 _ hlt];exact hb)
 have S9:∀g g':ah,ao none (.ptr b 0) (λz=>(h++g++g')[z]?)=dC none 0 (.b [.str n]):=λg g'=>az (by rw[YV,c7 _ hlt];exact hb)
 unfold bG;refine Ws (A3 @hld @S9 @kf) ?_;refine WF.val (bH.zR T.m123 T.c123 (r123 T x)) ?_;rintro _ g1 rfl;exact zv
def r142{L s}(hs:aK h s 3 (L.map bG))(hl:L.length<2^63)(n:By):aA P 142 [s,.str n] h (λv _=>v=.i (de (λx=>decide (x.name=n)) L)):=by
 refine .of T.mix T.c142 ?_;unfold fn142 gA;refine Wn ?_;refine WF.ce T.c230 (r230 T (hs.ext (by repeat first|exact Ext.refl _|refine Ext.app _ ?_)) hl (λx=>decide (x.name=n)) (λx hx k e=>bH.of (a:=[]) (c:=[.ptr h.length 0]) T.c231 (r231 T x (e.some a8)))) λg1=>?_
 exact Wn Tv
def r322(x:rX):aA P 322 [.agg (cp x)] h (λv _=>v=.str x.name):=by
 refine .of T.mix T.c322 ?_;unfold fn322 gA cp;exact Wn Tv
def r233(x:rX){b n}(hb:h[b]? =some (.b [.str n])):aA P 233 [.agg (cp x),.ptr b 0] h (λv _=>v=.bool (decide (x.name=n))):=by
 refine .of T.mix T.c233 ?_;unfold fn233 gA;have hlt:=(YU.1 hb).1;have hld:∀g:ah,ao none (.ptr b 0) (λz=>(h++g)[z]?)=dC none 0 (.b [.str n]):=λg=>az (by rw[c7 _ hlt];exact hb)
 have S9:∀g g':ah,ao none (.ptr b 0) (λz=>(h++g++g')[z]?)=dC none 0 (.b [.str n]):=λg g'=>az (by rw[YV,c7 _ hlt];exact hb)
 unfold cp;refine Ws (A3 @hld @S9 @kf) ?_;refine WF.val (bH.zR T.m322 T.c322 (r322 T x)) ?_;rintro _ g1 rfl;exact zv
def r143{L s}(hs:aK h s 2 (L.map cp))(hl:L.length<2^63)(n:By):aA P 143 [s,.str n] h (λv _=>v=.i (de (λx=>decide (x.name=n)) L)):=by
 refine .of T.mix T.c143 ?_;unfold fn143 gA;refine Wn ?_;refine WF.ce T.c232 (r232 T (hs.ext (by repeat first|exact Ext.refl _|refine Ext.app _ ?_)) hl (λx=>decide (x.name=n)) (λx hx k e=>bH.of (a:=[]) (c:=[.ptr h.length 0]) T.c233 (r233 T x (e.some a8)))) λg1=>?_
 exact Wn Tv
def r140(x:jR×AV)(ho:x.2.one=true):aA P 140 [.agg (aU x)] h (λv _=>v=.str x.1.name):=by
 refine .of T.mix T.c140 ?_;unfold fn140 gA aU;exact Ws @ho Tv
def r229(x:jR×AV)(ho:x.2.one=true){b n}(hb:h[b]? =some (.b [.str n])):aA P 229 [.agg (aU x),.ptr b 0] h (λv _=>v=.bool (decide (x.1.name=n))):=by
 refine .of T.mix T.c229 ?_;unfold fn229 gA;have hlt:=(YU.1 hb).1;have hld:∀g:ah,ao none (.ptr b 0) (λz=>(h++g)[z]?)=dC none 0 (.b [.str n]):=λg=>az (by rw[c7 _ hlt];exact hb)
 have S9:∀g g':ah,ao none (.ptr b 0) (λz=>(h++g++g')[z]?)=dC none 0 (.b [.str n]):=λg g'=>az (by rw[YV,c7 _ hlt];exact hb)
 unfold aU;refine Ws (A4 @hld @S9 @ho @kf) ?_;refine WF.val (bH.zR T.m140 T.c140 (r140 T x ho)) ?_;rintro _ g1 rfl;exact zv
def r136{L s}(hs:aK h s 3 (L.map aU))(ho:∀x∈L,x.2.one=true)(hl:L.length<2^63)(n:By):aA P 136 [s,.str n] h (λv _=>v=.i (de (λx=>decide (x.1.name=n)) L)):=by
 refine .of T.mix T.c136 ?_;unfold fn136 gA;refine Wn ?_;refine WF.ce T.c228 (r228 T (hs.ext (by repeat first|exact Ext.refl _|refine Ext.app _ ?_)) hl (λx=>decide (x.1.name=n)) (λx hx k e=>bH.of (a:=[]) (c:=[.ptr h.length 0]) T.c229 (r229 T x (ho x hx) (e.some a8)))) λg1=>?_
 exact Wn Tv
def r120(x:gY×AV)(ho:x.2.one=true):aA P 120 [.agg (aM x)] h (λv _=>v=.str x.1.name):=by
 refine .of T.mix T.c120 ?_;unfold fn120 gA aM;exact Ws @ho Tv
def r235(x:gY×AV)(ho:x.2.one=true){b n}(hb:h[b]? =some (.b [.str n])):aA P 235 [.agg (aM x),.ptr b 0] h (λv _=>v=.bool (decide (x.1.name=n))):=by
 refine .of T.mix T.c235 ?_;unfold fn235 gA;have hlt:=(YU.1 hb).1;have hld:∀g:ah,ao none (.ptr b 0) (λz=>(h++g)[z]?)=dC none 0 (.b [.str n]):=λg=>az (by rw[c7 _ hlt];exact hb)
 have S9:∀g g':ah,ao none (.ptr b 0) (λz=>(h++g++g')[z]?)=dC none 0 (.b [.str n]):=λg g'=>az (by rw[YV,c7 _ hlt];exact hb)
 unfold aM;refine Ws (A4 @hld @S9 @ho @kf) ?_;refine WF.val (bH.zR T.m120 T.c120 (r120 T x ho)) ?_;rintro _ g1 rfl;exact zv
def r144{L s}(hs:aK h s 4 (L.map aM))(ho:∀x∈L,x.2.one=true)(hl:L.length<2^63)(n:By):aA P 144 [s,.str n] h (λv _=>v=.i (de (λx=>decide (x.1.name=n)) L)):=by
 refine .of T.mix T.c144 ?_;unfold fn144 gA;refine Wn ?_;refine WF.ce T.c234 (r234 T (hs.ext (by repeat first|exact Ext.refl _|refine Ext.app _ ?_)) hl (λx=>decide (x.1.name=n)) (λx hx k e=>bH.of (a:=[]) (c:=[.ptr h.length 0]) T.c235 (r235 T x (ho x hx) (e.some a8)))) λg1=>?_
 exact Wn Tv
def r324(x:kY×AV)(ho:x.2.one=true):aA P 324 [.agg (bB x)] h (λv _=>v=.str x.1.name):=by
 refine .of T.mix T.c324 ?_;unfold fn324 gA bB;exact Ws @ho Tv
def r237(x:kY×AV)(ho:x.2.one=true){b n}(hb:h[b]? =some (.b [.str n])):aA P 237 [.agg (bB x),.ptr b 0] h (λv _=>v=.bool (decide (x.1.name=n))):=by
 refine .of T.mix T.c237 ?_;unfold fn237 gA;have hlt:=(YU.1 hb).1;have hld:∀g:ah,ao none (.ptr b 0) (λz=>(h++g)[z]?)=dC none 0 (.b [.str n]):=λg=>az (by rw[c7 _ hlt];exact hb)
 have S9:∀g g':ah,ao none (.ptr b 0) (λz=>(h++g++g')[z]?)=dC none 0 (.b [.str n]):=λg g'=>az (by rw[YV,c7 _ hlt];exact hb)
 unfold bB;refine Ws (A4 @hld @S9 @ho @kf) ?_;refine WF.val (bH.zR T.m324 T.c324 (r324 T x ho)) ?_;rintro _ g1 rfl;exact zv
def r145{L s}(hs:aK h s 3 (L.map bB))(ho:∀x∈L,x.2.one=true)(hl:L.length<2^63)(n:By):aA P 145 [s,.str n] h (λv _=>v=.i (de (λx=>decide (x.1.name=n)) L)):=by
 refine .of T.mix T.c145 ?_;unfold fn145 gA;refine Wn ?_;refine WF.ce T.c236 (r236 T (hs.ext (by repeat first|exact Ext.refl _|refine Ext.app _ ?_)) hl (λx=>decide (x.1.name=n)) (λx hx k e=>bH.of (a:=[]) (c:=[.ptr h.length 0]) T.c237 (r237 T x (ho x hx) (e.some a8)))) λg1=>?_
 exact Wn Tv
def r323(x:qm):aA P 323 [.agg (cw x)] h (λv _=>v=.str x.name):=by
 refine .of T.mix T.c323 ?_;unfold fn323 gA cw;exact Wn Tv
def r239(x:qm){b n}(hb:h[b]? =some (.b [.str n])):aA P 239 [.agg (cw x),.ptr b 0] h (λv _=>v=.bool (decide (x.name=n))):=by
 refine .of T.mix T.c239 ?_;unfold fn239 gA;have hlt:=(YU.1 hb).1;have hld:∀g:ah,ao none (.ptr b 0) (λz=>(h++g)[z]?)=dC none 0 (.b [.str n]):=λg=>az (by rw[c7 _ hlt];exact hb)
 have S9:∀g g':ah,ao none (.ptr b 0) (λz=>(h++g++g')[z]?)=dC none 0 (.b [.str n]):=λg g'=>az (by rw[YV,c7 _ hlt];exact hb)
 unfold cw;refine Ws (A3 @hld @S9 @kf) ?_;refine WF.val (bH.zR T.m323 T.c323 (r323 T x)) ?_;rintro _ g1 rfl;exact zv
def r146{L s}(hs:aK h s 4 (L.map cw))(hl:L.length<2^63)(n:By):aA P 146 [s,.str n] h (λv _=>v=.i (de (λx=>decide (x.name=n)) L)):=by
 refine .of T.mix T.c146 ?_;unfold fn146 gA;refine Wn ?_;refine WF.ce T.c238 (r238 T (hs.ext (by repeat first|exact Ext.refl _|refine Ext.app _ ?_)) hl (λx=>decide (x.name=n)) (λx hx k e=>bH.of (a:=[]) (c:=[.ptr h.length 0]) T.c239 (r239 T x (e.some a8)))) λg1=>?_
 exact Wn Tv
end
def aK.Oy{h s es cs}(hs:aK h s es cs):(s=.af/\cs=[])\/(∀neg:Bool,nv neg (mz .D1 s .af)=some (.bool neg)):=by
 cases hs with
 |nil=>exact .inl ⟨rfl,rfl⟩
 |mk hb hf ho he=>right;intro neg;cases neg<;>rfl
def B6:nv false (mz .D1 .af .af)=some (.bool true):=rfl
attribute [local irreducible] WP WC WE WB WR WF WL WG fR
section
variable {P:Program}(T:fA P) {h:ah}
include T
def r177{s cs}(hs:aK h s 1 cs)(hl:cs.length<=2^40):aA P 177 [s] h (λv h'=>Fr h.length h' v 1 cs):=by
 refine .of T.mix T.c177 ?_;unfold fn177 gA;exact z28
def r178{s cs}(hs:aK h s 1 cs)(hl:cs.length<=2^40):aA P 178 [s] h (λv h'=>Fr h.length h' v 1 cs):=by
 refine .of T.mix T.c178 ?_;unfold fn178 gA;exact z28
def r179{s cs}(hs:aK h s 2 cs)(hl:cs.length<=2^40):aA P 179 [s] h (λv h'=>Fr h.length h' v 2 cs):=by
 refine .of T.mix T.c179 ?_;unfold fn179 gA;exact z28
def r181(x:jR×AV)(hx:aK h x.2 1 (x.1.aE.map aq))(hl:x.1.aE.length<=2^40):aA P 181 [.agg (aU x)] h (λv h'=>∃s',v=.agg (aU (x.1,s'))/\Fr h.length h' s' 1 (x.1.aE.map aq)):=by
 refine .of T.mix T.c181 ?_;obtain⟨ts,RD⟩:∃ts,ts=aV 8 [.agg (aU x)]:=⟨_,rfl⟩;have hlen:ts.length=8:=by rw[RD];rfl
 have t0:slot ts 0=.agg (aU x):=by rw[RD];rfl
 unfold fn181 gA;show WC P bJ _ [] (aV 8 [.agg (aU x)]) h _;rw[<-RD];clear RD;have o1:=hx.one;unfold aU at t0 ⊢;exact Ql
def r183(x:gY×AV)(hx:aK h x.2 1 (x.1.bo.map aq))(hl:x.1.bo.length<=2^40):aA P 183 [.agg (aM x)] h (λv h'=>∃s',v=.agg (aM (x.1,s'))/\Fr h.length h' s' 1 (x.1.bo.map aq)):=by
 refine .of T.mix T.c183 ?_;obtain⟨ts,RD⟩:∃ts,ts=aV 8 [.agg (aM x)]:=⟨_,rfl⟩;have hlen:ts.length=8:=by rw[RD];rfl
 have t0:slot ts 0=.agg (aM x):=by rw[RD];rfl
 unfold fn183 gA;show WC P bJ _ [] (aV 8 [.agg (aM x)]) h _;rw[<-RD];clear RD;have o1:=hx.one;unfold aM at t0 ⊢;exact Ql
def r185(x:kY×AV)(hx:aK h x.2 1 (x.1.bt.map aL))(hl:x.1.bt.length<=2^40):aA P 185 [.agg (bB x)] h (λv h'=>∃s',v=.agg (bB (x.1,s'))/\Fr h.length h' s' 1 (x.1.bt.map aL)):=by
 refine .of T.mix T.c185 ?_;obtain⟨ts,RD⟩:∃ts,ts=aV 8 [.agg (bB x)]:=⟨_,rfl⟩;have hlen:ts.length=8:=by rw[RD];rfl
 have t0:slot ts 0=.agg (bB x):=by rw[RD];rfl
 unfold fn185 gA;show WC P bJ _ [] (aV 8 [.agg (bB x)]) h _;rw[<-RD];clear RD;have o1:=hx.one;unfold bB at t0 ⊢;refine Rs (A2 t0 @o1) ?_;refine WF.res T.c178 (r178 T (hx.ext Xx) (by simp;omega)) ?_;rintro s' g1 hf;have o2:=hf.aW.one;refine Rs (A3 t0 @o1 @o2) ?_;exact⟨s',rfl,(Fr.swap hf Si).low Si⟩
set_option maxRecDepth 10000 in
def r91(x:EV)(hx:bh h x)(hl:x.ev.names.length<=2^40/\x.ev.cB.length<=2^40):aA P 91 [.agg x.row] h (λv h'=>∃x':EV,x'.ev=x.ev/\v=.agg x'.row/\Fr h.length h' x'.sn 1 (x.ev.names.map aq)/\Fr h.length h' x'.sv 1 (x.ev.cB.map aL)):=by
 refine .of T.mix T.c91 ?_;obtain⟨ts,RD⟩:∃ts,ts=aV 12 [.agg x.row]:=⟨_,rfl⟩;have hlen:ts.length=12:=by rw[RD];rfl
 have t0:slot ts 0=.agg x.row:=by rw[RD];rfl
 unfold fn91;show WC P bJ _ [] (aV 12 [.agg x.row]) h _;rw[<-RD];clear RD;have o1:=hx.n.one;have o2:=hx.v.one;unfold EV.row at t0 ⊢;refine Rs (A3 t0 @o1 @o2) ?_;refine WF.res T.c177 (r177 T (hx.n.ext Xx) (by simp;omega)) ?_;rintro s1 g1 Va;have o3:=Va.aW.one;refine Rs (A4 t0 @o1 @o2 @o3) ?_;refine WF.res T.c178 (r178 T (hx.v.ext Xx) (by simp;omega)) ?_;rintro s2 g2 Uq;have o4:=Uq.aW.one;refine Rs (A5 t0 @o1 @o2 @o3 @o4) ?_;refine⟨⟨x.ev,s1,s2⟩,rfl,rfl,?_,?_⟩
 ·exact((Fr.swap Va Si).app _).low Si
 ·exact(Fr.swap Uq Si).low Si
def r130{L:List (By)}{s f:AV}(hs:aK h s 1 (L.map aq))(hl:L.length<=2^40)(F:(By)->Int)(hf:∀x,x∈L->∀k,Ext h k->bH P f [.str x] k (λv _=>v=.i (F x))):
  aA P 130 [s,f] h (λv h'=>Fr h.length h' v 1 ((L.map F).map aL)):=by
 refine .of T.mix T.c130 ?_;unfold fn130 gA;refine Ws hs.aH ?_;refine WL.inv T.mix (λn ts h'=>∃(k:Nat) (out:AV),k<=L.length/\n=L.length-k/\Ext h h'/\Fr h.length h' out 1 (((L.take k).map F).map aL)/\ts.length=22/\slot ts 1=f/\slot ts 5=out/\slot ts 8=s/\slot ts 9=.i L.length/\slot ts 10=.i k) L.length
  ⟨0,.af,Om,rfl,Ext.refl h,.nil,rfl,rfl,rfl,rfl,rfl,rfl⟩ ?_
 rintro _ ts _ ⟨k,out,hk,rfl,⟨g,rfl⟩,hfr,hlen,t1,t5,t8,t9,t10⟩;rw[lG ts 22 hlen];by_cases hlt:k<L.length
 ·have e3:(k:Int)<L.length:=Om
  have hvk:=hf L[k] Si;have Wz:∀{kk:ah},Ext h kk->ao none (cI s 1 k) (λb=>kk[b]?)=some (.str L[k],.ar):=λ{kk} e=>hs.kS hlt rfl e
  simp only[aO,aQ,aY,aZ,reduceAdd,reduceMul,reduceLeDiff,reduceEqDiff,t1,t5,t8,t9,t10,e3,Zp,hs.c8 hlt,Wz];refine WF.val (hvk _ (by repeat first|exact Ext.refl _|refine Ext.app _ ?_)) ?_;rintro _ g1 rfl;refine Wn ?_;refine WR.ff (h0:=h) (cs:=((L.take k).map F).map aL) (ys:=[aL (F L[k])]) (((hfr.app _).app _)) (Fr.push (N:=0) (ZA _) [aL (F L[k])] (by simp[aL])).aW De Si (by simp;omega) (by simp only[sE]) ?_;intro g' RJ hff hkp;have hrow:((L.take k).map F).map aL++[aL (F L[k])]=((L.take (k+1)).map F).map aL:=by rw[ZJ,YZ hlt,Y9,Y9];rfl
  exact z6
 ·exact z5
def r92{L:List (Int)}{s f:AV}(hs:aK h s 1 (L.map aL))(hl:L.length<=2^40)(F:(Int)->Int)(hf:∀x,x∈L->∀k,Ext h k->bH P f [.i x] k (λv _=>v=.i (F x))):
  aA P 92 [s,f] h (λv h'=>Fr h.length h' v 1 ((L.map F).map aL)):=by
 refine .of T.mix T.c92 ?_;unfold fn92 Kl;refine Ws hs.aH ?_;refine WL.inv T.mix (λn ts h'=>∃(k:Nat) (out:AV),k<=L.length/\n=L.length-k/\Ext h h'/\Fr h.length h' out 1 (((L.take k).map F).map aL)/\ts.length=22/\slot ts 1=f/\slot ts 5=out/\slot ts 8=s/\slot ts 9=.i L.length/\slot ts 10=.i k) L.length
  ⟨0,.af,Om,rfl,Ext.refl h,.nil,rfl,rfl,rfl,rfl,rfl,rfl⟩ ?_
 rintro _ ts _ ⟨k,out,hk,rfl,⟨g,rfl⟩,hfr,hlen,t1,t5,t8,t9,t10⟩;rw[lG ts 22 hlen];by_cases hlt:k<L.length
 ·have e3:(k:Int)<L.length:=Om
  have hvk:=hf L[k] Si;have Wz:∀{kk:ah},Ext h kk->ao none (cI s 1 k) (λb=>kk[b]?)=some (.i L[k],.ar):=λ{kk} e=>hs.kS hlt rfl e
  simp only[aO,aQ,aY,aZ,reduceAdd,reduceMul,reduceLeDiff,reduceEqDiff,t1,t5,t8,t9,t10,e3,Zp,hs.c8 hlt,Wz];refine WF.val (hvk _ (by repeat first|exact Ext.refl _|refine Ext.app _ ?_)) ?_;rintro _ g1 rfl;refine Wn ?_;refine WR.ff (h0:=h) (cs:=((L.take k).map F).map aL) (ys:=[aL (F L[k])]) (((hfr.app _).app _)) (Fr.push (N:=0) (ZA _) [aL (F L[k])] (by simp[aL])).aW De Si (by simp;omega) (by simp only[sE]) ?_;intro g' RJ hff hkp;have hrow:((L.take k).map F).map aL++[aL (F L[k])]=((L.take (k+1)).map F).map aL:=by rw[ZJ,YZ hlt,Y9,Y9];rfl
  exact z6
 ·exact z5
def r199{L:List (Int)}{s f:AV}(hs:aK h s 1 (L.map aL))(hl:L.length<=2^40)(F:(Int)->By)(hf:∀x,x∈L->∀k,Ext h k->bH P f [.i x] k (λv _=>v=.str (F x))):
  aA P 199 [s,f] h (λv h'=>Fr h.length h' v 1 ((L.map F).map aq)):=by
 refine .of T.mix T.c199 ?_;unfold fn199 gA;refine Ws hs.aH ?_;refine WL.inv T.mix (λn ts h'=>∃(k:Nat) (out:AV),k<=L.length/\n=L.length-k/\Ext h h'/\Fr h.length h' out 1 (((L.take k).map F).map aq)/\ts.length=22/\slot ts 1=f/\slot ts 5=out/\slot ts 8=s/\slot ts 9=.i L.length/\slot ts 10=.i k) L.length
  ⟨0,.af,Om,rfl,Ext.refl h,.nil,rfl,rfl,rfl,rfl,rfl,rfl⟩ ?_
 rintro _ ts _ ⟨k,out,hk,rfl,⟨g,rfl⟩,hfr,hlen,t1,t5,t8,t9,t10⟩;rw[lG ts 22 hlen];by_cases hlt:k<L.length
 ·have e3:(k:Int)<L.length:=Om
  have hvk:=hf L[k] Si;have Wz:∀{kk:ah},Ext h kk->ao none (cI s 1 k) (λb=>kk[b]?)=some (.i L[k],.ar):=λ{kk} e=>hs.kS hlt rfl e
  simp only[aO,aQ,aY,aZ,reduceAdd,reduceMul,reduceLeDiff,reduceEqDiff,t1,t5,t8,t9,t10,e3,Zp,hs.c8 hlt,Wz];refine WF.val (hvk _ (by repeat first|exact Ext.refl _|refine Ext.app _ ?_)) ?_;rintro _ g1 rfl;refine Wn ?_;refine WR.ff (h0:=h) (cs:=((L.take k).map F).map aq) (ys:=[aq (F L[k])]) (((hfr.app _).app _)) (Fr.push (N:=0) (ZA _) [aq (F L[k])] (by simp[aq])).aW De Si (by simp;omega) (by simp only[sE]) ?_;intro g' RJ hff hkp;have hrow:((L.take k).map F).map aq++[aq (F L[k])]=((L.take (k+1)).map F).map aq:=by rw[ZJ,YZ hlt,Y9,Y9];rfl
  exact z6
 ·exact z5
def r137{L:List (jR×AV)}{s f:AV}(hs:aK h s 3 (L.map aU))(ho:∀x∈L,x.2.one=true)(hl:L.length<=2^40)(F:(jR×AV)->By)(hf:∀x,x∈L->∀k,Ext h k->bH P f [.agg (aU x)] k (λv _=>v=.str (F x))):
  aA P 137 [s,f] h (λv h'=>Fr h.length h' v 1 ((L.map F).map aq)):=by
 refine .of T.mix T.c137 ?_;unfold fn137 gA;refine Ws hs.aH ?_;refine WL.inv T.mix (λn ts h'=>∃(k:Nat) (out:AV),k<=L.length/\n=L.length-k/\Ext h h'/\Fr h.length h' out 1 (((L.take k).map F).map aq)/\ts.length=22/\slot ts 1=f/\slot ts 5=out/\slot ts 8=s/\slot ts 9=.i L.length/\slot ts 10=.i k) L.length
  ⟨0,.af,Om,rfl,Ext.refl h,.nil,rfl,rfl,rfl,rfl,rfl,rfl⟩ ?_
 rintro _ ts _ ⟨k,out,hk,rfl,⟨g,rfl⟩,hfr,hlen,t1,t5,t8,t9,t10⟩;rw[lG ts 22 hlen];by_cases hlt:k<L.length
 ·have e3:(k:Int)<L.length:=Om
  have hvk:=hf L[k] Si;simp only[aO,aQ,aY,aZ,reduceAdd,reduceMul,reduceLeDiff,reduceEqDiff,t1,t5,t8,t9,t10,e3,Zp,hs.c8 hlt,hs.gS hlt,aU,ho L[k] Si];exact z4
 ·exact z5
def r121{L:List (gZ)}{s f:AV}(hs:aK h s 3 (L.map bG))(hl:L.length<=2^40)(F:(gZ)->By)(hf:∀x,x∈L->∀k,Ext h k->bH P f [.agg (bG x)] k (λv _=>v=.str (F x))):
  aA P 121 [s,f] h (λv h'=>Fr h.length h' v 1 ((L.map F).map aq)):=by
 refine .of T.mix T.c121 ?_;unfold fn121 gA;refine Ws hs.aH ?_;refine WL.inv T.mix (λn ts h'=>∃(k:Nat) (out:AV),k<=L.length/\n=L.length-k/\Ext h h'/\Fr h.length h' out 1 (((L.take k).map F).map aq)/\ts.length=22/\slot ts 1=f/\slot ts 5=out/\slot ts 8=s/\slot ts 9=.i L.length/\slot ts 10=.i k) L.length
  ⟨0,.af,Om,rfl,Ext.refl h,.nil,rfl,rfl,rfl,rfl,rfl,rfl⟩ ?_
 rintro _ ts _ ⟨k,out,hk,rfl,⟨g,rfl⟩,hfr,hlen,t1,t5,t8,t9,t10⟩;rw[lG ts 22 hlen];by_cases hlt:k<L.length
 ·have e3:(k:Int)<L.length:=Om
  have hvk:=hf L[k] Si;simp only[aO,aQ,aY,aZ,reduceAdd,reduceMul,reduceLeDiff,reduceEqDiff,t1,t5,t8,t9,t10,e3,Zp,hs.c8 hlt,hs.gS hlt,bG];exact z4
 ·exact z5
def r117{L:List (gY×AV)}{s f:AV}(hs:aK h s 4 (L.map aM))(ho:∀x∈L,x.2.one=true)(hl:L.length<=2^40)(F:(gY×AV)->By)(hf:∀x,x∈L->∀k,Ext h k->bH P f [.agg (aM x)] k (λv _=>v=.str (F x))):
  aA P 117 [s,f] h (λv h'=>Fr h.length h' v 1 ((L.map F).map aq)):=by
 refine .of T.mix T.c117 ?_;unfold fn117 gA;refine Ws hs.aH ?_;refine WL.inv T.mix (λn ts h'=>∃(k:Nat) (out:AV),k<=L.length/\n=L.length-k/\Ext h h'/\Fr h.length h' out 1 (((L.take k).map F).map aq)/\ts.length=22/\slot ts 1=f/\slot ts 5=out/\slot ts 8=s/\slot ts 9=.i L.length/\slot ts 10=.i k) L.length
  ⟨0,.af,Om,rfl,Ext.refl h,.nil,rfl,rfl,rfl,rfl,rfl,rfl⟩ ?_
 rintro _ ts _ ⟨k,out,hk,rfl,⟨g,rfl⟩,hfr,hlen,t1,t5,t8,t9,t10⟩;rw[lG ts 22 hlen];by_cases hlt:k<L.length
 ·have e3:(k:Int)<L.length:=Om
  have hvk:=hf L[k] Si;simp only[aO,aQ,aY,aZ,reduceAdd,reduceMul,reduceLeDiff,reduceEqDiff,t1,t5,t8,t9,t10,e3,Zp,hs.c8 hlt,hs.gS hlt,aM,ho L[k] Si];exact z4
 ·exact z5
def r115{L:List (EV)}{s f:AV}(hs:aK h s 5 (L.map EV.row))(ho:∀x∈L,x.sn.one=true/\x.sv.one=true)(hl:L.length<=2^40)(F:(EV)->By)(hf:∀x,x∈L->∀k,Ext h k->bH P f [.agg (EV.row x)] k (λv _=>v=.str (F x))):
  aA P 115 [s,f] h (λv h'=>Fr h.length h' v 1 ((L.map F).map aq)):=by
 refine .of T.mix T.c115 ?_;unfold fn115 gA;refine Ws hs.aH ?_;refine WL.inv T.mix (λn ts h'=>∃(k:Nat) (out:AV),k<=L.length/\n=L.length-k/\Ext h h'/\Fr h.length h' out 1 (((L.take k).map F).map aq)/\ts.length=22/\slot ts 1=f/\slot ts 5=out/\slot ts 8=s/\slot ts 9=.i L.length/\slot ts 10=.i k) L.length
  ⟨0,.af,Om,rfl,Ext.refl h,.nil,rfl,rfl,rfl,rfl,rfl,rfl⟩ ?_
 rintro _ ts _ ⟨k,out,hk,rfl,⟨g,rfl⟩,hfr,hlen,t1,t5,t8,t9,t10⟩;rw[lG ts 22 hlen];by_cases hlt:k<L.length
 ·have e3:(k:Int)<L.length:=Om
  have hvk:=hf L[k] Si;simp only[aO,aQ,aY,aZ,reduceAdd,reduceMul,reduceLeDiff,reduceEqDiff,t1,t5,t8,t9,t10,e3,Zp,hs.c8 hlt,hs.gS hlt,EV.row,(ho L[k] Si).1,(ho L[k] Si).2];exact z4
 ·exact z5
set_option maxRecDepth 10000 in
def r138{L:List (jR×AV)}{s f:AV}(hs:aK h s 3 (L.map aU))(ho:∀x∈L,x.2.one=true)(hl:L.length<=2^38)(p:(jR×AV)->Bool)(hf:∀x,x∈L->∀k,Ext h k->bH P f [.agg (aU x)] k (λv _=>v=.bool (p x))):
  aA P 138 [s,f] h (λv h'=>Fr h.length h' v 3 ((L.filter p).map aU)):=by
 refine .of T.mix T.c138 ?_;unfold fn138 gA;refine Ws hs.aH ?_;refine WL.inv T.mix (λn ts h'=>∃(k:Nat) (out:AV),k<=L.length/\n=L.length-k/\Ext h h'/\Fr h.length h' out 3 (((L.take k).filter p).map aU)/\ts.length=23/\slot ts 1=f/\slot ts 5=out/\slot ts 8=s/\slot ts 9=.i L.length/\slot ts 10=.i k) L.length
  ⟨0,.af,Om,rfl,Ext.refl h,.nil,rfl,rfl,rfl,rfl,rfl,rfl⟩ ?_
 rintro _ ts _ ⟨k,out,hk,rfl,⟨g,rfl⟩,hfr,hlen,t1,t5,t8,t9,t10⟩;rw[lG ts 23 hlen];by_cases hlt:k<L.length
 ·have e3:(k:Int)<L.length:=Om
  have hvk:=hf L[k] Si;have RX:(L.take (k+1)).filter p=(L.take k).filter p++(if p L[k]=true then [L[k]]else []):=by
   exact M1
  have R7:((L.take k).filter p).length<=L.length:=ZR (ZM _ _) (by rw[ZQ];omega);simp only[aO,aQ,aY,aZ,reduceAdd,reduceMul,reduceLeDiff,reduceEqDiff,t1,t5,t8,t9,t10,e3,Zp,hs.c8 hlt,hs.gS hlt,aU,ho L[k] Si];refine WF.val (hvk _ (by repeat first|exact Ext.refl _|refine Ext.app _ ?_)) ?_;rintro _ g1 rfl;cases hp:p L[k]with
  |true=>
   rw[hp,Zh rfl]at RX;simp only[aO,aQ,aY,aZ,reduceAdd,reduceMul,reduceLeDiff,reduceEqDiff,ho L[k] Si];refine WR.ff (h0:=h) (cs:=((L.take k).filter p).map aU) (ys:=[aU L[k]]) (((hfr.app _).app _).app _) (Fr.push (N:=0) (ZA _) [aU L[k]] (by simp[aU])).aW De Si (by simp only[Y7,YX,Y6];omega) (by simp only[sE]) ?_;intro g' RJ hff hkp;have hrow:((L.take k).filter p).map aU++[aU L[k]]=((L.take (k+1)).filter p).map aU:=by rw[RX,Y9];rfl
   exact z6
  |false=>
   exact M7
 ·exact z5
set_option maxRecDepth 10000 in
def r216{L:List (gZ)}{s f:AV}(hs:aK h s 3 (L.map bG))(hl:L.length<=2^38)(p:(gZ)->Bool)(hf:∀x,x∈L->∀k,Ext h k->bH P f [.agg (bG x)] k (λv _=>v=.bool (p x))):
  aA P 216 [s,f] h (λv h'=>Fr h.length h' v 3 ((L.filter p).map bG)):=by
 refine .of T.mix T.c216 ?_;unfold fn216 gA;refine Ws hs.aH ?_;refine WL.inv T.mix (λn ts h'=>∃(k:Nat) (out:AV),k<=L.length/\n=L.length-k/\Ext h h'/\Fr h.length h' out 3 (((L.take k).filter p).map bG)/\ts.length=23/\slot ts 1=f/\slot ts 5=out/\slot ts 8=s/\slot ts 9=.i L.length/\slot ts 10=.i k) L.length
  ⟨0,.af,Om,rfl,Ext.refl h,.nil,rfl,rfl,rfl,rfl,rfl,rfl⟩ ?_
 rintro _ ts _ ⟨k,out,hk,rfl,⟨g,rfl⟩,hfr,hlen,t1,t5,t8,t9,t10⟩;rw[lG ts 23 hlen];by_cases hlt:k<L.length
 ·have e3:(k:Int)<L.length:=Om
  have hvk:=hf L[k] Si;have RX:(L.take (k+1)).filter p=(L.take k).filter p++(if p L[k]=true then [L[k]]else []):=by
   exact M1
  have R7:((L.take k).filter p).length<=L.length:=ZR (ZM _ _) (by rw[ZQ];omega);simp only[aO,aQ,aY,aZ,reduceAdd,reduceMul,reduceLeDiff,reduceEqDiff,t1,t5,t8,t9,t10,e3,Zp,hs.c8 hlt,hs.gS hlt,bG];refine WF.val (hvk _ (by repeat first|exact Ext.refl _|refine Ext.app _ ?_)) ?_;rintro _ g1 rfl;cases hp:p L[k]with
  |true=>
   rw[hp,Zh rfl]at RX;refine Wn ?_;refine WR.ff (h0:=h) (cs:=((L.take k).filter p).map bG) (ys:=[bG L[k]]) (((hfr.app _).app _).app _) (Fr.push (N:=0) (ZA _) [bG L[k]] (by simp[bG])).aW De Si (by simp only[Y7,YX,Y6];omega) (by simp only[sE]) ?_;intro g' RJ hff hkp;have hrow:((L.take k).filter p).map bG++[bG L[k]]=((L.take (k+1)).filter p).map bG:=by rw[RX,Y9];rfl
   exact z6
  |false=>
   exact M7
 ·exact z5
set_option maxRecDepth 10000 in
def r88{L:List (EV)}{s f:AV}(hs:aK h s 5 (L.map EV.row))(ho:∀x∈L,x.sn.one=true/\x.sv.one=true)(hl:L.length<=2^38)(p:(EV)->Bool)(hf:∀x,x∈L->∀k,Ext h k->bH P f [.agg (EV.row x)] k (λv _=>v=.bool (p x))):
  aA P 88 [s,f] h (λv h'=>Fr h.length h' v 5 ((L.filter p).map EV.row)):=by
 refine .of T.mix T.c88 ?_;unfold fn88 gA;refine Ws hs.aH ?_;refine WL.inv T.mix (λn ts h'=>∃(k:Nat) (out:AV),k<=L.length/\n=L.length-k/\Ext h h'/\Fr h.length h' out 5 (((L.take k).filter p).map EV.row)/\ts.length=23/\slot ts 1=f/\slot ts 5=out/\slot ts 8=s/\slot ts 9=.i L.length/\slot ts 10=.i k) L.length
  ⟨0,.af,Om,rfl,Ext.refl h,.nil,rfl,rfl,rfl,rfl,rfl,rfl⟩ ?_
 rintro _ ts _ ⟨k,out,hk,rfl,⟨g,rfl⟩,hfr,hlen,t1,t5,t8,t9,t10⟩;rw[lG ts 23 hlen];by_cases hlt:k<L.length
 ·have e3:(k:Int)<L.length:=Om
  have hvk:=hf L[k] Si;have RX:(L.take (k+1)).filter p=(L.take k).filter p++(if p L[k]=true then [L[k]]else []):=by
   exact M1
  have R7:((L.take k).filter p).length<=L.length:=ZR (ZM _ _) (by rw[ZQ];omega);simp only[aO,aQ,aY,aZ,reduceAdd,reduceMul,reduceLeDiff,reduceEqDiff,t1,t5,t8,t9,t10,e3,Zp,hs.c8 hlt,hs.gS hlt,EV.row,(ho L[k] Si).1,(ho L[k] Si).2];refine WF.val (hvk _ (by repeat first|exact Ext.refl _|refine Ext.app _ ?_)) ?_;rintro _ g1 rfl;cases hp:p L[k]with
  |true=>
   rw[hp,Zh rfl]at RX;simp only[aO,aQ,aY,aZ,reduceAdd,reduceMul,reduceLeDiff,reduceEqDiff,(ho L[k] Si).1,(ho L[k] Si).2];refine WR.ff (h0:=h) (cs:=((L.take k).filter p).map EV.row) (ys:=[EV.row L[k]]) (((hfr.app _).app _).app _) (Fr.push (N:=0) (ZA _) [EV.row L[k]] (by simp[EV.row])).aW De Si (by simp only[Y7,YX,Y6];omega) (by simp only[sE]) ?_;intro g' RJ hff hkp;have hrow:((L.take k).filter p).map EV.row++[EV.row L[k]]=((L.take (k+1)).filter p).map EV.row:=by rw[RX,Y9];rfl
   exact z6
  |false=>
   exact M7
 ·exact z5
end
section
variable {P:Program}(T:fA P) {h:ah}
include T
set_option maxRecDepth 10000 in
def r180{L:List (jR×AV)}{s:AV}(hs:aK h s 3 (L.map aU))(he:∀x∈L,aK h x.2 1 (x.1.aE.map aq))(hl:L.length<=2^30)(hle:∀x∈L,x.1.aE.length<=2^40):
  aA P 180 [s,.func (.func 181) [] []] h (λv h'=>∃L':List (jR×AV),L'.map Prod.fst=L.map Prod.fst/\Fr h.length h' v 3 (L'.map aU)/\(∀x∈L',Fr h.length h' x.2 1 (x.1.aE.map aq))/\k8 (sB v::L'.map λx=>sB x.2)):=by
 refine .of T.mix T.c180 ?_;unfold fn180 gA;refine Ws hs.aH ?_;refine WL.inv T.mix (λn ts h'=>∃(k:Nat) (out:AV) (L':List (jR×AV)),k<=L.length/\n=L.length-k/\Ext h h'/\L'.map Prod.fst=(L.take k).map Prod.fst/\Fr h.length h' out 3 (L'.map aU)/\(∀x∈L',Fr h.length h' x.2 1 (x.1.aE.map aq))/\k8 (sB out::L'.map λx=>sB x.2)/\
   ts.length=22/\slot ts 1=.func (.func 181) [] []/\slot ts 5=out/\slot ts 8=s/\slot ts 9=.i L.length/\slot ts 10=.i k) L.length
  ⟨0,.af,[],Om,rfl,Ext.refl h,rfl,.nil,(λx hx=>by cases hx),aax _ _,rfl,rfl,rfl,rfl,rfl,rfl⟩ ?_
 rintro _ ts _ ⟨k,out,L',hk,rfl,⟨g,rfl⟩,hm,hfr,hin,Sz,hlen,t1,t5,t8,t9,t10⟩;rw[lG ts 22 hlen];have Wr:L'.length=k:=by have:=Zv List.length hm;simp at this;omega
 by_cases hlt:k<L.length
 ·have e3:(k:Int)<L.length:=Om
  have Xv:=he L[k] Si;have T4:=hle L[k] Si;have ox:=Xv.one;have dG:∀{kk:ah},Ext h kk->ao (some 3) (cI s 3 k) (λb=>kk[b]?)=some (.agg (aU L[k]),.ar):=λ{kk} e=>hs.gS hlt e
  unfold aU at dG;simp only[aO,aQ,aY,aZ,reduceAdd,reduceMul,reduceLeDiff,reduceEqDiff,t1,t5,t8,t9,t10,e3,Zp,hs.c8 hlt,dG,ox];have hown:=λkk (e:Ext h kk)=>r181 T (h:=kk) L[k] (Xv.ext e) T4
  unfold aU at hown;refine WF.res T.c181 (hown _ (by repeat first|exact Ext.refl _|refine Ext.app _ ?_)) ?_;rintro _ g1 ⟨s',rfl,YI⟩;have os:=YI.aW.one;refine Ws @os ?_;refine WR.ff (h0:=h) (cs:=L'.map aU) (ys:=[aU (L[k].1,s')]) ((((hfr.app _).app _).app _)) (Fr.push (N:=0) (ZA _) [aU (L[k].1,s')] (by simp[aU])).aW De Si (by simp only[Y7,YX,Y6];omega) (by simp only[sE]) ?_;intro g' RJ hff hkp;have hrow:L'.map aU++[aU (L[k].1,s')]=(L'++[(L[k].1,s')]).map aU:=by rw[Y9];rfl
  exact z2
 ·exact M6
set_option maxRecDepth 10000 in
def r182{L:List (gY×AV)}{s:AV}(hs:aK h s 4 (L.map aM))(he:∀x∈L,aK h x.2 1 (x.1.bo.map aq))(hl:L.length<=2^30)(hle:∀x∈L,x.1.bo.length<=2^40):
  aA P 182 [s,.func (.func 183) [] []] h (λv h'=>∃L':List (gY×AV),L'.map Prod.fst=L.map Prod.fst/\Fr h.length h' v 4 (L'.map aM)/\(∀x∈L',Fr h.length h' x.2 1 (x.1.bo.map aq))/\k8 (sB v::L'.map λx=>sB x.2)):=by
 refine .of T.mix T.c182 ?_;unfold fn182 gA;refine Ws hs.aH ?_;refine WL.inv T.mix (λn ts h'=>∃(k:Nat) (out:AV) (L':List (gY×AV)),k<=L.length/\n=L.length-k/\Ext h h'/\L'.map Prod.fst=(L.take k).map Prod.fst/\Fr h.length h' out 4 (L'.map aM)/\(∀x∈L',Fr h.length h' x.2 1 (x.1.bo.map aq))/\k8 (sB out::L'.map λx=>sB x.2)/\
   ts.length=22/\slot ts 1=.func (.func 183) [] []/\slot ts 5=out/\slot ts 8=s/\slot ts 9=.i L.length/\slot ts 10=.i k) L.length
  ⟨0,.af,[],Om,rfl,Ext.refl h,rfl,.nil,(λx hx=>by cases hx),aax _ _,rfl,rfl,rfl,rfl,rfl,rfl⟩ ?_
 rintro _ ts _ ⟨k,out,L',hk,rfl,⟨g,rfl⟩,hm,hfr,hin,Sz,hlen,t1,t5,t8,t9,t10⟩;rw[lG ts 22 hlen];have Wr:L'.length=k:=by have:=Zv List.length hm;simp at this;omega
 by_cases hlt:k<L.length
 ·have e3:(k:Int)<L.length:=Om
  have Xv:=he L[k] Si;have T4:=hle L[k] Si;have ox:=Xv.one;have dG:∀{kk:ah},Ext h kk->ao (some 4) (cI s 4 k) (λb=>kk[b]?)=some (.agg (aM L[k]),.ar):=λ{kk} e=>hs.gS hlt e
  unfold aM at dG;simp only[aO,aQ,aY,aZ,reduceAdd,reduceMul,reduceLeDiff,reduceEqDiff,t1,t5,t8,t9,t10,e3,Zp,hs.c8 hlt,dG,ox];have hown:=λkk (e:Ext h kk)=>r183 T (h:=kk) L[k] (Xv.ext e) T4
  unfold aM at hown;refine WF.res T.c183 (hown _ (by repeat first|exact Ext.refl _|refine Ext.app _ ?_)) ?_;rintro _ g1 ⟨s',rfl,YI⟩;have os:=YI.aW.one;refine Ws @os ?_;refine WR.ff (h0:=h) (cs:=L'.map aM) (ys:=[aM (L[k].1,s')]) ((((hfr.app _).app _).app _)) (Fr.push (N:=0) (ZA _) [aM (L[k].1,s')] (by simp[aM])).aW De Si (by simp only[Y7,YX,Y6];omega) (by simp only[sE]) ?_;intro g' RJ hff hkp;have hrow:L'.map aM++[aM (L[k].1,s')]=(L'++[(L[k].1,s')]).map aM:=by rw[Y9];rfl
  exact z2
 ·exact M6
set_option maxRecDepth 10000 in
def r184{L:List (kY×AV)}{s:AV}(hs:aK h s 3 (L.map bB))(he:∀x∈L,aK h x.2 1 (x.1.bt.map aL))(hl:L.length<=2^30)(hle:∀x∈L,x.1.bt.length<=2^40):
  aA P 184 [s,.func (.func 185) [] []] h (λv h'=>∃L':List (kY×AV),L'.map Prod.fst=L.map Prod.fst/\Fr h.length h' v 3 (L'.map bB)/\(∀x∈L',Fr h.length h' x.2 1 (x.1.bt.map aL))/\k8 (sB v::L'.map λx=>sB x.2)):=by
 refine .of T.mix T.c184 ?_;unfold fn184 gA;refine Ws hs.aH ?_;refine WL.inv T.mix (λn ts h'=>∃(k:Nat) (out:AV) (L':List (kY×AV)),k<=L.length/\n=L.length-k/\Ext h h'/\L'.map Prod.fst=(L.take k).map Prod.fst/\Fr h.length h' out 3 (L'.map bB)/\(∀x∈L',Fr h.length h' x.2 1 (x.1.bt.map aL))/\k8 (sB out::L'.map λx=>sB x.2)/\
   ts.length=22/\slot ts 1=.func (.func 185) [] []/\slot ts 5=out/\slot ts 8=s/\slot ts 9=.i L.length/\slot ts 10=.i k) L.length
  ⟨0,.af,[],Om,rfl,Ext.refl h,rfl,.nil,(λx hx=>by cases hx),aax _ _,rfl,rfl,rfl,rfl,rfl,rfl⟩ ?_
 rintro _ ts _ ⟨k,out,L',hk,rfl,⟨g,rfl⟩,hm,hfr,hin,Sz,hlen,t1,t5,t8,t9,t10⟩;rw[lG ts 22 hlen];have Wr:L'.length=k:=by have:=Zv List.length hm;simp at this;omega
 by_cases hlt:k<L.length
 ·have e3:(k:Int)<L.length:=Om
  have Xv:=he L[k] Si;have T4:=hle L[k] Si;have ox:=Xv.one;have dG:∀{kk:ah},Ext h kk->ao (some 3) (cI s 3 k) (λb=>kk[b]?)=some (.agg (bB L[k]),.ar):=λ{kk} e=>hs.gS hlt e
  unfold bB at dG;simp only[aO,aQ,aY,aZ,reduceAdd,reduceMul,reduceLeDiff,reduceEqDiff,t1,t5,t8,t9,t10,e3,Zp,hs.c8 hlt,dG,ox];have hown:=λkk (e:Ext h kk)=>r185 T (h:=kk) L[k] (Xv.ext e) T4
  unfold bB at hown;refine WF.res T.c185 (hown _ (by repeat first|exact Ext.refl _|refine Ext.app _ ?_)) ?_;rintro _ g1 ⟨s',rfl,YI⟩;have os:=YI.aW.one;refine Ws @os ?_;refine WR.ff (h0:=h) (cs:=L'.map bB) (ys:=[bB (L[k].1,s')]) ((((hfr.app _).app _).app _)) (Fr.push (N:=0) (ZA _) [bB (L[k].1,s')] (by simp[bB])).aW De Si (by simp only[Y7,YX,Y6];omega) (by simp only[sE]) ?_;intro g' RJ hff hkp;have hrow:L'.map bB++[bB (L[k].1,s')]=(L'++[(L[k].1,s')]).map bB:=by rw[Y9];rfl
  exact z2
 ·exact M6
end
theorem aB.row{h V}(o:aB h V):V.row.all AV.one=true:=by
 simp only[RV.row,CY,CX,B0,o.i0.one,o.i1.one,o.i2.one,o.i3.one,o.i4.one,o.i5.one,Bool.and_self]
def aB.box{h V}(o:aB h V){N}:pE (.agg V.row) N=some (.ptr N 0,.push (.cells V.row true false)):=by
 have:(AV.agg V.row).cells=V.row:=rfl;simp only[pE,this,o.row,Zk]
def kR{V:RV}:V.row[0]? =some (.int .i64 V.tick):=rfl
def eP{V:RV}:V.row[1]? =some (V.s0):=rfl
def gR{V:RV}:V.row[2]? =some (V.s1):=rfl
def eo{V:RV}:V.row[3]? =some (V.s2):=rfl
def eE{V:RV}:V.row[4]? =some (V.s3):=rfl
def eO{V:RV}:V.row[5]? =some (V.s4):=rfl
def fy{V:RV}:V.row[6]? =some (V.s5):=rfl
def aG{V:RV}{mu tl:Bool}:dC (some 7) 0 (.cells V.row mu tl)=some (.agg V.row,.ar):=rfl
def k8.app{l m}(hl:k8 l)(hm:k8 m)(h:∀x∈l,∀y∈m,∀b,x=some b->y≠some b):k8 (l++m):=aae.2 ⟨hl,hm,h⟩
def k8.one{x}:k8 [x]:=aax _ _
theorem k8.perm{l m}(hl:k8 l)(h:l.Perm m):k8 m:=List.Pairwise.perm hl h λ{x y} hxy b hy hx=>hxy b hx hy
def lO{n z}:dO n z=(List.replicate n z).flatten:=by
 induction n with
 |zero=>rfl
 |succ n ih=>rw[AZ,aaw,Z1,ih]
def Dx{h X:ah}{A B B':ak}{b:Nat}(hb:h.length+2<=b):(h++([A]++([B']++X)))[b]? =(h++([A]++([B]++X)))[b]? :=by
 have e:∀C:ak,(h++([A]++([C]++X)))[b]? =X[b-h.length-1-1]? :=λC=>by
  rw[Zd Om,Zd (by simp only[Zt];omega),Zd (by simp only[Zt];omega)];rfl
 rw[e,e]
theorem cJ.low{N M h V}(o:cJ N h V)(hM:M<=N):cJ M h V:=
 ⟨o.i0.low hM,o.i1.low hM,o.i2.low hM,o.i3.low hM,o.i4.low hM,o.i5.low hM,λx hx=>(o.e2 x hx).low hM,λx hx=>(o.e3 x hx).low hM,λx hx=>(o.e4 x hx).low hM,o.di⟩
def cJ.dR{N h V}(o:cJ N h V){b}(hb:some b∈V.bl):N<=b/\b<h.length:=by
 simp only[RV.bl,Y8,ZG,ZB,Z0,aay]at hb;rcases hb with((hb|⟨x,hx,hb⟩)|⟨x,hx,hb⟩)|⟨x,hx,hb⟩
 ·rcases hb with hb|hb|hb|hb|hb|hb
  ·exact o.i0.bP hb.symm
  ·exact o.i1.bP hb.symm
  ·exact o.i2.bP hb.symm
  ·exact o.i3.bP hb.symm
  ·exact o.i4.bP hb.symm
  ·exact o.i5.bP hb.symm
 ·exact(o.e2 x hx).bP hb
 ·exact(o.e3 x hx).bP hb
 ·exact(o.e4 x hx).bP hb
theorem rj:∀{l m:List (By)},l.Nodup->(∀x∈l,x∈m)->l.length<=m.length
 |[],_,_,_=>ZA _
 |x::l,m,hn,hs=>by
  have h1:=abx.1 hn;have hx:=hs x Si;have:=rj (m:=m.erase x) h1.2 λy hy=>(List.mem_erase_of_ne (λ(e:y=x)=>h1.1 (by rw[<-e];exact hy))).2 (hs y (ZH _ hy))
  rw[List.length_erase_of_mem hx]at this;have hp:=List.length_pos_of_mem hx;simp only[YX];omega
inductive Lay:Nat->Nat->List (Option Nat)->Prop
 |nil {a:Nat}:Lay a a []
 |cons {a b c:Nat}{l m:List (Option Nat)}(hab:a<=b) (hl:k8 l) (hin:∀x,some x∈l->a<=x/\x<b) (r:Lay b c m):Lay a c (l++m)
def Lay.le{a c l}(h:Lay a c l):a<=c:=by
 induction h with
 |nil=>exact Zc _
 |cons hab _ _ _ ih=>omega
def Lay.mem{a c l}(h:Lay a c l):∀x,some x∈l->a<=x/\x<c:=by
 induction h with
 |nil=>intro x hx;cases hx
 |cons hab _ hin r ih=>
  intro x hx;have:=r.le;rcases Y8.1 hx with hx|hx
  ·have:=hin x hx;omega
  ·have:=ih x hx;omega
def Lay.Rk{a c l}(h:Lay a c l):k8 l:=by
 induction h with
 |nil=>exact List.Pairwise.nil
 |cons hab hl hin r ih=>
  refine hl.app ih λx hx y hy b hb UD=>?_
  subst hb;have h1:=hin b hx;rw[UD]at hy;have h2:=r.mem b hy;omega
def LX{N h s es cs}(hs:Fr N h s es cs):∀x,some x∈[sB s]->N<=x/\x<h.length:=by
 intro x hx;rw[Zj]at hx;exact hs.bP hx.symm
set_option maxRecDepth 10000
section
variable {P:Program}(T:fA P) {h:ah}
include T
def r96{V:RV}(o:aB h V)(w:ee V.an):aA P 96 [.agg V.row] h (λv h'=>∃V':RV,V'.an=V.an/\v=.agg V'.row/\cJ h.length h' V'):=by
 refine .of T.mix T.c96 ?_;obtain⟨ts,RD⟩:∃ts,ts=aV 38 [.agg V.row]:=⟨_,rfl⟩;have hlen:ts.length=38:=by rw[RD];rfl
 have t0:slot ts 0=.agg V.row:=by rw[RD];rfl
 unfold fn96;show WC P bJ _ [] (aV 38 [.agg V.row]) h _;rw[<-RD];clear RD;have Rz:=@aB.box _ _ o;have n0:V.lines.length<=16:=w.l0;have n5:V.aI.length<=16:=w.l5;have n1:V.aE.length<=16:=w.l1;have n2:V.aj.length<=64:=by have:=w.l2;simpa [RV.an]using this
 have n3:V.aC.length<=32:=by have:=w.l3;simpa [RV.an]using this
 have n4:V.aF.length<=16:=by have:=w.l4;simpa [RV.an]using this
 have mk0:∀{N:Nat},ti 3 32 [AV.str [],.int .i64 0,.bool false] (.int .i64 (V.lines.length:Int)) (.int .i64 (V.lines.length:Int)) N=some (.slice N 0 V.lines.length 3,.push (.cells (dO V.lines.length [AV.str [],.int .i64 0,.bool false]) true true)):=nU Om Om;have mk5:∀{N:Nat},ti 4 48 [AV.str [],.str [],.int .i64 0,.bool false] (.int .i64 (V.aI.length:Int)) (.int .i64 (V.aI.length:Int)) N=some (.slice N 0 V.aI.length 4,.push (.cells (dO V.aI.length [AV.str [],.str [],.int .i64 0,.bool false]) true true)):=nU Om Om;refine Rs (A8 t0 @Rz @eP @fy o.i0.aH o.i5.aH @mk0 @mk5) ?_
 have z0:(dO V.lines.length [AV.str [],.int .i64 0,.bool false])=(List.replicate V.lines.length [AV.str [],.int .i64 0,.bool false]).flatten:=lO;have z5:(dO V.aI.length [AV.str [],.str [],.int .i64 0,.bool false])=(List.replicate V.aI.length [AV.str [],.str [],.int .i64 0,.bool false]).flatten:=lO;obtain⟨B,hB⟩:∃B,B=ak.cells [AV.int .i64 0,.af,.af,.af,.af,.af,.af] true false:=⟨_,rfl⟩;rw[<-hB];have f0:Fr (h++[ak.cells V.row true false]++[B]).length (h++[ak.cells V.row true false]++[B]++([ak.cells (dO V.lines.length [AV.str [],.int .i64 0,.bool false]) true true]++[ak.cells (dO V.aI.length [AV.str [],.str [],.int .i64 0,.bool false]) true true])) (.slice (h++[ak.cells V.row true false]++[B]).length 0 V.lines.length 3) 3 (List.replicate V.lines.length [AV.str [],.int .i64 0,.bool false]):=by
  rw[<-YV];exact(Fr.A1 (Zc _) rfl).app _
 have f5:Fr (h++[ak.cells V.row true false]++[B]).length (h++[ak.cells V.row true false]++[B]++([ak.cells (dO V.lines.length [AV.str [],.int .i64 0,.bool false]) true true]++[ak.cells (dO V.aI.length [AV.str [],.str [],.int .i64 0,.bool false]) true true])) (.slice (h++[ak.cells V.row true false]++[B]++[ak.cells (dO V.lines.length [AV.str [],.int .i64 0,.bool false]) true true]).length 0 V.aI.length 4) 4 (List.replicate V.aI.length [AV.str [],.str [],.int .i64 0,.bool false]):=by
  rw[<-YV];exact Fr.A1 Si rfl
 obtain⟨Z,hZ⟩:∃Z,Z=([ak.cells (dO V.lines.length [AV.str [],.int .i64 0,.bool false]) true true]++[ak.cells (dO V.aI.length [AV.str [],.str [],.int .i64 0,.bool false]) true true]):=⟨_,rfl⟩;have hZl:Z.length=2:=by rw[hZ];rfl
 have el5:(h++[ak.cells V.row true false]++[B]++[ak.cells (dO V.lines.length [AV.str [],.int .i64 0,.bool false]) true true]).length=(h++[ak.cells V.row true false]++[B]).length+1:=Si
 rw[YV (h++[ak.cells V.row true false]++[B]),<-hZ];rw[<-hZ,el5]at f5;rw[<-hZ]at f0;rw[el5];clear hZ;refine WR.Mf (h0:=h++[ak.cells V.row true false]++[B]) (g:=Z) (Sq t0) (Sq t0) f0 (o.i0.ext Xx) Si ?_;intro g1 _ W9 hf0 hk0;have YH:=f5.aD (k:=h++[ak.cells V.row true false]++[B]++g1) λb hb=>hk0 b λb0 o n e he=>by cases he;cases hb;omega
 refine Rs (A2 t0 @fy) ?_;refine WR.Mf (h0:=h++[ak.cells V.row true false]++[B]) (g:=g1) (Sq t0) (Sq t0) YH (o.i5.ext Xx) Si ?_;intro g2 _ hl2 hf5' hk5;have hf0':=hf0.aD (k:=h++[ak.cells V.row true false]++[B]++g2) λb hb=>hk5 b λb0 o n e he=>by cases he;cases hb;omega
 have VM:g2.length=2:=Om
 refine Rs (A3 t0 @kR @gR) ?_;refine WF.res T.c179 (r179 T (o.i1.ext Xx) (by simp;omega)) ?_;rintro s1 c1 q1;refine Rs (A2 t0 @eo) ?_;refine WF.res T.c180 (r180 T (o.i2.ext Xx) (λx hx=>(o.e2 x hx).ext Xx) Om (λx hx=>?_)) ?_
 ·have:=(w.sh x.1 (Zu hx)).2.2;have hle:=rj this.1 (λt ht=>this.2 t ht);have W9:(jL V.an).length=V.aE.length:=by simp[jL,RV.an]
  omega
 rintro s2 c2 ⟨L2,m2,q2,q2e,q2d⟩;refine Rs (A2 t0 @eE) ?_;refine WF.res T.c182 (r182 T (o.i3.ext Xx) (λx hx=>(o.e3 x hx).ext Xx) Om (λx hx=>by have:=(w.md x.1 (Zu hx)).2.1;omega)) ?_;rintro s3 c3 ⟨L3,m3,q3,q3e,q3d⟩;refine Rs (A2 t0 @eO) ?_;refine WF.res T.c184 (r184 T (o.i4.ext Xx) (λx hx=>(o.e4 x hx).ext Xx) Om (λx hx=>by have:=(w.jb x.1 (Zu hx)).2.2.1;omega)) ?_;rintro s4 c4 ⟨L4,m4,q4,q4e,q4d⟩;refine Rs (A6 t0 q1.aW.one q2.aW.one q3.aW.one q4.aW.one @hB) ?_;refine⟨⟨V.tick,V.lines,V.aE,L2,L3,L4,V.aI,.slice (h++[ak.cells V.row true false]++[B]).length 0 V.lines.length 3,s1,s2,s3,s4,.slice ((h++[ak.cells V.row true false]++[B]).length+1) 0 V.aI.length 4⟩,?_,?_,?_⟩
 ·simp only[RV.an,m2,m3,m4]
 ·rw[<-hB];rfl
 obtain⟨H,hH⟩:∃H,H=h++[ak.cells V.row true false]++[B]:=⟨_,rfl⟩;have Vf:h.length<=H.length:=by rw[hH];simp
 rw[<-hH]at hf0' hf5' q1 q2 q2e q3 q3e q4 q4e;have own:cJ H.length (H++g2++c1++c2++c3++c4) ⟨V.tick,V.lines,V.aE,L2,L3,L4,V.aI,.slice H.length 0 V.lines.length 3,s1,s2,s3,s4,.slice (H.length+1) 0 V.aI.length 4⟩:=by
  have n0:V.lines.length=(V.lines.map bG).length:=Si
  have n5:V.aI.length=(V.aI.map cw).length:=Si
  refine⟨(((hf0'.app _).app _).app _).app _,?_,?_,?_,?_,(((hf5'.app _).app _).app _).app _,?_,?_,?_,?_⟩
  ·exact(((q1.app _).app _).app _).low Si
  ·exact((q2.app _).app _).low (by simp only[YT];omega)
  ·exact(q3.app _).low (by simp only[YT];omega)
  ·exact q4.low (by simp only[YT];omega)
  ·exactλx hx=>(((q2e x hx).app _).app _).low (by simp only[YT];omega)
  ·exactλx hx=>((q3e x hx).app _).low (by simp only[YT];omega)
  ·exactλx hx=>(q4e x hx).low (by simp only[YT];omega)
  ·have lay:Lay H.length (H++g2++c1++c2++c3++c4).length ([some H.length]++([some (H.length+1)]++([sB s1]++((sB s2::L2.map λx=>sB x.2)++((sB s3::L3.map λx=>sB x.2)++((sB s4::L4.map λx=>sB x.2)++[])))))):=by
    refine .cons (b:=H.length+1) Om .one (λx hx=>by simp at hx;omega) ?_;refine .cons (b:=(H++g2).length) (by simp only[YT];omega) .one (λx hx=>by simp at hx;simp only[YT];omega) ?_;refine .cons (b:=(H++g2++c1).length) (by simp only[YT];omega) .one (LX q1) ?_;refine .cons (b:=(H++g2++c1++c2).length) (by simp only[YT];omega) q2d (λx hx=>?_) ?_
    ·rcases ZG.1 hx with hx|hx
     ·exact q2.bP hx.symm
     ·obtain⟨y,hy,Yj⟩:=ZB.1 hx;exact(q2e y hy).bP Yj
    refine .cons (b:=(H++g2++c1++c2++c3).length) (by simp only[YT];omega) q3d (λx hx=>?_) ?_
    ·rcases ZG.1 hx with hx|hx
     ·exact q3.bP hx.symm
     ·obtain⟨y,hy,Yj⟩:=ZB.1 hx;exact(q3e y hy).bP Yj
    refine .cons (b:=(H++g2++c1++c2++c3++c4).length) (by simp only[YT];omega) q4d (λx hx=>?_) .nil;rcases ZG.1 hx with hx|hx
    ·exact q4.bP hx.symm
    ·obtain⟨y,hy,Yj⟩:=ZB.1 hx;exact(q4e y hy).bP Yj
   refine lay.Rk.perm (List.perm_iff_count.2 λa=>?_);simp only[RV.bl,sB,List.count_append,List.count_cons,List.count_nil,ZN,abt]
   ac_rfl
 rw[hH]at own Vf;refine(own.low Vf).ar λb hb=>?_
 have hbN:=(own.dR hb).1;simp only[YV];exact Dx (by simpa using hbN)
end
def aB.jl{h V}(o:aB h V):(∀x∈V.aj,x.2.one=true)/\(∀x∈V.aC,x.2.one=true)/\(∀x∈V.aF,x.2.one=true):=
 ⟨λx hx=>(o.e2 x hx).one,λx hx=>(o.e3 x hx).one,λx hx=>(o.e4 x hx).one⟩
structure eT(V:RV):Prop where
 l0:V.lines.length<2^30
 l1:V.aE.length<2^30
 l2:V.aj.length<2^30
 l3:V.aC.length<2^30
 l4:V.aF.length<2^30
 l5:V.aI.length<2^30
def ee.len{V}(w:ee V.an):eT V:=by
 have h0:=w.l0;have h1:=w.l1;have h2:=w.l2;have h3:=w.l3;have h4:=w.l4;have h5:=w.l5;simp only[RV.an,Y7]at h0 h1 h2 h3 h4 h5;exact⟨Om,Om,Om,Om,Om,Om⟩
def j5{V:RV}:mT V.an=V.aj.map λx=>x.1.name:=by simp[mT,RV.an,abj]
def ia{V:RV}:gV V.an=V.aC.map λx=>x.1.name:=by simp[gV,RV.an,abj]
def iu{V:RV}:iO V.an=V.aF.map λx=>x.1.name:=by simp[iO,RV.an,abj]
section
variable {P:Program}(T:fA P) {h:ah}
include T
def r205{V}(o:aB h V)(l:eT V){n}(hn:n∈gJ V.an):aA P 205 [.agg V.row,.str n] h (λv _=>v=.agg (bG (dN V.an n))):=by
 refine .eF 13 T.mix T.c205 ?_;intro ts hlen t0 t1;unfold fn205 gA;have Rz:=@aB.box _ _ o;have hlt:bp (gJ V.an) n<V.lines.length:=by have:=cY hn;simpa [gJ,RV.an]using this
 have ei:de (λx:gZ=>decide (x.name=n)) V.lines=(bp (gJ V.an) n:Int):=fo (f:=gZ.name) hn;have ix:bf 3 V.s0 (.i (bp (gJ V.an) n:Int))=some (cI V.s0 3 (bp (gJ V.an) n),.ar):=o.i0.c8 hlt;have ld:∀{k:ah},Ext h k->ao (some 3) (cI V.s0 3 (bp (gJ V.an) n)) (λb=>k[b]?)=some (.agg (bG (V.lines[bp (gJ V.an) n])),.ar):=λ{k} e=>o.i0.gS hlt e
 have sp:dN V.an n=V.lines[bp (gJ V.an) n]:=dq hn;rw[sp];unfold bG at ld ⊢;refine Rs (A4 t0 t1 @Rz @eP) ?_;refine WF.ce T.c142 (r142 T (o.i0.ext Xx) (by have:=l.l0;omega) n) λg1=>?_
 exact Dp
def r134{V}(o:aB h V)(l:eT V){n}(hn:n∈jL V.an):aA P 134 [.agg V.row,.str n] h (λv _=>v=.agg (cp (jz V.an n))):=by
 refine .eF 13 T.mix T.c134 ?_;intro ts hlen t0 t1;unfold fn134 gA;have Rz:=@aB.box _ _ o;have hlt:bp (jL V.an) n<V.aE.length:=by have:=cY hn;simpa [jL,RV.an]using this
 have ei:de (λx:rX=>decide (x.name=n)) V.aE=(bp (jL V.an) n:Int):=fo (f:=rX.name) hn;have ix:bf 2 V.s1 (.i (bp (jL V.an) n:Int))=some (cI V.s1 2 (bp (jL V.an) n),.ar):=o.i1.c8 hlt;have ld:∀{k:ah},Ext h k->ao (some 2) (cI V.s1 2 (bp (jL V.an) n)) (λb=>k[b]?)=some (.agg (cp (V.aE[bp (jL V.an) n])),.ar):=λ{k} e=>o.i1.gS hlt e
 have sp:jz V.an n=V.aE[bp (jL V.an) n]:=dq hn;rw[sp];unfold cp at ld ⊢;refine Rs (A4 t0 t1 @Rz @gR) ?_;refine WF.ce T.c143 (r143 T (o.i1.ext Xx) (by have:=l.l1;omega) n) λg1=>?_
 exact Dp
def r77{V:RV}(o:aB h V)(l:eT V){n:By}(hn:n∈mT V.an):aA P 77 [.agg V.row,.str n] h (λv _=>∃x∈V.aj,x.1=qU V.an n/\v=.agg (aU x)):=by
 refine .eF 13 T.mix T.c77 ?_;intro ts hlen t0 t1;unfold fn77 gA;have Rz:=@aB.box _ _ o;have hlt:bp (mT V.an) n<V.aj.length:=by have:=cY hn;simpa [mT,RV.an]using this
 have ei:de (λx:jR×AV=>decide (x.1.name=n)) V.aj=(bp (mT V.an) n:Int):=(fo (f:=λx:jR×AV=>x.1.name) (by rw[<-j5];exact hn)).trans (by rw[j5]);have ix:bf 3 V.s2 (.i (bp (mT V.an) n:Int))=some (cI V.s2 3 (bp (mT V.an) n),.ar):=o.i2.c8 hlt;have ld:∀{k:ah},Ext h k->ao (some 3) (cI V.s2 3 (bp (mT V.an) n)) (λb=>k[b]?)=some (.agg (aU (V.aj[bp (mT V.an) n])),.ar):=λ{k} e=>o.i2.gS hlt e
 have sp:(V.aj[bp (mT V.an) n]).1=qU V.an n:=by
  have:=dq (f:=jR.name) (l:=V.an.aj) (n:=n) (d:=DZ) hn;rw[show qU V.an n=_ from this];exact z130
 have on:=o.jl.1 (V.aj[bp (mT V.an) n]) (Zb _);have Tn:V.aj[bp (mT V.an) n]∈V.aj:=Zb _;generalize V.aj[bp (mT V.an) n]=x at *;unfold aU at ld ⊢;refine Rs (A4 t0 t1 @Rz @eo) ?_;refine WF.ce T.c136 (r136 T (o.i2.ext Xx) o.jl.1 (by have:=l.l2;omega) n) λg1=>?_
 exact GW
def r245{V:RV}(o:aB h V)(l:eT V){n:By}(hn:n∈gV V.an):aA P 245 [.agg V.row,.str n] h (λv _=>∃x∈V.aC,x.1=gN V.an n/\v=.agg (aM x)):=by
 refine .eF 13 T.mix T.c245 ?_;intro ts hlen t0 t1;unfold fn245 gA;have Rz:=@aB.box _ _ o;have hlt:bp (gV V.an) n<V.aC.length:=by have:=cY hn;simpa [gV,RV.an]using this
 have ei:de (λx:gY×AV=>decide (x.1.name=n)) V.aC=(bp (gV V.an) n:Int):=(fo (f:=λx:gY×AV=>x.1.name) (by rw[<-ia];exact hn)).trans (by rw[ia]);have ix:bf 4 V.s3 (.i (bp (gV V.an) n:Int))=some (cI V.s3 4 (bp (gV V.an) n),.ar):=o.i3.c8 hlt;have ld:∀{k:ah},Ext h k->ao (some 4) (cI V.s3 4 (bp (gV V.an) n)) (λb=>k[b]?)=some (.agg (aM (V.aC[bp (gV V.an) n])),.ar):=λ{k} e=>o.i3.gS hlt e
 have sp:(V.aC[bp (gV V.an) n]).1=gN V.an n:=by
  have:=dq (f:=gY.name) (l:=V.an.aC) (n:=n) (d:=B3) hn;rw[show gN V.an n=_ from this];exact z130
 have on:=o.jl.2.1 (V.aC[bp (gV V.an) n]) (Zb _);have Tn:V.aC[bp (gV V.an) n]∈V.aC:=Zb _;generalize V.aC[bp (gV V.an) n]=x at *;unfold aM at ld ⊢;refine Rs (A4 t0 t1 @Rz @eE) ?_;refine WF.ce T.c144 (r144 T (o.i3.ext Xx) o.jl.2.1 (by have:=l.l3;omega) n) λg1=>?_
 exact GW
def r124{V:RV}(o:aB h V)(l:eT V){n:By}(hn:n∈iO V.an):aA P 124 [.agg V.row,.str n] h (λv _=>∃x∈V.aF,x.1=gB V.an n/\v=.agg (bB x)):=by
 refine .eF 13 T.mix T.c124 ?_;intro ts hlen t0 t1;unfold fn124 gA;have Rz:=@aB.box _ _ o;have hlt:bp (iO V.an) n<V.aF.length:=by have:=cY hn;simpa [iO,RV.an]using this
 have ei:de (λx:kY×AV=>decide (x.1.name=n)) V.aF=(bp (iO V.an) n:Int):=(fo (f:=λx:kY×AV=>x.1.name) (by rw[<-iu];exact hn)).trans (by rw[iu]);have ix:bf 3 V.s4 (.i (bp (iO V.an) n:Int))=some (cI V.s4 3 (bp (iO V.an) n),.ar):=o.i4.c8 hlt;have ld:∀{k:ah},Ext h k->ao (some 3) (cI V.s4 3 (bp (iO V.an) n)) (λb=>k[b]?)=some (.agg (bB (V.aF[bp (iO V.an) n])),.ar):=λ{k} e=>o.i4.gS hlt e
 have sp:(V.aF[bp (iO V.an) n]).1=gB V.an n:=by
  have:=dq (f:=kY.name) (l:=V.an.aF) (n:=n) (d:=zP) hn;rw[show gB V.an n=_ from this];exact z130
 have on:=o.jl.2.2 (V.aF[bp (iO V.an) n]) (Zb _);have Tn:V.aF[bp (iO V.an) n]∈V.aF:=Zb _;generalize V.aF[bp (iO V.an) n]=x at *;unfold bB at ld ⊢;refine Rs (A4 t0 t1 @Rz @eO) ?_;refine WF.ce T.c145 (r145 T (o.i4.ext Xx) o.jl.2.2 (by have:=l.l4;omega) n) λg1=>?_
 exact GW
def r218{V}(o:aB h V)(l:eT V){n}(hn:n∈k5 V.an):aA P 218 [.agg V.row,.str n] h (λv _=>v=.agg (cw (jX V.an n))):=by
 refine .eF 13 T.mix T.c218 ?_;intro ts hlen t0 t1;unfold fn218 gA;have Rz:=@aB.box _ _ o;have hlt:bp (k5 V.an) n<V.aI.length:=by have:=cY hn;simpa [k5,RV.an]using this
 have ei:de (λx:qm=>decide (x.name=n)) V.aI=(bp (k5 V.an) n:Int):=fo (f:=qm.name) hn;have ix:bf 4 V.s5 (.i (bp (k5 V.an) n:Int))=some (cI V.s5 4 (bp (k5 V.an) n),.ar):=o.i5.c8 hlt;have ld:∀{k:ah},Ext h k->ao (some 4) (cI V.s5 4 (bp (k5 V.an) n)) (λb=>k[b]?)=some (.agg (cw (V.aI[bp (k5 V.an) n])),.ar):=λ{k} e=>o.i5.gS hlt e
 have sp:jX V.an n=V.aI[bp (k5 V.an) n]:=dq hn;rw[sp];unfold cw at ld ⊢;refine Rs (A4 t0 t1 @Rz @fy) ?_;refine WF.ce T.c146 (r146 T (o.i5.ext Xx) (by have:=l.l5;omega) n) λg1=>?_
 exact Dp
def LO{V}(o:aB h V)(l:eT V)(n:By):aA P 86 [.agg V.row,.i 0,.str n] h (λv _=>v=.bool (dX V.an 0 n)):=by
 refine .mS 47 T.mix T.c86 ?_;intro ts hlen t0 t1 t2;unfold fn86;have Rz:=@aB.box _ _ o;have eh:dX V.an 0 n=decide (0<=de (λx=>decide (x.name=n)) V.lines):=(fJ (f:=gZ.name)).symm;rw[eh]
 skip
 refine Rs (A7 t0 t1 t2 @Rz @eP @Zp @Zx) ?_;refine WF.ce T.c142 (r142 T (o.i0.ext Xx) (by have:=l.l0;omega) n) λg1=>?_
 exact FL
def LN{V}(o:aB h V)(l:eT V)(n:By):aA P 86 [.agg V.row,.i 1,.str n] h (λv _=>v=.bool (dX V.an 1 n)):=by
 refine .mS 47 T.mix T.c86 ?_;intro ts hlen t0 t1 t2;unfold fn86;have Rz:=@aB.box _ _ o;have eh:dX V.an 1 n=decide (0<=de (λx=>decide (x.name=n)) V.aE):=(fJ (f:=rX.name)).symm;rw[eh]
 skip
 have d0:((1:Int)=0)=False:=aar De;refine Rs (A8 t0 t1 t2 @Rz @gR @Zp @Zx @d0) ?_;refine WF.ce T.c143 (r143 T (o.i1.ext Xx) (by have:=l.l1;omega) n) λg1=>?_
 exact FL
def LM{V:RV}(o:aB h V)(l:eT V)(n:By):aA P 86 [.agg V.row,.i 2,.str n] h (λv _=>v=.bool (dX V.an 2 n)):=by
 refine .mS 47 T.mix T.c86 ?_;intro ts hlen t0 t1 t2;unfold fn86;have Rz:=@aB.box _ _ o;have eh:dX V.an 2 n=decide (0<=de (λx=>decide (x.1.name=n)) V.aj):=by
  rw[fJ (f:=λx:jR×AV=>x.1.name),<-j5];rfl
 rw[eh]
 skip
 have d0:((2:Int)=0)=False:=aar De;have d1:((2:Int)=1)=False:=aar De;refine Rs (A9 t0 t1 t2 @Rz @eo @Zp @Zx @d0 @d1) ?_;refine WF.ce T.c136 (r136 T (o.i2.ext Xx) o.jl.1 (by have:=l.l2;omega) n) λg1=>?_
 exact FL
def LL{V:RV}(o:aB h V)(l:eT V)(n:By):aA P 86 [.agg V.row,.i 3,.str n] h (λv _=>v=.bool (dX V.an 3 n)):=by
 refine .mS 47 T.mix T.c86 ?_;intro ts hlen t0 t1 t2;unfold fn86;have Rz:=@aB.box _ _ o;have eh:dX V.an 3 n=decide (0<=de (λx=>decide (x.1.name=n)) V.aC):=by
  rw[fJ (f:=λx:gY×AV=>x.1.name),<-ia];rfl
 rw[eh]
 skip
 have d0:((3:Int)=0)=False:=aar De;have d1:((3:Int)=1)=False:=aar De;have d2:((3:Int)=2)=False:=aar De;refine Rs (o8 t0 t1 t2 @Rz @eE @Zp @Zx @d0 @d1 @d2) ?_;refine WF.ce T.c144 (r144 T (o.i3.ext Xx) o.jl.2.1 (by have:=l.l3;omega) n) λg1=>?_
 exact FL
def LJ{V:RV}(o:aB h V)(l:eT V)(n:By):aA P 86 [.agg V.row,.i 4,.str n] h (λv _=>v=.bool (dX V.an 4 n)):=by
 refine .mS 47 T.mix T.c86 ?_;intro ts hlen t0 t1 t2;unfold fn86;have Rz:=@aB.box _ _ o;have eh:dX V.an 4 n=decide (0<=de (λx=>decide (x.1.name=n)) V.aF):=by
  rw[fJ (f:=λx:kY×AV=>x.1.name),<-iu];rfl
 rw[eh]
 skip
 have d0:((4:Int)=0)=False:=aar De;have d1:((4:Int)=1)=False:=aar De;have d2:((4:Int)=2)=False:=aar De;have d3:((4:Int)=3)=False:=aar De;refine Rs (mN t0 t1 t2 @Rz @eO @Zp @Zx @d0 @d1 @d2 @d3) ?_;refine WF.ce T.c145 (r145 T (o.i4.ext Xx) o.jl.2.2 (by have:=l.l4;omega) n) λg1=>?_
 exact FL
def LI{V}(o:aB h V)(l:eT V)(n:By):aA P 86 [.agg V.row,.i 5,.str n] h (λv _=>v=.bool (dX V.an 5 n)):=by
 refine .mS 47 T.mix T.c86 ?_;intro ts hlen t0 t1 t2;unfold fn86;have Rz:=@aB.box _ _ o;have eh:dX V.an 5 n=decide (0<=de (λx=>decide (x.name=n)) V.aI):=(fJ (f:=qm.name)).symm;rw[eh]
 skip
 have d0:((5:Int)=0)=False:=aar De;have d1:((5:Int)=1)=False:=aar De;have d2:((5:Int)=2)=False:=aar De;have d3:((5:Int)=3)=False:=aar De;have d4:((5:Int)=4)=False:=aar De;refine Rs (pe t0 t1 t2 @Rz @fy @Zp @Zx @d0 @d1 @d2 @d3 @d4) ?_;refine WF.ce T.c146 (r146 T (o.i5.ext Xx) (by have:=l.l5;omega) n) λg1=>?_
 exact FL
def r86{V:RV}(o:aB h V)(l:eT V){t:Nat}(ht:t<6)(n:By):aA P 86 [.agg V.row,.i t,.str n] h (λv _=>v=.bool (dX V.an t n)):=by
 match t,ht with
 | 0,_=>exact LO T o l n
 | 1,_=>exact LN T o l n
 | 2,_=>exact LM T o l n
 | 3,_=>exact LL T o l n
 | 4,_=>exact LJ T o l n
 | 5,_=>exact LI T o l n
def r135(x:rX)(t:Int):aA P 135 [.agg (cp x),.i t] h (λv _=>v=.bool (decide (t<=x.last))):=by
 refine .of T.mix T.c135 ?_;unfold fn135 gA cp;exact Wn Tv
def r76{V}(o:aB h V)(l:eT V){x}(hx:aK h x.2 1 (x.1.aE.map aq))(hl:x.1.aE.length<2^30)(hk:∀n∈x.1.aE,n∈jL V.an)(t:Int):
  aA P 76 [.agg V.row,.agg (aU x),.i t] h (λv _=>v=.bool (iJ V.an x.1 t)):=by
 refine .mS 24 T.mix T.c76 ?_;intro ts hlen t0 t1 t2;unfold fn76 gA;have Rz:=@aB.box _ _ o;have ox:=hx.one;unfold aU at t1;refine Rs (A6 t0 t1 t2 @Rz @ox hx.aH) ?_;refine WL.inv T.mix (λn ts h'=>∃k:Nat,k<=x.1.aE.length/\n=x.1.aE.length-k/\Ext (h++[ak.b V.row]) h'/\iJ V.an x.1 t=(x.1.aE.drop k).any (jB V.an t)/\
   ts.length=24/\slot ts 2=.i t/\slot ts 3=.ptr h.length 0/\slot ts 7=.bool false/\slot ts 11=x.2/\slot ts 12=.i x.1.aE.length/\slot ts 13=.i k) x.1.aE.length
  ⟨0,Om,rfl,Xx,rfl,Sn,(Sq t2),(Sq t0),(Sq t0),(Sq t0),(Sq t0),(Rr t0)⟩ ?_
 rintro _ ts _ ⟨k,hk',rfl,⟨g,rfl⟩,hs,hlen,t2,t3,t7,t11,t12,t13⟩;by_cases hlt:k<x.1.aE.length
 ·have hd:x.1.aE.drop k=x.1.aE[k]::x.1.aE.drop (k+1):=Si
  have e3:=dM hlt;have ix:=hx.c8 (kk:=.i64) hlt;have ld:∀{k':ah},Ext h k'->ao none (cI x.2 1 k) (λb=>k'[b]?)=some (.str x.1.aE[k],.ar):=λ{k'} e=>hx.kS hlt rfl e
  refine Rs (o8 t2 t3 t7 t11 t12 t13 e3 ix @ld @aG) ?_;refine WF.ce T.c134 (r134 T (o.ext Xx) l (hk _ (Zb hlt))) λg1=>?_
  refine Rs (A6 t2 t3 t7 t11 t12 t13) ?_;refine WF.ce T.c135 (r135 T _ t) λg2=>?_
  have hr:decide (t<=(jz V.an x.1.aE[k]).last)=jB V.an t x.1.aE[k]:=rfl;rw[hr];rw[hd,abk]at hs;cases S4:jB V.an t x.1.aE[k]with
  |true=>
   rw[S4,Bool.true_or]at hs;rw[hs];exact Rs (A6 t2 t3 t7 t11 t12 t13) Tv
  |false=>
   rw[S4,aa8]at hs;have e5:=wrapN (n:=k) Om;refine Rs (A7 t2 t3 t7 t11 t12 t13 e5) ?_;exact⟨_,Om,k+1,Om,rfl,hs,rfl⟩
 ·have e3:=eC hlt;have e4:k=x.1.aE.length:=Om
  rw[e4,Z2]at hs;rw[hs];refine Rs (A7 t2 t3 t7 t11 t12 t13 e3) ?_;rfl
end
structure P3(V:RV):Prop where
 sh:∀x∈V.aj,(∀n∈x.1.aE,n∈jL V.an)/\x.1.aE.length<2^30
def ee.xZ{V}(w:ee V.an):P3 V:=by
 refine⟨λx hx=>?_⟩;have:=(w.sh x.1 (Zu hx)).2.2;have hle:=rj this.1 (λt ht=>this.2 t ht);have h1:=w.l1;have W9:(jL V.an).length=V.an.aE.length:=by simp[jL]
 exact⟨this.2,Om⟩
section
variable {P:Program}(T:fA P) {h:ah}
include T
def r139{V}(o:aB h V)(l:eT V)(ir:P3 V){x}(hm:x∈V.aj){t b c}(hb:h[b]? =some (.b V.row))(hc:h[c]? =some (.b [.i t])):
  aA P 139 [.agg (aU x),.ptr b 0,.ptr c 0] h (λv _=>v=.bool (!iJ V.an x.1 t)):=by
 refine .mS 10 T.mix T.c139 ?_;intro ts hlen t0 t1 t2;unfold fn139 gA;have ox:=(o.e2 x hm).one;have lb:∀{k:ah}{n:Option Nat}{a:Nat},Ext h k->ao n (.ptr b a) (λz=>k[z]?)=dC n a (.b V.row):=λe=>az (e.some hb)
 have lc:∀{k:ah}{n:Option Nat}{a:Nat},Ext h k->ao n (.ptr c a) (λz=>k[z]?)=dC n a (.b [.i t]):=λe=>az (e.some hc)
 have hsf:=λ(k:ah) (e:Ext h k)=>r76 T (o.ext e) l ((o.e2 x hm).ext e) (ir.sh x hm).2 (ir.sh x hm).1 t
 unfold aU at t0 hsf;refine Rs (A7 t0 t1 t2 @ox @lb @lc @aG) ?_;refine WF.ce T.c76 (hsf _ Xx) λg1=>?_
 exact FL
def r80{V}(o:aB h V)(l:eT V)(ir:P3 V)(t:Int):aA P 80 [.agg V.row,.i t] h (λv h'=>aK h' v 1 ((ko V.an t).map aq)):=by
 refine .eF 10 T.mix T.c80 ?_;intro ts hlen t0 t1;unfold fn80 gA;have Rz:=@aB.box _ _ o;refine Rs (A4 t0 t1 @Rz @eo) ?_;have hm:∀x,x∈V.aj->∀k,Ext (h++[ak.b V.row]++[ak.b [AV.i t]]) k->bH P (.func (.func 139) [] [.ptr h.length 0,.ptr (h++[ak.b V.row]).length 0]) [.agg (aU x)] k (λv _=>v=.bool (!iJ V.an x.1 t)):=λx hx k e=>
  bH.of (a:=[]) T.c139 (r139 T (o.ext (Ext.trans Xx e)) l ir hx (e.some qp) (e.some a8))
 refine WF.res T.c138 (r138 T (o.i2.ext Xx) o.jl.1 (by have:=l.l2;omega) (λx=>!iJ V.an x.1 t) hm) ?_;rintro s1 g1 hf;refine Rs (A2 t0 t1) ?_;have R7:(V.aj.filter λx=>!iJ V.an x.1 t).length<=V.aj.length:=ZM _ _;refine WF.res T.c137 (r137 T hf.aW (λx hx=>o.jl.1 x ((aag.1 hx).1)) (by have:=l.l2;omega) (λx=>x.1.name) (λx hx k e=>bH.of (a:=[]) (c:=[]) T.c140 (r140 T x (o.jl.1 x ((aag.1 hx).1))))) ?_;rintro s2 g2 Uq;have eu:ko V.an t=(V.aj.filter λx=>!iJ V.an x.1 t).map λx=>x.1.name:=by
  simp only[ko,RV.an,aa1,aaE];rfl
 rw[eu];have:=Uq.aW;refine Rs (A2 t0 t1) ?_;exact this
def r255{x}(ox:x.2.one=true){n b}(hb:h[b]? =some (.b [.str n])):aA P 255 [.agg (aU x),.ptr b 0] h (λv _=>v=.bool (decide (x.1.line=n))):=by
 refine .eF 8 T.mix T.c255 ?_;intro ts hlen t0 t1;unfold fn255 gA;have lb:∀{k:ah}{n':Option Nat}{a:Nat},Ext h k->ao n' (.ptr b a) (λz=>k[z]?)=dC n' a (.b [.str n]):=λe=>az (e.some hb)
 unfold aU at t0;exact Rs (A4 t0 t1 @ox @lb) Tv
def r206{V}(o:aB h V)(l:eT V)(n:By):aA P 206 [.agg V.row,.str n] h (λv h'=>aK h' v 3 ((V.aj.filter λx=>decide (x.1.line=n)).map aU)):=by
 refine .eF 9 T.mix T.c206 ?_;intro ts hlen t0 t1;unfold fn206 gA;have Rz:=@aB.box _ _ o;refine Rs (A4 t0 t1 @Rz @eo) ?_;refine WF.res T.c138 (r138 T (o.i2.ext Xx) o.jl.1 (by have:=l.l2;omega) (λx=>decide (x.1.line=n)) (λx hx k e=>bH.of (a:=[]) (c:=[.ptr (h++[ak.b V.row]).length 0]) T.c255 (r255 T (o.jl.1 x hx) (e.some a8)))) ?_;rintro s1 g1 hf;have:=hf.aW;refine Rs (A2 t0 t1) ?_;exact this
def r269{x n b}(hb:h[b]? =some (.b [.str n])):aA P 269 [.agg (cw x),.ptr b 0] h (λv _=>v=.bool (decide (x.AS=n))):=by
 refine .eF 8 T.mix T.c269 ?_;intro ts hlen t0 t1;unfold fn269 FM;have lb:∀{k:ah}{n':Option Nat}{a:Nat},Ext h k->ao n' (.ptr b a) (λz=>k[z]?)=dC n' a (.b [.str n]):=λe=>az (e.some hb)
 unfold cw at t0;exact Rs (A3 t0 t1 @lb) Tv
def r251{V}(o:aB h V)(l:eT V)(n:By):aA P 251 [.agg V.row,.str n] h (λv _=>v=.bool (qh V.an n)):=by
 refine .eF 9 T.mix T.c251 ?_;intro ts hlen t0 t1;unfold fn251 gA;have Rz:=@aB.box _ _ o;refine Rs (A4 t0 t1 @Rz @fy) ?_;refine WF.ce T.c268 (r268 T (o.i5.ext Xx) (by have:=l.l5;omega) (λx=>decide (x.AS=n)) (λx hx k e=>bH.of (a:=[]) (c:=[.ptr (h++[ak.b V.row]).length 0]) T.c269 (r269 T (e.some a8)))) λg1=>?_
 refine Rs (A2 t0 t1) ?_;rfl
end
end Go.Abs
namespace Go.Abs
def WF.Kh{P ro ks ts h h' Q fv args d l v}(H:fw P fv args h v h')(K:WP P ro l ks (put ts d v) h' Q):WF P ro false fv args d l ks ts h Q:=
 ⟨v,h',H,λhq=>absurd hq Si,K⟩
structure IterM(P:Program)(f:FuncId)(a c:List AV)(L:List (List AV))(pre:ah->Prop):Prop where
 run:∀(l:Nat) (h:ah) (J:Nat->Nat->ah->Prop) (D:ah->Prop),(∀m i k,J m i k->pre k)->(∀m i k g,J m i k->J m i (k++g))->
  (∀m i (hi:i<L.length) k,J m i k->∃b k',fw P (.func (.yield l) [] []) L[i] k (.bool b) k'/\(∀x,l<x->x<m->k'[x]? =k[x]?)/\(if b=true then J m (i+1) k' else D k'))->
  (∀m k,J m L.length k->D k)->l+1=h.length->pre h->(∀g,J (h++g).length 0 (h++g))->dh P f (a++[.func (.yield l) [] []]++c) h (λ_ k=>D k)
section
variable {P:Program}{ks:List Kt}{ts:TS}{h:ah}{Q:Ex->TS->ah->Prop}
def WC.iterM(hmix:P.follows .mixedOrders=true){f A a c L pre g ps asg body}(hA:bS P f=some A)
  (hg:val ts g=.func (.func f) a c) (hi:IterM P f a c L pre) (hps:∀x∈L,x.length=ps.length) (I:Nat->Nat->ah->ah->Prop) (Fin:Ex->ah->ah->Prop)
  (h0:∀g,I (h.length+1+g.length) 0 h g) (hcl:∀m i h' g g2,I m i h' g->I m i h' (g++g2)) (hp0:∀X,pre (h++[X])) (hpre:∀m i h' g X,h'.length=h.length->I m i h' g->pre (h'++[X]++g))
  (step:∀m i (hi:i<L.length) h' g (R B:ak),h'.length=h.length->I m i h' g->
   WC P Cj asg [] (setArgs ts ps L[i]) (h'++[R]++g) λe1 U1 h2=>e1=.normal/\∃h1 g1,h2=h1++[R]++g1/\h1.length=h.length/\
    WC P Cj body [] U1 (h1++[B]++g1) λe2 _ h4=>∃h3 g3,h4=h3++[B]++g3/\h3.length=h.length/\(∀x,x+h.length+1<m->g3[x]? =g[x]?)/\(if e2=.normal then I m (i+1) h3 g3 else Fin e2 h3 g3))
  (done:∀e h' g,h'.length=h.length->(if e=.normal then ∃m,I m L.length h' g else Fin e h' g)->WE P bJ e ks ts (h'++[ak.dead]++g) Q):WC P bJ (.fN g ps asg body) ks ts h Q:=by
 let J:Nat->Nat->ah->Prop:=λm i k=>∃h' g,k=h'++[.loop .ready .normal ts ps asg body]++g/\h'.length=h.length/\I m i h' g
 let D:ah->Prop:=λk=>∃e h' g st,k=h'++[.loop st e ts ps asg body]++g/\h'.length=h.length/\st≠.busy/\(if e=.normal then ∃m,I m L.length h' g else Fin e h' g)
 obtain⟨v,h2,hs,e,h',g',st,rfl,hl,bV,To⟩:=hi.run h.length (h++[.loop .ready .normal ts ps asg body]) J D
  (λm i k hJ=>by obtain⟨h',g,rfl,h1,h2⟩:=hJ;exact hpre m i h' g _ h1 h2)
  (λm i k g2 hJ=>by obtain⟨h',g,rfl,h1,h2⟩:=hJ;exact⟨h',g++g2,by rw[YV],h1,hcl _ _ _ _ _ h2⟩)
  (λm i hi k hJ=>by
   obtain⟨h',g,rfl,h1,h2⟩:=hJ;obtain⟨e1,U1,k2,q1,rfl,h3,g3,rfl,h4,q2⟩:=W.sound hmix (step m i hi h' g (.loop .ready .normal ts ps asg body) (.loop .busy .normal ts ps asg body) h1 h2);obtain⟨e2,ts3,k3,q3,h5,g5,rfl,h6,q5,q4⟩:=W.sound hmix q2;have hy:fw P (.func (.yield h.length) [] []) L[i] (h'++[.loop .ready .normal ts ps asg body]++g) (.bool (decide (e2=.normal))) (List.set (h5++[ak.loop .busy .normal ts ps asg body]++g5) h.length (ak.loop (if e2=.normal then .ready else .done) e2 ts ps asg body)):=
    fw.yield (ng h1) (hps _ (Zb hi)) (λr=>q1 (some r) ⟨r,rfl⟩) (ng h4) (λr=>by rw[rr h4];exact q3 (some r) ⟨r,rfl⟩) (ng h6)
   rw[rr h6]at hy;refine⟨decide (e2=.normal),_,hy,?_,?_⟩
   ·intro x hx R3;rw[Zd (by simp;omega),Zd (by simp;omega)];have:=q5 (x-h.length-1) Om;simp only[YT,YX,Y6,h6,h1,ZN,Nat.sub_sub]at this ⊢;exact this
   by_cases he:e2=.normal
   ·exact z139
   ·rw[Za he]at q4;simp only[he,Zx,ZS,Zi];exact⟨e2,h5,g5,.done,rfl,h6,Si,by rw[Za he];exact q4⟩)
  (λm k hJ=>by obtain⟨h',g,rfl,h1,h2⟩:=hJ;exact⟨.normal,h',g,.ready,rfl,h1,Si,by rw[Zh rfl];exact⟨m,h2⟩⟩)
  Si (hp0 _) (λg=>⟨h,g,rfl,rfl,by have:=h0 g;simpa only[YT,YX,Y6,ZN]using this⟩)
 exact Qo
end
def WC.F6{P ro c ts h Q Q'}(H:WC P ro c [] ts h Q)(hq:∀e ts' h',Q e ts' h'->Q' e ts' h'):WC P ro c [] ts h Q':=W.mono H hq
def qB{A B:ah}{K K':ak}{b:Nat}(h:b≠A.length):(A++[K]++B)[b]? =(A++[K']++B)[b]? :=by
 by_cases h1:b<A.length
 ·rw[YV,YV,YY h1,YY h1]
 ·exact z80
def ID{A B:ah}{K:ak}:(A++[K]++B)[A.length]? =some K:=by
 exact z152
def dA(x:By×Bool):AV×AV:=(.str x.1,.bool x.2)
def gp:List (By×Bool)->By->Bool
 |[],_=>false
 |(a,b)::r,w=>if w=a then b else gp r w
def rL:List (By×Bool)->By->Bool->List (By×Bool)
 |[],w,b=>[(w,b)]
 |(a,c)::r,w,b=>if w=a then(w,b)::r else(a,c)::rL r w b
theorem rN:∀{M}{w w'}{b},gp (rL M w b) w' =if w' =w then b else gp M w'
 |[],w,w',b=>by rw[rL,gp];rfl
 |(a,c)::r,w,w',b=>by
  rw[rL];by_cases h1:w=a
  ·subst h1;rw[Zh rfl,gp,gp];by_cases h2:w' =w
   ·rw[Zh h2,Zh h2]
   ·rw[Za h2,Za h2,Za h2]
  ·rw[Za h1,gp,gp,rN];by_cases h2:w' =a
   ·subst h2;rw[Zh rfl,Za (aai h1),Zh rfl]
   ·rw[Za h2,Za h2]
theorem tB:∀{M}{w},∃o:Option AV,jo .s (.str w) (M.map dA)=some o/\(o=some (.bool (gp M w))\/(o=none/\gp M w=false))
 |[],w=>⟨none,rfl,.inr ⟨rfl,rfl⟩⟩
 |(a,c)::r,w=>by
  by_cases h1:w=a
  ·subst h1;refine⟨some (.bool c),?_,.inl ?_⟩
   ·simp only[ZX,dA,jo,cT,BEq.rfl]
   ·rw[gp,Zh rfl]
  ·obtain⟨o,h2,h3⟩:=tB (M:=r) (w:=w);have hb:(w==a)=false:=by simp[h1]
   refine⟨o,?_,?_⟩
   ·simp only[ZX,dA,jo,cT,hb];exact h2
   ·rw[gp,Za h1];exact h3
theorem uT:∀{M}{w}{b},pg .s (.str w) (.bool b) (M.map dA)=some ((rL M w b).map dA)
 |[],w,b=>rfl
 |(a,c)::r,w,b=>by
  by_cases h1:w=a
  ·subst h1;rw[rL,Zh rfl];simp only[ZX,dA,pg,cT,BEq.rfl]
  ·have hb:(w==a)=false:=by simp[h1]
   have:=uT (M:=r) (w:=w) (b:=b);rw[rL,Za h1];show(match some (w==a)with|some true=>some ((AV.str w,AV.bool b)::r.map dA)|some false=>(pg .s (.str w) (.bool b) (r.map dA)).map ((AV.str a,AV.bool c)::·)|none=>none)=_;rw[hb,this];rfl
def ub(kk:CK)(m k x:AV)(G:Nat->Option ak):Option (AV×iI):=
 match m with
 |.map r=>
  match G r with
  |some (.bj es)=>
   match pg kk k x es with
   |some es'=>some (ay,.set r (.bj es'))
   |none=>none
  |_=>none
 |_=>none
def ua{kk r k x G es es'}(hb:G r=some (.bj es))(hu:pg kk k x es=some es'):ub kk (.map r) k x G=some (ay,.set r (.bj es')):=by
 simp only[ub,hb,hu]
def jk{kk m k x ρ G N}:stepT (.fO kk m k x) ρ G N=ub kk (ρ m) (ρ k) (ρ x) G:=rfl
def iw(kk:CK)(z:AV)(ok:Bool)(m k:AV)(G:Nat->Option ak):Option (AV×iI):=
 match m with
 |.db=>some (if ok then .dL [z,.bool false]else z,.ar)
 |.map r=>
  match G r with
  |some (.bj es)=>
   match jo kk k es with
   |some (some v)=>some (if ok then .dL [v,.bool true]else v,.ar)
   |some none=>some (if ok then .dL [z,.bool false]else z,.ar)
   |none=>none
  |_=>none
 |_=>none
def bW{kk z ok m k ρ G N}:stepT (.look kk z ok m k) ρ G N=iw kk z ok (ρ m) (ρ k) G:=rfl
def lC(z:AV)(ok:Bool):Option AV->Option (AV×iI)
 |some v=>some (if ok then .dL [v,.bool true]else v,.ar)
 |none=>some (if ok then .dL [z,.bool false]else z,.ar)
def rq{kk z ok r k G es o}(hb:G r=some (.bj es))(hu:jo kk k es=some o):
  iw kk z ok (.map r) k G=lC z ok o:=by
 simp only[iw,hb,hu];cases o<;>rfl
def pz{r w G M}(hb:G r=some (.bj (M.map dA))):iw .s (.bool false) false (.map r) (.str w) G=some (.bool (gp M w),.ar):=by
 obtain⟨o,h1,h2⟩:=tB (M:=M) (w:=w);rw[rq hb h1];rcases h2 with rfl|⟨rfl,h2⟩
 ·rfl
 ·rw[h2];rfl
def rl{r w b G M}(hb:G r=some (.bj (M.map dA))):ub .s (.map r) (.str w) (.bool b) G=some (ay,.set r (.bj ((rL M w b).map dA))):=ua hb uT
def ai.tl:ai->ai
 |.seq _ b=>b
 |c=>c
def ai.hd:ai->ai
 |.seq a _=>a
 |c=>c
def ai.dr:Nat->ai->ai
 | 0,c=>c
 |n+1,c=>c.tl.dr n
def ai.HY:ai->ai
 |.block _ a=>a
 |.loop a=>a
 |c=>c
def ai.DQ:ai->ai
 |.fN _ _ a _=>a
 |c=>c
def ai.Dg:ai->ai
 |.fN _ _ _ b=>b
 |c=>c
def Fr.swap'{N A B g s es cs}(hs:Fr N (A++g) s es cs)(hA:A.length=N)(hB:B.length=N):Fr N (B++g) s es cs:=by
 subst hA;exact hs.swap hB
set_option maxRecDepth 10000
attribute [local irreducible] WP WC WE WB WR WF WL WG fR
def Le:ai:=((fn214).body.tl).hd
def Hy:ai:=Le.tl.HY
def Oz:ai:=(fn214).body.tl.tl
def Ld:(fn214).body=.seq ((fn214).body.hd) (.seq (.seq Le.hd (.block 0 (.fN (.t 16) [17,18] Hy.DQ Hy.Dg))) Oz):=rfl
section
variable {P:Program}(T:fA P) {h:ah}
include T
def B7{x:gY×AV}{Hm:List (By×Bool)->ah}{mb bb xb:Nat}(a1:∀M,(Hm M)[mb]? =some (.bj (M.map dA)))(a2:∀M,(Hm M)[bb]? =some (.b [.map mb]))(a3:∀M,(Hm M)[xb]? =some (.b (aM x)))
  (a4:∀M K:List (By×Bool),(Hm M).set mb (.bj (K.map dA))=Hm K) (a5:∀M,aK (Hm M) x.2 1 (x.1.bo.map aq)) (hl:x.1.bo.length<2^30) {ts:TS}(hlen:ts.length=56) (t4:slot ts 4=.ptr bb 0) (t6:slot ts 6=.ptr xb 0)
  {M:List (By×Bool)}{S:List (By)}(hM:∀w,gp M w=decide (w∈S)):
  WC P Cj Hy.Dg [] ts (Hm M) λe _ h4=>e=.normal/\∃M',h4=Hm M'/\∀w,gp M' w=decide (w∈(if x.1.name∈S then S++x.1.bo else S)):=by
 have l2:∀{M n o},ao n (.ptr bb o) (λz=>(Hm M)[z]?)=dC n o (.b [.map mb]):=λ{M _ _}=>az (a2 M)
 have l3:∀{M n o},ao n (.ptr xb o) (λz=>(Hm M)[z]?)=dC n o (.b [.str x.1.name,.str x.1.gives,.str x.1.line,x.2]):=λ{M _ _}=>az (a3 M)
 have lk:∀{M w},iw .s (.bool false) false (.map mb) (.str w) (λz=>(Hm M)[z]?)=some (.bool (gp M w),.ar):=λ{M _}=>pz (a1 M)
 have mp:∀{M w b},ub .s (.map mb) (.str w) (.bool b) (λz=>(Hm M)[z]?)=some (ay,.set mb (.bj ((rL M w b).map dA))):=λ{M _ _}=>rl (a1 M)
 have UH:=λM G=>(a5 M).aH G
 unfold Hy Le fn214 gA;simp only[ai.tl,ai.hd,ai.HY,ai.Dg]
 repeat (first|simp (config:={maxSteps:=1000000}) only[aO,aQ,aY,aZ,reduceAdd,reduceMul,reduceLeDiff,reduceEqDiff,ba,hlen,Zi,Zk,t4,t6,l2,l3,UH M]|simp (config:={maxSteps:=1000000}) (disch:=first|(simp only[YT,YX,Y6]<;>omega)|rfl|omega|fail) only[dP,aO,aQ,aY,aZ,reduceAdd,reduceMul,reduceLeDiff,reduceEqDiff,ba,hlen,Zi,Zk,t4,t6,l2,l3,UH M])
 refine WL.inv T.mix (λn ts h'=>∃(k:Nat) (M':List (By×Bool)),k<=x.1.bo.length/\n=x.1.bo.length-k/\h' =Hm M'/\(∀w,gp M' w=decide (w∈S\/(x.1.name∈S/\w∈x.1.bo.take k)))/\
   ts.length=56/\slot ts 4=.ptr bb 0/\slot ts 6=.ptr xb 0/\slot ts 20=x.2/\slot ts 21=.i x.1.bo.length/\slot ts 22=.i k) x.1.bo.length
  ⟨0,M,Om,rfl,rfl,λw=>by rw[hM];simp,Sn,(Sq t4),(Sq t6),(Sq t6),(Sq t6),fV⟩ ?_
 clear t4 t6 hlen hM;clear M ts;rintro _ ts _ ⟨k,M,hk',rfl,rfl,hM,hlen,t4,t6,t20,t21,t22⟩;by_cases hlt:k<x.1.bo.length
 ·have e3:=dM hlt;have ix:=(a5 M).c8 (kk:=.i64) hlt;have ld:ao none (cI x.2 1 k) (λb=>(Hm M)[b]?)=some (.str x.1.bo[k],.ar):=(a5 M).kS hlt rfl (Ext.refl _);have e5:=wrapN (n:=k) Om;have hnew:∀w,gp (rL M x.1.bo[k] (gp M x.1.bo[k]||gp M x.1.name)) w=decide (w∈S\/(x.1.name∈S/\w∈x.1.bo.take (k+1))):=by
   intro w;rw[rN];have ht:x.1.bo.take (k+1)=x.1.bo.take k++[x.1.bo[k]]:=by rw[ZJ,YZ hlt];rfl
   rw[ht];by_cases hw:w=x.1.bo[k]
   ·rw[Zh hw,hM,hM,hw,<-Bool.decide_or,aaF,Y8,Zj];constructor
    ·rintro((h1|h1)|(h1|h1))
     ·exact .inl h1
     ·exact .inr ⟨h1.1,.inl h1.2⟩
     ·exact .inr ⟨h1,.inr rfl⟩
     ·exact .inr ⟨h1.1,.inr rfl⟩
    ·rintro(h1|h1)
     ·exact .inl (.inl h1)
     ·exact .inr (.inl h1.1)
   ·rw[Za hw,hM,aaF,Y8,Zj];simp only[hw,aay]
  cases hb:gp M x.1.bo[k]with
  |true=>
   rw[hb,Bool.true_or]at hnew;exact Qf
  |false=>
   rw[hb,aa8]at hnew;exact Qf
 ·have e3:=eC hlt;have e4:k=x.1.bo.length:=Om
  rw[e4,ZD]at hM;refine Rs (A6 t4 t6 t20 t21 t22 e3) ?_;refine⟨M,rfl,λw=>?_⟩;rw[hM,aaF];by_cases hx:x.1.name∈S<;>simp[hx]
end
def Ox:gY×AV:=(B3,.af)
def tH(X:List (gY×AV)):List (List AV):=(List.range X.length).map λj=>[.i ((X.length-1-j:Nat):Int),.agg (aM (X.getD (X.length-1-j) Ox))]
def ji{X}:(tH X).length=X.length:=by simp[tH]
def tG{X j}(hj:j<(tH X).length):(tH X)[j]=[.i ((X.length-1-j:Nat):Int),.agg (aM (X[X.length-1-j]'(by rw[ji]at hj;omega)))]:=by
 have h1:X.length-1-j<X.length:=by rw[ji]at hj;omega
 simp only[tH,aab,List.getElem_range,ZK,YZ h1,aba]
structure qn(V:RV)(m:By)(cm cr:Nat)(k:ah):Prop where
 m:k[cm]? =some (.b [.str m])
 r:k[cr]? =some (.b V.row)
 o:aB k V
theorem qn.ext{V m cm cr k k'}(p:qn V m cm cr k)(e:Ext k k'):qn V m cm cr k':=⟨e.some p.m,e.some p.r,p.o.ext e⟩
def iK(V:RV)(m:By):List (gY×AV):=V.aC.filter λx=>decide (x.1.name∈cP m V.an.aC.reverse)
def zQ{m:By}{l:List gY}{i:Nat}(hi:i<l.length):cP m (l.take (i+1))=(if l[i].name∈cP m (l.take i)then cP m (l.take i)++l[i].bo else cP m (l.take i)):=by
 rw[ZJ,YZ hi,cP,aaO];rfl
def Aa{α:Type}{p:α->Bool}{l:List α}{k:Nat}(hk:k<l.length)(hp:p l[k]=true):∃h:((l.take k).filter p).length<(l.filter p).length,(l.filter p)[((l.take k).filter p).length]=l[k]:=by
 have e:l.filter p=(l.take k).filter p++(l[k]:: (l.drop (k+1)).filter p):=by
  conv=>lhs;rw[<-aal k l,aaI hk,aaz,aa9,Zh hp]
 have h:((l.take k).filter p).length<(l.filter p).length:=by rw[e];simp
 refine⟨h,?_⟩;have:(l.filter p)[((l.take k).filter p).length]? =some l[k]:=by rw[e,Zd (Zc _)];simp
 exact(YU.1 this).2
def Cn{α:Type}{p:α->Bool}{l:List α}{k:Nat}(hk:k<l.length):((l.take (k+1)).filter p).length=if p l[k]=true then((l.take k).filter p).length+1 else((l.take k).filter p).length:=by
 rw[ZJ,YZ hk,aaz,YT];cases h:p l[k]<;>simp[h]
def CF{N}:pE .db N=some (.ptr N 0,.push (.b [.db])):=rfl
def Kp{r N}:km 1 0 (.map r) N (.b [.db])=some (ay,.set N (.b [.map r])):=rfl
section
variable {P:Program}(T:fA P) {h:ah}
include T
def r215{s}(o:s.one=true):aA P 215 [s] h (λv h'=>v=.func (.func 259) [] [.ptr h.length 0]/\h' =h++[.b [s]]):=by
 refine .of T.mix T.c215 ?_;unfold fn215 gA;exact Ws @o Tv
def zW{b s X}(hl:X.length<2^30):
  Iter P 259 [] [.ptr b 0] (tH X) (λk=>k[b]? =some (.b [s])/\aK k s 4 (X.map aM)):=by
 refine⟨λl h1 J Dn hpre happ Sp TM h0=>dh.of T.mix T.c259 ?_⟩;obtain⟨ts,RD⟩:∃ts,ts=aV 19 ([]++[.func (.yield l) [] []]++[.ptr b 0]):=⟨_,rfl⟩;have hlen:ts.length=19:=by rw[RD];rfl
 have t0:slot ts 0=.func (.yield l) [] []:=by rw[RD];rfl
 have t1:slot ts 1=.ptr b 0:=by rw[RD];rfl
 unfold fn259 gA;show WC P bJ _ [] (aV 19 ([]++[.func (.yield l) [] []]++[.ptr b 0])) h1 _;rw[<-RD];clear RD;have p0:=hpre 0 h1 h0;have l0:∀{n o},ao n (.ptr b o) (λz=>h1[z]?)=dC n o (.b [s]):=λ{_ _}=>az p0.1
 have e0:IntKind.i64.wrap ((X.length:Int)-1)=(X.length:Int)-1-(0:Nat):=by rw[bz Om Om];omega
 refine Rs (A5 t0 t1 @l0 p0.2.aH e0) ?_;refine WL.inv T.mix (λn ts h'=>∃k:Nat,k<=X.length/\n=X.length-k/\J k h'/\ts.length=19/\slot ts 0=.func (.yield l) [] []/\slot ts 1=.ptr b 0/\slot ts 3=.i ((X.length:Int)-1-k)) X.length
  ⟨0,Om,rfl,h0,Sn,(Sq t0),(Sq t1),(Sq t0)⟩ ?_
 clear t0 t1 hlen l0 p0;clear ts;rintro _ ts h' ⟨k,hk,rfl,hJ,hlen,t0,t1,t3⟩;obtain⟨p1,p2⟩:=hpre _ _ hJ;have l0:∀{n o},ao n (.ptr b o) (λz=>h'[z]?)=dC n o (.b [s]):=λ{_ _}=>az p1
 by_cases hlt:k<X.length
 ·have hj:X.length-1-k<X.length:=Om
  have ei:(X.length:Int)-1-k=((X.length-1-k:Nat):Int):=Om
  have e3:decide ((0:Int)<=((X.length-1-k:Nat):Int))=true:=Y5 Om;have ix:=p2.c8 (kk:=.i64) hj;have ld:ao (some 4) (cI s 4 (X.length-1-k)) (λb=>h'[b]?)=some (.agg (aM X[X.length-1-k]),.ar):=p2.gS hj (Ext.refl _);have hwk:IntKind.i64.wrap (((X.length-1-k:Nat):Int)-1)=(X.length:Int)-1-((k+1:Nat):Int):=by rw[bz Om Om];omega
  rw[ei]at t3;refine Rs (A7 t0 t1 t3 @l0 e3 ix @ld) ?_;obtain⟨bb,k',q1,q2⟩:=Sp k (by rw[ji];exact hlt) h' hJ;rw[tG]at q1;refine WF.Kh q1 ?_;cases bb with
  |true=>
   refine Rs (A5 t0 t1 t3 @Zw @hwk) ?_;exact⟨_,Om,k+1,Om,rfl,q2,rfl⟩
  |false=>
   refine Rs (A4 t0 t1 t3 @Zz) ?_;exact q2
 ·have e3:decide ((0:Int)<=(X.length:Int)-1-k)=false:=YW Om;have e4:k=X.length:=Om
  refine Rs (A4 t0 t1 t3 e3) ?_;refine TM h' ?_;rw[ji,<-e4];exact hJ
def r119{V}(o:aB h V)(m:By):aA P 119 [.agg V.row,.str m] h (λv h'=>v=.func (.func 214) [] [.ptr (h.length+1) 0,.ptr h.length 0]/\qn V m (h.length+1) h.length h'):=by
 refine .eF 6 T.mix T.c119 ?_;intro ts hlen t0 t1;unfold fn119 gA;have Rz:=@aB.box _ _ o;have hl2:(h++[ak.b V.row]).length=h.length+1:=Si
 refine Rs (A3 t0 t1 @Rz) ?_;rw[hl2];refine⟨rfl,?_,qp,o.ext Xx⟩;rw[<-hl2];exact a8
def rz{V:RV}(l:eT V)(hin:∀x∈V.aC,x.1.bo.length<2^30)(m:By)(cm cr:Nat):
  IterM P 214 [] [.ptr cm 0,.ptr cr 0] ((iK V m).map λx=>[.agg (aM x)]) (qn V m cm cr):=by
 refine⟨λlp h J Dn hpre happ Sp TM hlp p0 h0=>dh.of T.mix T.c214 ?_⟩;obtain⟨ts,RD⟩:∃ts,ts=aV 56 ([]++[.func (.yield lp) [] []]++[.ptr cm 0,.ptr cr 0]):=⟨_,rfl⟩;have hlen:ts.length=56:=by rw[RD];rfl
 have t0:slot ts 0=.func (.yield lp) [] []:=by rw[RD];rfl
 have t1:slot ts 1=.ptr cm 0:=by rw[RD];rfl
 have t2:slot ts 2=.ptr cr 0:=by rw[RD];rfl
 show WC P bJ (fn214).body [] (aV 56 ([]++[.func (.yield lp) [] []]++[.ptr cm 0,.ptr cr 0])) h _;rw[<-RD,Ld];clear RD;obtain⟨RR,SG⟩:∃RR,RR=Oz:=⟨_,rfl⟩;obtain⟨RA,XP⟩:∃RA,RA=Hy.DQ:=⟨_,rfl⟩;obtain⟨RB,XO⟩:∃RB,RB=Hy.Dg:=⟨_,rfl⟩;rw[<-SG,<-XP,<-XO];unfold Le fn214 gA;simp only[ai.tl,ai.hd];have lm:=@dG _ _ _ p0.m;have lr:=@dG _ _ _ p0.r;have u0:ub .s (.map h.length) (.str m) (.bool true) (λz=>(h++[ak.bj []])[z]?)=some (ay,.set h.length (.bj ([(m,true)].map dA))):=rl (M:=[]) a8;refine Rs (o8 t0 t1 t2 @lm @lr @jk @u0 @eE @CF @Kp) ?_;refine WF.res T.c215 (r215 T p0.o.i3.one) ?_;rintro _ g1 ⟨rfl,hg⟩;have hg:=aaN hg
 subst hg;refine Rs (A3 t0 t1 t2) ?_;have hlV:V.an.aC.length=V.aC.length:=by simp[RV.an]
 refine WC.iter T.mix T.c259 (a:=[]) (c:=[.ptr (h++[ak.bj (List.map dA [(m,true)])]++[ak.b [AV.map h.length]]).length 0]) (Sq t0) (zW T (s:=V.s3) (X:=V.aC) (by have:=l.l3;omega)) (λy hy=>by obtain⟨z,_,rfl⟩:=ZB.1 hy;rfl)
  (λi h' g=>∃M:List (By×Bool),h' =h++[ak.bj (M.map dA)]++[ak.b [AV.map h.length]]++[ak.b [V.s3]]/\∀w,gp M w=decide (w∈cP m (V.an.aC.reverse.take i))) (λ_ _ _=>False)
  ⟨[(m,true)],rfl,λw=>?_⟩ (λi h' g g' hI=>hI) (λi h' g X hl hI=>?_) (λi hi h' g R B RJ hI=>?_) (λe h' g hl hI=>?_)
 ·show(if w=m then true else false)=decide (w∈[m]);by_cases hw:w=m<;>simp[hw]
 ·obtain⟨M,rfl,_⟩:=hI;refine⟨?_,p0.o.i3.ext Xx⟩;have e:(h++[ak.bj (List.map dA [(m,true)])]++[ak.b [AV.map h.length]]).length=(h++[ak.bj (M.map dA)]++[ak.b [AV.map h.length]]).length:=Si
  rw[e];exact AA
 ·obtain⟨M,rfl,hM⟩:=hI;have hi':i<V.aC.length:=by rw[<-ji];exact hi
  have hj:V.aC.length-1-i<V.aC.length:=Om
  rw[tG,XP];have R3:V.aC[V.aC.length-1-i]∈V.aC:=Zb _;have We:V.an.aC.reverse[i]'(by rw[aaT];omega)=(V.aC[V.aC.length-1-i]).1:=by
   rw[List.getElem_reverse];simp only[RV.an,aab,Y7]
  have hns:=zQ (m:=m) (l:=V.an.aC.reverse) (i:=i) (by rw[aaT];omega);rw[We]at hns;generalize V.aC[V.aC.length-1-i]=x at *;have ox:=p0.o.jl.2.1 x R3;unfold Hy Le fn214 gA;simp only[ai.tl,ai.hd,ai.HY,ai.DQ,setArgs,aM];refine Rs (A4 t0 t1 t2 @ox) ?_;refine⟨_,g++[ak.b [AV.str x.1.name,.str x.1.gives,.str x.1.line,x.2]],by rw[<-YV],RJ,?_⟩;have xin:=p0.o.e3 x R3;rw[XO];refine WC.F6 (B7 T (x:=x) (mb:=h.length) (bb:=(h++[ak.bj (List.map dA [(m,true)])]).length) (xb:=(h++[ak.bj (List.map dA M)]++[ak.b [AV.map h.length]]++[ak.b [V.s3]]++[R]++g).length)
   (Hm:=λM=>h++[ak.bj (List.map dA M)]++[ak.b [AV.map h.length]]++[ak.b [V.s3]]++[B]++(g++[ak.b (aM x)]))
   (λM=>uv) (λM=>?_) (λM'=>?_) (λM K=>?_) (λM=>xin.ext Xx) (hin x R3) ?_ (Sq t0) (Sq t0) hM) ?_
  ·have eL:(h++[ak.bj (List.map dA [(m,true)])]).length=(h++[ak.bj (List.map dA M)]).length:=Si
   rw[eL];exact sG
  ·have eL:(h++[ak.bj (List.map dA M)]++[ak.b [AV.map h.length]]++[ak.b [V.s3]]++[B]++g).length=(h++[ak.bj (List.map dA M')]++[ak.b [AV.map h.length]]++[ak.b [V.s3]]++[B]++g).length:=Si
   rw[<-YV];have eR:(h++[ak.bj (List.map dA M)]++[ak.b [AV.map h.length]]++[ak.b [V.s3]]++[R]++g).length=(h++[ak.bj (List.map dA M')]++[ak.b [AV.map h.length]]++[ak.b [V.s3]]++[B]++g).length:=Si
   rw[eR];exact a8
  ·exact Bo
  ·simp only[ba,hlen]
  ·rintro e _ _ ⟨rfl,M',rfl,hM'⟩;refine⟨_,_,rfl,Si,?_⟩;rw[Zh rfl];exact⟨M',rfl,λw=>by rw[hM',hns]⟩
 ·by_cases Sk:e=.normal
  case neg=>rw[Za Sk]at hI;exact hI.elim
  subst Sk;rw[Zh rfl]at hI;obtain⟨M,rfl,hM⟩:=hI;have hM:∀w,gp M w=decide (w∈cP m V.an.aC.reverse):=λw=>by
   rw[hM,ZL (by rw[aaT,ji,hlV];exact Zc _)]
  rw[SG];obtain⟨K0,Wt⟩:∃K0,K0=h++[ak.bj (M.map dA)]++[ak.b [AV.map h.length]]++[ak.b [V.s3]]++[ak.dead]++g:=⟨_,rfl⟩;have eK:Ext h K0:=by rw[Wt];exact Xx
  have k1:K0[h.length]? =some (.bj (M.map dA)):=by rw[Wt];exact uv
  have k2:K0[(h++[ak.bj (List.map dA [(m,true)])]).length]? =some (.b [AV.map h.length]):=by
   have eL:(h++[ak.bj (List.map dA [(m,true)])]).length=(h++[ak.bj (List.map dA M)]).length:=Si
   rw[Wt,eL];exact sG
  have hJ0:J K0.length 0 K0:=by
   obtain⟨g',R2⟩:=eK;have:=h0 g'
   rwa [<-R2]at this
  have WW:(h++[ak.bj (List.map dA [(m,true)])]).length<K0.length:=by rw[Wt];simp only[YT,YX,Y6];omega
  have hbb:(h++[ak.bj (List.map dA [(m,true)])]).length=h.length+1:=Si
  rw[<-Wt];generalize K0.length=mm at hJ0 WW;have lr0:∀{n o},ao n (.ptr cr o) (λz=>K0[z]?)=dC n o (.b V.row):=λ{_ _}=>az (eK.some p0.r)
  have hlm3:=λG=>p0.o.i3.aH G
  unfold Oz fn214 gA;simp only[ai.tl];refine Rs (A6 t0 t1 t2 @lr0 @eE @hlm3) ?_;rw[hbb]at k2 WW;refine WL.inv T.mix (λn ts h'=>∃k:Nat,k<=V.aC.length/\n=V.aC.length-k/\J mm ((V.aC.take k).filter λx=>decide (x.1.name∈cP m V.an.aC.reverse)).length h'/\h'[h.length]? =some (.bj (M.map dA))/\h'[h.length+1]? =some (.b [AV.map h.length])/\
    ts.length=56/\slot ts 0=.func (.yield lp) [] []/\slot ts 4=.ptr (h.length+1) 0/\slot ts 39=V.s3/\slot ts 40=.i V.aC.length/\slot ts 41=.i k) V.aC.length
   ⟨0,Om,rfl,hJ0,k1,k2,Sn,(Sq t0),(Sq (A2 t0 @hbb)),(Sq t0),(Sq t0),fV⟩ ?_
  clear t0 t1 t2 hlen lr lm u0 lr0 hJ0 k1 k2 hlm3;clear ts;rintro _ ts h' ⟨k,hk,rfl,hJ,k1,k2,hlen,t0,t4,t39,t40,t41⟩;by_cases hlt:k<V.aC.length
  ·have p1:=hpre _ _ _ hJ;have R3:V.aC[k]∈V.aC:=Zb _;have ix:=p1.o.i3.c8 (kk:=.i64) hlt;have ld:ao (some 4) (cI V.s3 4 k) (λb=>h'[b]?)=some (.agg (aM V.aC[k]),.ar):=p1.o.i3.gS hlt (Ext.refl _);have ox:=p1.o.jl.2.1 _ R3;have e3:=dM hlt;have e5:IntKind.i64.wrap ((k:Int)+1)=((k+1:Nat):Int):=wrapN (by have:=l.l3;omega);have l2:∀{z n o},Ext h' z->ao n (.ptr (h.length+1) o) (λb=>z[b]?)=dC n o (.b [AV.map h.length]):=λ{_ _ _} e=>az (e.some k2)
   have lk:∀{C w},iw .s (.bool false) false (.map h.length) (.str w) (λz=>(h'++[C])[z]?)=some (.bool (gp M w),.ar):=λ{C _}=>pz ((Ext.app [C] (Ext.refl h')).some k1)
   have hf:=Aa (p:=λx:gY×AV=>decide (x.1.name∈cP m V.an.aC.reverse)) hlt;have hs:=Cn (p:=λx:gY×AV=>decide (x.1.name∈cP m V.an.aC.reverse)) hlt;have hMx:=hM V.aC[k].1.name;generalize V.aC[k]=x at *;unfold aM at ld;cases hb:gp M x.1.name with
   |true=>
    rw[hb]at hMx;obtain⟨Va,Uq⟩:=hf hMx.symm;refine Rs (FK t0 t4 t39 t40 t41 ix @ld @ox e3 @l2 @bW @lk @hb) ?_;obtain⟨bb,k',q1,q2,q3⟩:=Sp mm _ (by rw[Y7];exact Va) _ (happ _ _ _ [ak.b [AV.str x.1.name,.str x.1.gives,.str x.1.line,x.2]] hJ);rw[aab]at q1;have hf2':(iK V m)[((V.aC.take k).filter λx=>decide (x.1.name∈cP m V.an.aC.reverse)).length]'Va=x:=Uq;have q1:fw P (.func (.yield lp) [] []) [AV.agg (aM x)] (h'++[ak.b [AV.str x.1.name,.str x.1.gives,.str x.1.line,x.2]]) (.bool bb) k':=by
     refine Eq.mp ?_ q1;congr 1;exact Zv (λy=>[AV.agg (aM y)]) hf2'
    unfold aM at q1;refine WF.Kh q1 ?_;cases bb with
    |true=>
     refine Rs (A7 t0 t4 t39 t40 t41 @Zw e5) ?_;have hlt1:=(YU.1 k1).1;have SQ:=(YU.1 k2).1;refine⟨_,Om,k+1,Om,rfl,?_,?_,?_,rfl⟩
     ·rw[hs,<-hMx,Zh rfl];exact q3
     ·rw[q2 _ Om Om,YY hlt1];exact k1
     ·rw[q2 _ Om Om,YY SQ];exact k2
    |false=>
     refine Rs (A6 t0 t4 t39 t40 t41 @Zz) ?_;exact q3
   |false=>
    rw[hb]at hMx;refine Rs (zt t0 t4 t39 t40 t41 ix @ld @ox e3 @l2 @bW @lk @hb e5) ?_;have hlt1:=(YU.1 k1).1;have SQ:=(YU.1 k2).1;refine⟨_,Om,k+1,Om,rfl,?_,?_,?_,rfl⟩
    ·rw[hs,<-hMx,Za De];exact happ _ _ _ _ hJ
    ·rw[YY hlt1];exact k1
    ·rw[YY SQ];exact k2
  ·have e3:=eC hlt;have e4:k=V.aC.length:=Om
   rw[e4,ZD]at hJ;refine Rs (A6 t0 t4 t39 t40 t41 e3) ?_;refine TM mm h' ?_;rw[Y7];exact hJ
end
def Dv:ai:=((fn122).body.tl.tl).hd
def Ky:ai:=Dv.tl.HY
def Ns:ai:=(fn122).body.tl.tl.tl
def Kx:(fn122).body=.seq ((fn122).body.hd) (.seq ((fn122).body.tl.hd) (.seq (.seq Dv.hd (.block 0 (.fN (.t 10) [11] Ky.DQ Ky.Dg))) Ns)):=rfl
def G5{r N}:km 1 0 (.map r) N (.b [.db])=some (ay,.set N (.b [.map r])):=rfl
def pv{V m}:(iK V m).map Prod.fst=mF V.an m:=by
 rw[iK,mF];show _=List.filter _ (List.map Prod.fst V.aC);rw[aa1];rfl
section
variable {P:Program}(T:fA P) {h:ah}
include T
def r217{x b c M}(hb:h[b]? =some (.b [.map c]))(hc:h[c]? =some (.bj (M.map dA))):aA P 217 [.agg (bG x),.ptr b 0] h (λv _=>v=.bool (gp M x.name)):=by
 refine .eF 8 T.mix T.c217 ?_;intro ts hlen t0 t1;unfold fn217 gA;have lb:∀{k:ah}{n':Option Nat}{a:Nat},Ext h k->ao n' (.ptr b a) (λz=>k[z]?)=dC n' a (.b [.map c]):=λe=>az (e.some hb)
 have lk:∀{C w},iw .s (.bool false) false (.map c) (.str w) (λz=>(h++[C])[z]?)=some (.bool (gp M w),.ar):=λ{C _}=>pz ((Ext.app [C] (Ext.refl h)).some hc)
 unfold bG at t0;exact Rs (A5 t0 t1 @lb @bW @lk) Tv
def r122{V}(o:aB h V)(l:eT V)(hin:∀x∈V.aC,x.1.bo.length<2^30)(m:By):aA P 122 [.agg V.row,.str m] h (λv h'=>aK h' v 3 ((iT V.an m).map bG)):=by
 refine .of T.mix T.c122 ?_;obtain⟨ts,RD⟩:∃ts,ts=aV 19 [.agg V.row,.str m]:=⟨_,rfl⟩;have hlen:ts.length=19:=by rw[RD];rfl
 have t0:slot ts 0=.agg V.row:=by rw[RD];rfl
 have t1:slot ts 1=.str m:=by rw[RD];rfl
 show WC P bJ (fn122).body [] (aV 19 [.agg V.row,.str m]) h _;rw[<-RD,Kx];clear RD;obtain⟨RR,SG⟩:∃RR,RR=Ns:=⟨_,rfl⟩;obtain⟨RA,XP⟩:∃RA,RA=Ky.DQ:=⟨_,rfl⟩;obtain⟨RB,XO⟩:∃RB,RB=Ky.Dg:=⟨_,rfl⟩;rw[<-SG,<-XP,<-XO];unfold Dv fn122 gA;simp only[ai.tl,ai.hd];have Rz:=@aB.box _ _ o;refine Rs (A6 t0 t1 @Rz @CF @G5 @aG) ?_;obtain⟨H0,Ug⟩:∃H0,H0=h++[ak.b V.row]:=⟨_,rfl⟩;have e0:Ext h H0:=by rw[Ug];exact Xx
 rw[<-Ug];refine WF.res T.c119 (r119 T (o.ext (e0.trans Xx)) m) ?_;rintro _ g1 ⟨rfl,hp⟩;refine Rs (A2 t0 t1) ?_;obtain⟨cm,Wp⟩:∃cm,cm=(H0++[ak.bj []]++[ak.b [AV.map H0.length]]).length:=⟨_,rfl⟩;rw[<-Wp]at hp ⊢;have pmap:∀(M:List (By×Bool)) (Z:ah),qn V m (cm+1) cm (H0++[ak.bj (M.map dA)]++[ak.b [AV.map H0.length]]++g1++Z):=by
  intro M Z;have hne:∀b,b≠H0.length->(H0++[ak.bj (M.map dA)]++[ak.b [AV.map H0.length]]++g1)[b]? =(H0++[ak.bj []]++[ak.b [AV.map H0.length]]++g1)[b]? :=λb hb=>by
   have:=qB (A:=H0) (B:=[ak.b [AV.map H0.length]]++g1) (K:=ak.bj (M.map dA)) (K':=ak.bj []) (b:=b) hb
   simpa only[YV]using this
  have hcl:cm=H0.length+2:=by rw[Wp];simp
  refine qn.ext ⟨(hne _ Om).trans hp.m,(hne _ Om).trans hp.r,(o.ext e0).ext Xx⟩ (Ext.app Z (Ext.refl _))
 refine WC.iterM T.mix T.c214 (a:=[]) (c:=[.ptr (cm+1) 0,.ptr cm 0]) (Sq t0) (rz T l hin m (cm+1) cm) (λy hy=>by obtain⟨z,_,rfl⟩:=ZB.1 hy;rfl)
  (λmm i h' g=>∃M:List (By×Bool),h' =H0++[ak.bj (M.map dA)]++[ak.b [AV.map H0.length]]++g1/\mm<=h'.length+1+g.length/\∀w,gp M w=decide (w∈((iK V m).take i).map λx=>x.1.line)) (λ_ _ _=>False)
  (λg=>⟨[],rfl,Zc _,λw=>rfl⟩) (λmm i h' g g' hI=>by obtain⟨M,a1,a2,a3⟩:=hI;exact⟨M,a1,by rw[YT];omega,a3⟩) (λX=>pmap [] [X]) (λmm i h' g X hl hI=>?_) (λmm i hi h' g R B RJ hI=>?_) (λe h' g hl hI=>?_)
 ·obtain⟨M,rfl,_⟩:=hI;rw[YV (H0++[ak.bj (M.map dA)]++[ak.b [AV.map H0.length]]++g1)];exact pmap M _
 ·obtain⟨M,rfl,WW,hM⟩:=hI;have hi':i<(iK V m).length:=by simpa using hi
  rw[aab,XP,XO];have R3:(iK V m)[i]∈V.aC:=(aag.1 (Zb hi')).1;have RX:((iK V m).take (i+1)).map (λx=>x.1.line)=((iK V m).take i).map (λx=>x.1.line)++[(iK V m)[i].1.line]:=by
   rw[ZJ,YZ hi',Y9];rfl
  generalize (iK V m)[i]=x at *;have ox:=o.jl.2.1 x R3;have eL:∀K:List (By×Bool),(H0++[ak.bj (K.map dA)]).length=(H0++[ak.bj []]).length:=λK=>by simp
  have u0:∀{Z Y:ah},ub .s (.map H0.length) (.str x.1.line) (.bool true) (λz=>(H0++[ak.bj (M.map dA)]++[ak.b [AV.map H0.length]]++g1++[B]++Z++Y)[z]?)=some (ay,.set H0.length (.bj ((rL M x.1.line true).map dA))):=λ{Z Y}=>rl CR
  have lb:∀{Z Y:ah}{n a},ao n (.ptr (H0++[ak.bj []]).length a) (λz=>(H0++[ak.bj (M.map dA)]++[ak.b [AV.map H0.length]]++g1++[B]++Z++Y)[z]?)=dC n a (.b [.map H0.length]):=λ{Z Y _ _}=>by
   rw[<-eL M];exact az uv
  have lx:∀{n a},ao n (.ptr (H0++[ak.bj (M.map dA)]++[ak.b [AV.map H0.length]]++g1++[R]++g).length a) (λz=>(H0++[ak.bj (M.map dA)]++[ak.b [AV.map H0.length]]++g1++[B]++g++[ak.b [AV.str x.1.name,.str x.1.gives,.str x.1.line,x.2]])[z]?)=dC n a (.b [AV.str x.1.name,.str x.1.gives,.str x.1.line,x.2]):=λ{_ _}=>by
   have:(H0++[ak.bj (M.map dA)]++[ak.b [AV.map H0.length]]++g1++[R]++g).length=(H0++[ak.bj (M.map dA)]++[ak.b [AV.map H0.length]]++g1++[B]++g).length:=Si
   rw[this];exact az a8
  unfold Ky Dv fn122 gA;simp only[ai.tl,ai.hd,ai.HY,ai.DQ,ai.Dg,setArgs,aM];refine Rs (A3 t0 t1 @ox) ?_;refine⟨_,g++[ak.b [AV.str x.1.name,.str x.1.gives,.str x.1.line,x.2]],by rw[<-YV],RJ,?_⟩;rw[<-YV];refine Rs (A7 t0 t1 @ox @lb @lx @jk @u0) ?_;refine⟨_,g++[ak.b [AV.str x.1.name,.str x.1.gives,.str x.1.line,x.2]],by rw[<-YV],Si,λy hy=>YY ?_,_,rfl,?_,λw=>?_⟩
  ·simp only[YT,YX,Y6]at hy WW;omega
  ·simp only[YT,YX,Y6]at WW ⊢;omega
  ·rw[rN,RX];by_cases hw:w=x.1.line
   ·rw[Zh hw];simp[hw]
   ·rw[Za hw,hM];simp[hw]
 ·by_cases Sk:e=.normal
  case neg=>rw[Za Sk]at hI;exact hI.elim
  subst Sk;rw[Zh rfl]at hI;obtain⟨mm,M,rfl,_,hM⟩:=hI;rw[Y7,ZD]at hM;rw[SG];have eL:(H0++[ak.bj (M.map dA)]).length=(H0++[ak.bj []]).length:=Si
  obtain⟨K0,Wt⟩:∃K0,K0=H0++[ak.bj (M.map dA)]++[ak.b [AV.map H0.length]]++g1++[ak.dead]++g:=⟨_,rfl⟩;have eK:Ext H0 K0:=by rw[Wt];exact Xx
  have k1:K0[H0.length]? =some (.bj (M.map dA)):=by rw[Wt];exact uv
  have k2:K0[(H0++[ak.bj []]).length]? =some (.b [AV.map H0.length]):=by
   rw[Wt,<-eL];exact sG
  rw[<-Wt];have lr:∀{k n a},Ext K0 k->ao n (.ptr h.length a) (λz=>k[z]?)=dC n a (.b V.row):=λ{_ _ _} e=>az ((eK.trans e).some (by rw[Ug];exact a8))
  unfold Ns fn122 gA;simp only[ai.tl];refine Rs (A4 t0 t1 @lr @eP) ?_;refine WF.res T.c216 (r216 T (o.i0.ext (e0.trans (eK.trans Xx))) (by have:=l.l0;omega) (λx=>gp M x.name) (λx hx k e=>bH.of (a:=[]) (c:=[.ptr (H0++[ak.bj []]).length 0]) T.c217 (r217 T (e.some k2) (e.some k1)))) ?_;rintro s1 g2 hf;have eh:=e0.trans eK;have es:V.lines.filter (λx=>gp M x.name)=iT V.an m:=by
   refine List.filter_congr λx _=>?_
   rw[hM,<-pv,aaE];rfl
  rw[es]at hf;have:=hf.aW;refine Rs (A2 t0 t1) ?_;exact⟨Ext.app _ eh,this⟩
end
def fS(x:Nat×Bool):List AV:=[.i (x.1:Int),.bool x.2]
def j7:Kd->AV
 |.eZ=>.nilFunc
 |.line=>.func (.func 148) [] []
 |.tape=>.func (.func 151) [] []
 |.gq=>.func (.func 155) [] []
 |.copy=>.func (.func 157) [] []
 |.accept=>.func (.func 159) [] []
 |.source=>.func (.func 161) [] []
 |.fZ=>.func (.func 163) [] []
 |.merge=>.func (.func 165) [] []
 |.run=>.func (.func 167) [] []
 |.fW=>.func (.func 169) [] []
 |.fail=>.func (.func 171) [] []
 |.gu=>.func (.func 173) [] []
 |.rel=>.func (.func 175) [] []
def pA:Kd->AV
 |.eZ=>.nilFunc
 |.line=>.func (.func 149) [] []
 |.tape=>.func (.func 152) [] []
 |.gq=>.func (.func 156) [] []
 |.copy=>.func (.func 158) [] []
 |.accept=>.func (.func 160) [] []
 |.source=>.func (.func 162) [] []
 |.fZ=>.func (.func 164) [] []
 |.merge=>.func (.func 166) [] []
 |.run=>.func (.func 168) [] []
 |.fW=>.func (.func 170) [] []
 |.fail=>.func (.func 172) [] []
 |.gu=>.func (.func 174) [] []
 |.rel=>.func (.func 176) [] []
def Ef:Kd->Option Nat
 |.eZ=>none
 |.line=>some 0
 |.tape=>some 3
 |.gq=>some 1
 |.copy=>some 3
 |.accept=>some 0
 |.source=>some 1
 |.fZ=>none
 |.merge=>none
 |.run=>none
 |.fW=>none
 |.fail=>none
 |.gu=>none
 |.rel=>none
def yw(h:ah)(d:Kd)(v:AV):Prop:=
 match Ef d with
 |none=>v=.nilFunc
 |some 3=>v=.func (.func 153) [] []
 |some i=>∃b,v=.func (.func 240) [] [.ptr b 0]/\h[b]? =some (.b [.i (i:Int)])
structure AM(h:ah)(d:Kd)(v:AV):Prop where
 ex:∃rs a,v=.agg [rs,.i (cE d:Int),j7 d,pA d,a]/\aK h rs 2 ((bM d).map fS)/\a.one=true/\yw h d a
def ON(vf:Kd->AV):List (AV×AV):=F8.map λd=>(.str (bA d),vf d)
structure uK(h:ah)(r:Nat)(vf:Kd->AV):Prop where
 m:h[r]? =some (.bj (ON vf))
 k:∀d,AM h d (vf d)
theorem y4{vf:Kd->AV}{k:By}:∀{L:List Kd},jo .s (.str k) (L.map λd=>(AV.str (bA d),vf d))=some ((L.find? λd=>bA d==k).map vf)
 |[]=>rfl
 |d::L=>by
  rw[ZX,List.find?_cons];by_cases hk:k=bA d
  ·subst hk;simp only[jo,cT,BEq.rfl,aaS]
  ·have h1:(k==bA d)=false:=by simp[hk]
   have h2:(bA d==k)=false:=by simp[aai hk]
   simp only[jo,cT,h1,h2];exact y4
def uK.look{h:ah}{r:Nat}{vf:Kd->AV}(o:uK h r vf){z:AV}{ok:Bool}{k:By}:iw .s z ok (.map r) (.str k) (λb=>h[b]?)=lC z ok ((gO k).map vf):=rq o.m y4
def GF(h g:ah)(s:AV)(rs:List (Nat×Bool)):Prop:=∀X,aK (h++[X]++g) s 2 (rs.map fS)
theorem GF.app{h g s rs}(o:GF h g s rs)(g':ah):GF h (g++g') s rs:=λX=>by rw[<-YV];exact(o X).app g'
def Rx(h g:ah)(b:Nat)(i:Int):Prop:=∀X,(h++[X]++g)[b]? =some (ak.b [.i i])
theorem yw.app{h d v}(o:yw h d v)(g:ah):yw (h++g) d v:=by
 unfold yw at *;split at o
 ·exact o
 ·exact o
 ·obtain⟨b,h1,h2⟩:=o;exact⟨b,h1,(Ext.app g (Ext.refl _)).some h2⟩
theorem AM.app{h d v}(o:AM h d v)(g:ah):AM (h++g) d v:=by
 obtain⟨rs,a,e,hs,ha,hb⟩:=o.ex;exact⟨rs,a,e,hs.app g,ha,hb.app g⟩
def lD(ds:List Kd)(vf:Kd->AV):List (AV×AV):=ds.map λd=>(.str (bA d),vf d)
def Ee(vf:Kd->AV)(d:Kd)(v:AV):Kd->AV:=λx=>if x=d then v else vf x
def AQ(a:Nat)(F:List (Nat×AV)):Bool:=decide (a<56)&&decide (a≠1)&&F.all λp=>decide (p.1≠a)
structure rZ(h:ah)(ts:TS)(g:ah)(ds:List Kd)(vf:Kd->AV)(F:List (Nat×AV)):Prop where
 l:ts.length=56
 m:slot ts 1=.map h.length
 f:∀p∈F,slot ts p.1=p.2
 e:∀d∈ds,∀X,AM (h++[X]++g) d (vf d)
def rZ.put{h ts g ds vf F}(s:rZ h ts g ds vf F){a v}(g':ah)(hc:AQ a F=true):rZ h (ts.set a v) (g++g') ds vf ((a,v)::F):=by
 simp only[AQ,ZE,ZO,ZC]at hc;have hl:a+1<=ts.length:=by rw[s.l];omega
 refine⟨by simp only[ba,s.l],by simp only[ba,aar hc.1.2,s.m],λp hp=>?_,λd hd X=>?_⟩
 ·rcases ZG.1 hp with rfl|hp
  ·simp only[ba,hl]
  ·simp only[ba,aar (λe=>hc.2 p hp (Eq.symm e)),s.f p hp]
 ·rw[<-YV];exact(s.e d hd X).app g'
theorem Bb{vf k v}:∀{ds},ds.all (λx=>!(bA x==k))=true->pg .s (.str k) v (lD ds vf)=some (lD ds vf++[(.str k,v)])
 |[],_=>rfl
 |d::ds,hd=>by
  rw[aau,ZE]at hd;have h2:(bA d==k)=false:=by simpa using hd.1
  have h3:¬bA d=k:=by simpa using hd.1
  have h1:(k==bA d)=false:=by simp[aai h3]
  have:=Bb (vf:=vf) (v:=v) hd.2;unfold lD at *;simp only[ZX,pg,cT,h1,h2,this,aaS,aaa]
def iG:AV.one .nilFunc=true:=rfl
section
variable {P:Program}(T:fA P) {h:ah}
include T
def r147(t:Int):aA P 147 [.i t] h (λv _=>v=.agg [.i t,.bool false]):=by
 refine .of T.mix T.c147 ?_;unfold fn147 gA;exact Wn Tv
def r154(t:Int):aA P 154 [.i t] h (λv _=>v=.agg [.i t,.bool true]):=by
 refine .of T.mix T.c154 ?_;unfold fn154 gA;exact Wn Tv
def r150(i:Int):aA P 150 [.i i] h (λv h'=>v=.func (.func 240) [] [.ptr h.length 0]/\h' =h++[.b [.i i]]):=by
 refine .of T.mix T.c150 ?_;unfold fn150 gA;exact Wn Tv
section
variable {ks:List Kt}{ts:TS}{Q:Ex->TS->ah->Prop}{g:ah}{ds:List Kd}{vf:Kd->AV}{F:List (Nat×AV)}{a:Nat}{l:List bK}
def jF{t}(s:rZ h ts g ds vf F)(hc:AQ a F=true)(K:∀ts' g',rZ h ts' (g++g') ds vf ((a,.agg [.i t,.bool false])::F)->WP P bJ l ks ts' (h++[.bj (lD ds vf)]++(g++g')) Q):
  WP P bJ (.c a 147 [.c (.i t)]::l) ks ts (h++[.bj (lD ds vf)]++g) Q:=by
 refine Wn ?_;refine WF.ce T.c147 (r147 T t) λg1=>?_
 exact JO
def jE{t}(s:rZ h ts g ds vf F)(hc:AQ a F=true)(K:∀ts' g',rZ h ts' (g++g') ds vf ((a,.agg [.i t,.bool true])::F)->WP P bJ l ks ts' (h++[.bj (lD ds vf)]++(g++g')) Q):
  WP P bJ (.c a 154 [.c (.i t)]::l) ks ts (h++[.bj (lD ds vf)]++g) Q:=by
 refine Wn ?_;refine WF.ce T.c154 (r154 T t) λg1=>?_
 exact JO
def Eg{t}(s:rZ h ts g ds vf F)(hc:AQ a F=true)(K:∀ts' g' b,rZ h ts' (g++g') ds vf ((a,.func (.func 240) [] [.ptr b 0])::F)->Rx h (g++g') b t->WP P bJ l ks ts' (h++[.bj (lD ds vf)]++(g++g')) Q):
  WP P bJ (.c a 150 [.c (.i t)]::l) ks ts (h++[.bj (lD ds vf)]++g) Q:=by
 refine Wn ?_;refine WF.res T.c150 (r150 T t) ?_;rintro _ g1 ⟨rfl,hg⟩;have hg:=aaN hg;subst hg;rw[YV (h++[ak.bj (lD ds vf)]) g];refine K _ _ _ (s.put _ hc) λX=>?_
 have e:(h++[ak.bj (lD ds vf)]++g).length=(h++[X]++g).length:=Si
 rw[e,<-YV];exact a8
theorem Cg{N}(s:rZ h ts g ds vf F)(hc:AQ a []=true){n xs}(hN:N=(h++[ak.bj (lD ds vf)]++g).length)(hn:xs.length=n)(K:∀ts' g' s,rZ h ts' (g++g') ds vf [(a,s)]->GF h (g++g') s xs->WP P bJ l ks ts' (h++[.bj (lD ds vf)]++(g++g')) Q):
  WP P bJ l ks (ts.set a (.slice N 0 n 2)) (h++[.bj (lD ds vf)]++g++[.cells (xs.map fS).flatten true true]) Q:=by
 subst hN;subst hn;rw[YV (h++[ak.bj (lD ds vf)]) g];have s0:rZ h ts g ds vf []:=⟨s.l,s.m,λ_ hp=>(by cases hp),s.e⟩;refine K _ _ _ (s0.put _ hc) λX=>?_
 have e:(h++[ak.bj (lD ds vf)]++g).length=(h++[X]++g).length:=Si
 rw[e,<-YV];have:=(Fr.push (N:=0) (h:=h++[X]++g) (ZA _) (xs.map fS) (es:=2) (by intro c hc;obtain⟨x,_,rfl⟩:=ZB.1 hc;rfl)).aW
 rwa [Y7]at this
def tu{a0 x0}(s:rZ h ts g ds vf [(a0,.agg (fS x0))])(hc:AQ a []=true)(K:∀ts' g' s,rZ h ts' (g++g') ds vf [(a,s)]->GF h (g++g') s [x0]->WP P bJ l ks ts' (h++[.bj (lD ds vf)]++(g++g')) Q):
  WP P bJ (.o a (.bg 2 1 [.i 0,.bool false] [(0,.t a0)])::l) ks ts (h++[.bj (lD ds vf)]++g) Q:=by
 have s0:slot ts a0=.agg [.i (x0.1:Int),.bool x0.2]:=s.f (a0,.agg (fS x0)) Si;refine Ws @s0 ?_;exact Cg T s hc rfl rfl K
def vR{a0 a1 x0 x1}(s:rZ h ts g ds vf [(a1,.agg (fS x1)),(a0,.agg (fS x0))])(hc:AQ a []=true)(K:∀ts' g' s,rZ h ts' (g++g') ds vf [(a,s)]->GF h (g++g') s [x0,x1]->WP P bJ l ks ts' (h++[.bj (lD ds vf)]++(g++g')) Q):
  WP P bJ (.o a (.bg 2 2 [.i 0,.bool false] [(0,.t a0),(2,.t a1)])::l) ks ts (h++[.bj (lD ds vf)]++g) Q:=by
 have s0:slot ts a0=.agg [.i (x0.1:Int),.bool x0.2]:=s.f (a0,.agg (fS x0)) Si;have s1:slot ts a1=.agg [.i (x1.1:Int),.bool x1.2]:=s.f (a1,.agg (fS x1)) Si;refine Ws (A2 @s0 @s1) ?_;exact Cg T s hc rfl rfl K
def Ga{a0 a1 a2 x0 x1 x2}(s:rZ h ts g ds vf [(a2,.agg (fS x2)),(a1,.agg (fS x1)),(a0,.agg (fS x0))])(hc:AQ a []=true)(K:∀ts' g' s,rZ h ts' (g++g') ds vf [(a,s)]->GF h (g++g') s [x0,x1,x2]->WP P bJ l ks ts' (h++[.bj (lD ds vf)]++(g++g')) Q):
  WP P bJ (.o a (.bg 2 3 [.i 0,.bool false] [(0,.t a0),(2,.t a1),(4,.t a2)])::l) ks ts (h++[.bj (lD ds vf)]++g) Q:=by
 have s0:slot ts a0=.agg [.i (x0.1:Int),.bool x0.2]:=s.f (a0,.agg (fS x0)) Si;have s1:slot ts a1=.agg [.i (x1.1:Int),.bool x1.2]:=s.f (a1,.agg (fS x1)) Si;have s2:slot ts a2=.agg [.i (x2.1:Int),.bool x2.2]:=s.f (a2,.agg (fS x2)) Si;refine Ws (A3 @s0 @s1 @s2) ?_;exact Cg T s hc rfl rfl K
theorem LA{v}:WP P bJ [.o a (.cg (.c v))] ks ts h Q=WE P bJ .normal ks (ts.set a v) h Q:=by
 unfold bK.o;rw[Da,C8,yA,pT]
theorem LB:WP P bJ (.o a .nV::l) ks ts h Q=WP P bJ l ks (ts.set a (.map h.length)) (h++[.bj []]) Q:=wM
theorem F9{z ps v}(d:Kd)(s:rZ h ts g ds vf F)(hc:AQ a []=true)(hd:ds.all (λx=>!(bA x==bA d))=true)
  (hv:rK (eV z (ps.map λp=>(p.1,p.2.1,val ts p.2.2)))=some v) (ok:∀X,AM (h++[X]++g) d v)
  (K:∀ts',rZ h ts' g (ds++[d]) (Ee vf d v) []->WP P bJ l ks ts' (h++[.bj (lD (ds++[d]) (Ee vf d v))]++g) Q):
  WP P bJ (.o a (.build z ps):: .x (.fO .s (.t 1) (.c (.str (bA d))) (.t a))::l) ks ts (h++[.bj (lD ds vf)]++g) Q:=by
 have e1:ub .s (.map h.length) (.str (bA d)) v (λb=>(h++[ak.bj (lD ds vf)]++g)[b]?)=some (ay,.set h.length (.bj (lD ds vf++[(.str (bA d),v)]))):=ua qp (Bb hd);have hn:∀x∈ds,x≠d:=λx hx e=>by
  have:=ZC.1 hd x hx;rw[e]at this;simp at this
 have eL:lD ds vf++[(.str (bA d),v)]=lD (ds++[d]) (Ee vf d v):=by
  unfold lD;rw[Y9,List.map_singleton,Ee,Zh rfl];exact Zv (· ++_) (List.map_congr_left λx hx=>by rw[Ee,Za (hn x hx)])
 unfold bK.o bK.x;rw[rT,hv,uA,uF];simp only[AQ,ZE,ZO]at hc;have hl:a+1<=ts.length:=by rw[s.l];omega
 have e2:val (put ts (some a) v) (.t 1)=.map h.length:=by
  simp only[pT,uS,ba,aar hc.1.2,s.m]
 have e3:val (put ts (some a) v) (.t a)=v:=by simp only[pT,uS,ba,hl]
 rw[jk,e2,e3,yA,e1,rS,BW,pT];have e4:(h++[ak.bj (lD ds vf)]++g).set h.length (.bj (lD ds vf++[(.str (bA d),v)]))=h++[.bj (lD ds vf++[(.str (bA d),v)])]++g:=yK;rw[e4,eL];refine K _ ⟨by simp only[ba,s.l],by simp only[ba,aar hc.1.2,s.m],λ_ hp=>(by cases hp),λx hx X=>?_⟩;rcases Y8.1 hx with hx|hx
 ·rw[Ee,Za (hn x hx)];exact s.e x hx X
 ·rw[Zj.1 hx,Ee,Zh rfl];exact ok X
def pB{i f2 f3 n x4 r a4}(d:Kd)(s:rZ h ts g ds vf F)(hc:AQ a []=true)(hd:ds.all (λx=>!(bA x==bA d))=true)(hi:(i,r)∈F)(hb:GF h g r (bM d))(h4:val ts x4=a4)(o4:a4.one=true)(b4:∀X,yw (h++[X]++g) d a4)
  (hn:(cE d:Int)=n) (h2:j7 d=.func (.func f2) [] []) (h3:pA d=.func (.func f3) [] [])
  (K:∀ts',rZ h ts' g (ds++[d]) (Ee vf d (.agg [r,.i n,j7 d,pA d,a4])) []->WP P bJ l ks ts' (h++[.bj (lD (ds++[d]) (Ee vf d (.agg [r,.i n,j7 d,pA d,a4])))]++g) Q):
  WP P bJ (.o a (.build [.af,.i 0,.nilFunc,.nilFunc,.nilFunc] [(0,1,.t i),(1,1,.c (.i n)),(2,1,.f f2),(3,1,.f f3),(4,1,x4)]):: .x (.fO .s (.t 1) (.c (.str (bA d))) (.t a))::l) ks ts (h++[.bj (lD ds vf)]++g) Q:=by
 have s0:slot ts i=r:=s.f (i,r) hi;have o0:r.one=true:=(hb (.bj [])).one;refine F9 T d s hc hd ?_ (λX=>⟨r,a4,by rw[hn],hb X,o4,b4 X⟩) K;exact Ws (A6 @s0 @h4 @o0 @o4 @h2 @h3) Tv
end
def r90:aA P 90 [] h (λv h'=>∃vf,v=.map h.length/\uK h' h.length vf):=by
 refine .Q1 56 T.mix T.c90 ?_;intro ts hlen;unfold fn90;have m0:slot ((ts.set 0 AV.db).set 1 (.map h.length)) 1=.map h.length:=by simp only[ba,hlen,reduceAdd,reduceLeDiff]
 have l0:((ts.set 0 AV.db).set 1 (.map h.length)).length=56:=by simp only[ba,hlen]
 dsimp only[ai.j,ai.s,ai.r];rw[rV,rW,LA T,uH,rV,rW,LB T];rw[<-Zr (h++[ak.bj []])];generalize (ts.set 0 AV.db).set 1 (.map h.length)=ts at *;clear hlen;have s:rZ h ts [] [] (λ_=>ay) []:=⟨l0,m0,λ_ hp=>(by cases hp),λ_ hd=>(by cases hd)⟩;clear l0 m0;refine F9 T .eZ s rfl rfl (v:=.agg [.af,.i 0,.nilFunc,.nilFunc,.nilFunc]) rfl (λX=>⟨_,_,rfl,.nil,rfl,rfl⟩) ?_;intro ts s;refine jF T (t:=0) s rfl ?_;intro ts g s;refine tu T (x0:=(0,false)) s rfl ?_;intro ts g r s b;refine Eg T (t:=0) s rfl ?_;intro ts g p s c;refine pB T .line s rfl rfl (by simp only[ZG,true_or,or_true]) (b.app g) (s.f (_,_) (ZU ..)) rfl (λX=>⟨p,rfl,c X⟩) rfl rfl rfl ?_
 intro ts s;refine jF T (t:=1) s rfl ?_;intro ts g s;refine tu T (x0:=(1,false)) s rfl ?_;intro ts g r s b;refine pB T .tape s rfl rfl (ZU ..) b rfl rfl (λ_=>rfl) rfl rfl rfl ?_;intro ts s;refine jF T (t:=2) s rfl ?_;intro ts g s;refine jE T (t:=0) s rfl ?_;intro ts g s;refine jE T (t:=1) s rfl ?_;intro ts g s;refine Ga T (x0:=(2,false)) (x1:=(0,true)) (x2:=(1,true)) s rfl ?_;intro ts g r s b;refine Eg T (t:=1) s rfl ?_;intro ts g p s c;refine pB T .gq s rfl rfl (by simp only[ZG,true_or,or_true]) (b.app g) (s.f (_,_) (ZU ..)) rfl (λX=>⟨p,rfl,c X⟩) rfl rfl rfl ?_;intro ts s;refine jE T (t:=1) s rfl ?_
 intro ts g s;refine jE T (t:=1) s rfl ?_;intro ts g s;refine vR T (x0:=(1,true)) (x1:=(1,true)) s rfl ?_;intro ts g r s b;refine pB T .copy s rfl rfl (ZU ..) b rfl rfl (λ_=>rfl) rfl rfl rfl ?_;intro ts s;refine jE T (t:=0) s rfl ?_;intro ts g s;refine tu T (x0:=(0,true)) s rfl ?_;intro ts g r s b;refine Eg T (t:=0) s rfl ?_;intro ts g p s c;refine pB T .accept s rfl rfl (by simp only[ZG,true_or,or_true]) (b.app g) (s.f (_,_) (ZU ..)) rfl (λX=>⟨p,rfl,c X⟩) rfl rfl rfl ?_;intro ts s;refine jF T (t:=3) s rfl ?_;intro ts g s;refine jE T (t:=0) s rfl ?_;intro ts g s;refine vR T (x0:=(3,false)) (x1:=(0,true)) s rfl ?_
 intro ts g r s b;refine Eg T (t:=1) s rfl ?_;intro ts g p s c;refine pB T .source s rfl rfl (by simp only[ZG,true_or,or_true]) (b.app g) (s.f (_,_) (ZU ..)) rfl (λX=>⟨p,rfl,c X⟩) rfl rfl rfl ?_;intro ts s;refine jF T (t:=3) s rfl ?_;intro ts g s;refine jE T (t:=3) s rfl ?_;intro ts g s;refine vR T (x0:=(3,false)) (x1:=(3,true)) s rfl ?_;intro ts g r s b;refine pB T .fZ s rfl rfl (ZU ..) b rfl rfl (λ_=>rfl) rfl rfl rfl ?_;intro ts s;refine jF T (t:=3) s rfl ?_;intro ts g s;refine jE T (t:=3) s rfl ?_;intro ts g s;refine jE T (t:=3) s rfl ?_;intro ts g s;refine Ga T (x0:=(3,false)) (x1:=(3,true)) (x2:=(3,true)) s rfl ?_
 intro ts g r s b;refine pB T .merge s rfl rfl (ZU ..) b rfl rfl (λ_=>rfl) rfl rfl rfl ?_;intro ts s;refine jF T (t:=4) s rfl ?_;intro ts g s;refine jE T (t:=3) s rfl ?_;intro ts g s;refine vR T (x0:=(4,false)) (x1:=(3,true)) s rfl ?_;intro ts g r s b;refine pB T .run s rfl rfl (ZU ..) b rfl rfl (λ_=>rfl) rfl rfl rfl ?_;intro ts s;refine jE T (t:=4) s rfl ?_;intro ts g s;refine tu T (x0:=(4,true)) s rfl ?_;intro ts g r s b;refine pB T .fW s rfl rfl (ZU ..) b rfl rfl (λ_=>rfl) rfl rfl rfl ?_;intro ts s;refine jE T (t:=4) s rfl ?_;intro ts g s;refine tu T (x0:=(4,true)) s rfl ?_;intro ts g r s b
 refine pB T .fail s rfl rfl (ZU ..) b rfl rfl (λ_=>rfl) rfl rfl rfl ?_;intro ts s;refine jF T (t:=5) s rfl ?_;intro ts g s;refine jE T (t:=4) s rfl ?_;intro ts g s;refine vR T (x0:=(5,false)) (x1:=(4,true)) s rfl ?_;intro ts g r s b;refine pB T .gu s rfl rfl (ZU ..) b rfl rfl (λ_=>rfl) rfl rfl rfl ?_;intro ts s;refine jE T (t:=5) s rfl ?_;intro ts g s;refine tu T (x0:=(5,true)) s rfl ?_;intro ts g r s b;refine pB T .rel s rfl rfl (ZU ..) b rfl rfl (λ_=>rfl) rfl rfl rfl ?_;intro ts s;have hlen:=s.l;have t1:=s.m;refine Rs t1 ?_;exact⟨_,qp,λd=>s.e d (by cases d<;>decide) _⟩
end
end Go.Abs
