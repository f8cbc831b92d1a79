/- A part of the proof that HouseStories holds. No condition. -/
import Derived.Test.YtgplmdgpmbegiaaGreatDoorSt4
import Derived.Test.YtgplmdgpmbegiaaGreatDoorSt0
set_option maxHeartbeats 4000000
set_option linter.all false
open Nat (reduceAdd reduceMul reduceLeDiff reduceEqDiff)
namespace Go.Abs
def fU:
  (∀{b o:Nat} {n:Option Nat} {X:ah} {K:ak} (_:b=X.length),aq n (.ptr b o) (fun z=>(X++ [K])[z]?)=dE n o K)∧
  (∀{b o:Nat} {n:Option Nat} {X a:ah} (_:b < X.length),aq n (.ptr b o) (fun z=>(X++a)[z]?)=aq n (.ptr b o) (fun z=>X[z]?))∧
  (∀{b o y:Nat} {v:AV} {X:ah} {K:ak} (_:b=X.length),aT y (.ptr b o) v (fun z=>(X++ [K])[z]?)=kV y o v b K)∧
  (∀{b o y:Nat} {v:AV} {X a:ah} (_:b < X.length),aT y (.ptr b o) v (fun z=>(X++a)[z]?)=aT y (.ptr b o) v (fun z=>X[z]?))∧
  (∀{b:Nat} {X:ah} {K K':ak} (_:b=X.length),(X++ [K]).set b K' =X++ [K'])∧
  (∀{b:Nat} {X a:ah} {K':ak} (_:b < X.length),(X++a).set b K' =X.set b K'++a)∧
  (∀{b pos:Nat} {s:By} {X:ah} (_:b=X.length),fw (.ptr b 0) (fun z=>(X++ [.iter s pos])[z]?)=dV b s pos)∧
  (∀{b:Nat} {X a:ah} (_:b < X.length),fw (.ptr b 0) (fun z=>(X++a)[z]?)=fw (.ptr b 0) (fun z=>X[z]?)):=by
 refine⟨fun h=>?_,fun h=>?_,fun h=>?_,fun h=>?_,fun h=>?_,fun h=>?_,fun h=>?_,fun h=>?_⟩
 ·subst h;exact az ba
 ·simp only[aq,c6 _ h]
 ·subst h;exact aN ba
 ·simp only[aT,c6 _ h]
 ·subst h;exact yJ
 ·exact eI _ _ h
 ·subst h;exact dF ba
 ·simp only[fw,c6 _ h]
end Go.Abs
namespace Go.Abs
def mU{h':ah}{X:ak}{g:ah}{n:Nat}(hn:h'.length=n): (h'++ [X]++g)[n]? =some X:=by
 subst hn;exact JM
def rp{h':ah}{X Y:ak}{g:ah}{n:Nat}(hn:h'.length=n): (h'++ [X]++g).set n Y=h'++ [Y]++g:=by
 subst hn;rw[X4,YX _ _ (Yg _),Zb,X4];rfl
structure Iter(P:Program)(f:FuncId)(a c:List AV)(L:List (List AV))(pre:ah→Prop):Prop where
 run:∀ (l:Nat) (h:ah) (J:Nat→ah→Prop) (D:ah→Prop),(∀i k,J i k→pre k)→(∀i k g,J i k→J i (k++g))→
  (∀i (hi:i < L.length) k,J i k→∃b k',fg P (.func (.yield l) [] []) L[i] k (.bool b) k'∧(if b=true then J (i+1) k' else D k'))→
  (∀k,J L.length k→D k)→J 0 h→da P f (a++ [.func (.yield l) [] []]++c) h (fun _ k=>D k)
section
variable {P:Program} {ks:List Kt} {ts:TS} {h:ah} {Q:Ex→TS→ah→Prop}
def WC.iter(hmix:P.follows .mixedOrders=true){f A a c L pre g ps asg body}(hA:bQ P f=some A)
  (hg:val ts g= .func (.func f) a c) (hi:Iter P f a c L pre) (hps:∀x∈L,x.length=ps.length) (I:Nat→ah→ah→Prop) (Fin:Ex→ah→ah→Prop)
  (h0:I 0 h []) (hcl:∀i h' g g2,I i h' g→I i h' (g++g2)) (hpre:∀i h' g X,h'.length=h.length→I i h' g→pre (h'++ [X]++g))
  (step:∀i (hi:i < L.length) h' g (R B:ak),h'.length=h.length→I i h' g→
   WC P Ch asg [] (setArgs ts ps L[i]) (h'++ [R]++g) fun e1 Uf h2=>e1= .normal∧∃h1 g1,h2=h1++ [R]++g1∧h1.length=h.length∧
    WC P Ch body [] Uf (h1++ [B]++g1) fun e2 _ h4=>∃h3 g3,h4=h3++ [B]++g3∧h3.length=h.length∧(if e2= .normal then I (i+1) h3 g3 else Fin e2 h3 g3))
  (done:∀e h' g,h'.length=h.length→(if e= .normal then I L.length h' g else Fin e h' g)→WE P bR e ks ts (h'++ [ak.dead]++g) Q):WC P bR (.eJ g ps asg body) ks ts h Q:=by
 let J:Nat→ah→Prop:=fun i k=>∃h' g,k=h'++ [.loop .ready .normal ts ps asg body]++g∧h'.length=h.length∧I i h' g
 let D:ah→Prop:=fun k=>∃e h' g st,k=h'++ [.loop st e ts ps asg body]++g∧h'.length=h.length∧st≠.busy∧(if e= .normal then I L.length h' g else Fin e h' g)
 obtain⟨v,h2,hs,e,h',g',st,rfl,hl,bS,Sv⟩:=hi.run h.length (h++ [.loop .ready .normal ts ps asg body]) J D
  (fun i k hJ=>by obtain⟨h',g,rfl,h1,h2⟩:=hJ;exact hpre i h' g _ h1 h2)
  (fun i k g2 hJ=>by obtain⟨h',g,rfl,h1,h2⟩:=hJ;exact⟨h',g++g2,by rw[X4],h1,hcl _ _ _ _ h2⟩)
  (fun i hi k hJ=>by
   obtain⟨h',g,rfl,h1,h2⟩:=hJ;obtain⟨e1,Uf,k2,q1,rfl,h3,g3,rfl,h4,q2⟩:=W.sound hmix (step i hi h' g (.loop .ready .normal ts ps asg body) (.loop .busy .normal ts ps asg body) h1 h2);obtain⟨e2,ts3,k3,q3,h5,g5,rfl,h6,q4⟩:=W.sound hmix q2;have hy:fg P (.func (.yield h.length) [] []) L[i] (h'++ [.loop .ready .normal ts ps asg body]++g) (.bool (decide (e2= .normal))) (List.set (h5++ [ak.loop .busy .normal ts ps asg body]++g5) h.length (ak.loop (if e2= .normal then .ready else .done) e2 ts ps asg body)):=
    fg.yield (mU h1) (hps _ (Yi hi)) (fun r=>q1 (some r) ⟨r,rfl⟩) (mU h4) (fun r=>by rw[rp h4];exact q3 (some r) ⟨r,rfl⟩) (mU h6)
   rw[rp h6]at hy;refine⟨decide (e2= .normal),_,hy,?_⟩;by_cases he:e2= .normal
   ·exact JP
   ·rw[Yd he]at q4;simp only[he,Yp,YS,Yo];exact⟨e2,h5,g5,.done,rfl,h6,Si,by rw[Yd he];exact q4⟩)
  (fun k hJ=>by obtain⟨h',g,rfl,h1,h2⟩:=hJ;exact⟨.normal,h',g,.ready,rfl,h1,Si,by rw[Yh rfl];exact h2⟩)
  ⟨h,[],by rw[Yu],rfl,h0⟩
 exact PV
end
end Go.Abs
namespace Go.Abs
theorem uX:∀ (l c pre:List AV),c.length=l.length→fI (pre++c) pre.length l=pre++l
 | [],c,pre,h=>by
  exact z203
 | x::l,[],pre,h=>by simp at h
 | x::l,y::c,pre,h=>by
  have e1: (pre++y::c).set pre.length x= (pre++ [x])++c:=by
   exact JL
  have e2:pre.length+1= (pre++ [x]).length:=Si
  rw[pa,e1,e2,uX l c (pre++ [x]) (by simpa using h),X4];rfl
theorem p6{es:Nat}{v:AV}:∀{cs:List (List AV)},(∀x∈cs,x.length=es)→∀{i off:Nat} (hi:i < cs.length),off < es→cs.flatten.set (i * es+off) v= (cs.set i (cs[i].set off v)).flatten
 | [],_,i,off,hi,_=>absurd hi (Nat.not_lt_zero _)
 | c::cs,h,0,off,hi,ho=>by
  have hc:c.length=es:=h c (YV ..);rw[Zi,aab,YR,List.set_append_left _ _ Om];rfl
 | c::cs,h,i+1,off,hi,ho=>by
  have hc:c.length=es:=h c (YV ..);have h1:=p6 (v:=v) (cs:=cs) (fun x hx=>h x (YI _ hx)) (i:=i) (off:=off) (by simpa using hi) ho;rw[Zi,YX _ _ (by rw[Zo];omega),show(i+1) * es+off - c.length=i * es+off by rw[Zo];omega,h1];rfl
def nT{es w N0 n:Nat}{z:List AV}{k k':IntKind}(h1:w * n≤2^48)(h2:n < 2^63):tg es w z (.int k n) (.int k' n) N0=some (.slice N0 0 n es,.push (.cells (dK n z) true true)):=by
 simp only[tg];rw[Yh ⟨Om,Om,by exact_mod_cast h1,by exact_mod_cast h2⟩];rfl
def Fr.AO{N n es h z}(hN:N≤h.length)(hz:z.length=es):Fr N (h++ [.cells (dK n z) true true]) (.slice h.length 0 n es) es (List.replicate n z):=by
 have:=Fr.push (h:=h) (es:=es) hN (List.replicate n z) (fun x hx=>by rw[(List.mem_replicate.1 hx).2];exact hz);rw[Ze]at this;exact this
section
variable {P:Program} {ro:Option Nat→Prop} {ks:List Kt} {ts:TS} {Q:Ex→TS→ah→Prop} {d:Option Nat} {l:List bJ}
def WR.pA{q N b es w h y ys}(hb:h[b]? =some (.cells [] true false))(hN:N≤b)(hy:aK h y es ys)(dZ:ys.length * w≤2^46)
  (K:∀s' g,Fr N (h++g) s' es ys→WP P ro l ks (put ts d s') (h++g) Q):WR P ro (pB es w (.slice b 0 0 es) y (fun b=>h[b]?) h.length) q d l ks ts h Q:=by
 have hbl:b < h.length:=(X1.1 hb).1;simp only[pB,hy.ff,Ys];by_cases hk:ys.length=0
 ·have hys:ys= []:=Y9.1 hk;subst hys;simp only[X9,Ys,List.flatten_nil,List.isEmpty_nil];rw[iT];have:=K (.slice b 0 0 es) [] (by rw[Yu];exact Fr.mk (cs:=[]) hN hb Si)
  rwa [Yu]at this
 ·simp only[Yd hk,YR,Yh dZ,hb];rw[Yh Si,mq];exact K _ _ (Fr.push Om ys hy.rows)
def WR.vm{α:Type}{row:α→List AV}{L:List α}{h0 g:ah}{s v:AV}{es i off:Nat}{x':α}(hs:Fr h0.length (h0++g) s es (L.map row))(hi:i < L.length)(ho:off < es)(hv:v.one=true)(hx:row x' = (row L[i]).set off v)
  (K:∀g',g'.length=g.length→Fr h0.length (h0++g') s es ((L.set i x').map row)→(∀b,(∀b0 o n e,s= .slice b0 o n e→b≠b0)→(h0++g')[b]? = (h0++g)[b]?)→WP P ro l ks (put ts d aA) (h0++g') Q):
  WR P ro (aT 1 (jv s es i off) v (fun b=>(h0++g)[b]?)) false d l ks ts (h0++g) Q:=by
 have Sd:=hs.aX.rows;generalize Tp:L.map row=cs at hs;have hcl:cs.length=L.length:=by rw[←Tp,Ya]
 cases hs with
 | nil=>simp at hcl;omega
 | @mk b _ _ tl hN hb he=>
  have Ru:=eE he;have hie:i * es+off < cs.flatten.length:=by
   rw[Ru,hcl];have: (i+1) * es≤L.length * es:=Zc _ hi;rw[Zo]at this;omega
  have bd:cs.flatten.set (i * es+off) v= ((L.set i x').map row).flatten:=by
   have:=p6 (v:=v) he (i:=i) (off:=off) Om ho;rw[this,aac,hx,Tp];congr 2;simp[←Tp]
  have hbl:b < (h0++g).length:=(X1.1 hb).1;show WR P ro (aT 1 (.ptr b (0+i * es+off)) v (fun b=>(h0++g)[b]?)) false d l ks ts (h0++g) Q;rw[YR,aN hb,bW hv Om,rN,bd,YX _ _ hN];refine K _ Si ?_ fun b' hb'=>?_
  ·have hl2: ((L.set i x').map row).length=cs.length:=by simp[hcl]
   rw[←hl2];refine Fr.mk hN (tl:=tl) ?_ fun y hy=>?_
   ·exact z157
   ·rw[aac]at hy;rcases ZO hy with hy| hy
    ·exact he y (by rw[←Tp];exact hy)
    ·rw[hy,hx,YL];exact he _ (by rw[←Tp];exact Yx (Yi hi))
  ·exact z130
def WR.LS{h0 g s sy es cs ys x y}(hx:val ts x=s)(hy:val ts y=sy)(hs:Fr h0.length (h0++g) s es cs)(hsy:aK (h0++g) sy es ys)(hl:cs.length=ys.length)
  (K:∀g' v,g'.length=g.length→Fr h0.length (h0++g') s es ys→(∀b,(∀b0 o n e,s= .slice b0 o n e→b≠b0)→(h0++g')[b]? = (h0++g)[b]?)→WP P ro l ks (put ts d v) (h0++g') Q):
  WR P ro (stepT (.wI es x y) (val ts) (fun b=>(h0++g)[b]?) (h0++g).length) false d l ks ts (h0++g) Q:=by
 simp only[stepT,mZ,hx,hy,hsy.ff];have SO:=eE hsy.rows;cases hs with
 | nil=>
  have:ys= []:=Y9.1 hl.symm;subst this;simp only;rw[iT];exact K g _ rfl .nil fun _ _=>rfl
 | @mk b _ _ tl hN hb he=>
  have hcl:=eE he;have T7:min ys.length cs.length=ys.length:=Om
  simp only[Ys,T7];by_cases hk:ys.length=0
  ·have hys:ys= []:=Y9.1 hk;have Tp:cs= []:=Y9.1 Om;subst hys;subst Tp;simp only[X9,Ys];rw[iT];exact K g _ rfl (Fr.mk (cs:=[]) hN hb Si) fun _ _=>rfl
  ·have hbl:b < (h0++g).length:=(X1.1 hb).1;simp only[Yd hk,hb,YR];rw[Yh (by rw[hcl,hl];omega),rN];have bd:fI cs.flatten 0 (ys.flatten.take (ys.length * es))=ys.flatten:=by
    rw[←SO,YF];have:=uX ys.flatten cs.flatten [] (by rw[hcl,SO,hl])
    simpa using this
   rw[bd,YX _ _ hN];refine K _ _ Si ?_ fun b' hb'=>?_
   ·rw[hl];refine Fr.mk hN (tl:=tl) ?_ hsy.rows;exact z157
   ·exact z130
end
end Go.Abs
namespace Go.Abs
section
variable (P:Program) (ro:Option Nat→Prop)
def WQ(l:List bJ)(cs:List Acc)(ks:List Kt)(ts:TS)(h:ah)(Q:Ex→TS→ah→Prop):Prop:=AK h l ts cs fun ts' cs=>eU cs∧kq P ro ks Q .normal ts' (dN h cs)
def GA(r:Option AV)(d:Option Nat)(l:List bJ)(cs:List Acc)(ks:List Kt)(ts:TS)(h:ah)(Q:Ex→TS→ah→Prop):Prop:=
 match r with
 | some v=>WQ P ro l cs ks (put ts d v) h Q
 | none=>False
def Pt(a:AV)(r:Option (AV×iA))(d:Option Nat)(l:List bJ)(cs:List Acc)(ks:List Kt)(ts:TS)(h:ah)(Q:Ex→TS→ah→Prop):Prop:=
 match a,r with
 | .ptr b _,some (v,.au)=>WQ P ro l (cs++ [.rd b]) ks (put ts d v) h Q
 | _,_=>False
def Ps(a:AV)(r:Option (AV×iA))(d:Option Nat)(l:List bJ)(cs:List Acc)(ks:List Kt)(ts:TS)(h:ah)(Q:Ex→TS→ah→Prop):Prop:=
 match a,r with
 | .ptr _ _,some (v,.set b k)=>WQ P ro l (cs++ [.wr b k]) ks (put ts d v) h Q
 | _,_=>False
def MC(a:AV)(b q:Bool)(k:oZ)(d:Option Nat)(l:List bJ)(cs:List Acc)(ks:List Kt)(ts:TS)(h:ah)(Q:Ex→TS→ah→Prop):Prop:=
 match a with
 | .bool t=>if t=b then WQ P ro ({ dst:=d,k:=k,gd:=none,q:=q } ::l) cs ks ts h Q else WQ P ro l cs ks (put ts d aA) h Q
 | _=>WQ P ro l cs ks (put ts d aA) h Q
end
section
variable {P:Program} {ro:Option Nat→Prop} {ks:List Kt} {ts:TS} {h:ah} {Q:Ex→TS→ah→Prop} {d:Option Nat} {q:Bool} {l:List bJ} {cs:List Acc}
def qB:WC P ro (.sf l) ks ts h Q=WQ P ro l [] ks ts h Q:=rfl
def C2:WQ P ro [] cs ks ts h Q= (eU cs∧WE P ro .normal ks ts (dN h cs) Q):=rfl
def oP{v}:GA P ro (some v) d l cs ks ts h Q=WQ P ro l cs ks (put ts d v) h Q:=rfl
def oR{v b o}:Pt P ro (.ptr b o) (some (v,.au)) d l cs ks ts h Q=WQ P ro l (cs++ [.rd b]) ks (put ts d v) h Q:=rfl
def oQ{v b b' o k}:Ps P ro (.ptr b o) (some (v,.set b' k)) d l cs ks ts h Q=WQ P ro l (cs++ [.wr b' k]) ks (put ts d v) h Q:=rfl
def kD{k}(hp:fp k=true){r}(hr:stepT k (val ts) (fun z=>h[z]?) h.length=r.map fun v=>(v,.au)):
  WQ P ro ({ dst:=d,k:=k,gd:=none,q:=q } ::l) cs ks ts h Q=GA P ro r d l cs ks ts h Q:=by
 apply propext
 constructor
 ·rintro⟨v,c,⟨hn,_⟩| ⟨_,hs⟩,H⟩
  ·exact absurd trivial hn
  rcases hs with⟨_,rfl,hs⟩| ⟨n,a,b,off,hk,_⟩| ⟨n,a,x,b,off,k',hk,_⟩
  ·have hs:stepT k (val ts) (fun z=>h[z]?) h.length=some (v,.au):=hs;rw[hr]at hs;cases r with
   | none=>cases hs
   | some v'=>cases hs;exact H
  ·have hk:k= .load n a:=hk;rw[hk]at hp;cases hp
  ·have hk:k= .store n a x:=hk;rw[hk]at hp;cases hp
 ·intro H;cases r with
  | none=>exact H.elim
  | some v=>exact⟨v,.no,.inr ⟨trivial,.inl ⟨hp,rfl,hr⟩⟩,H⟩
def qz{n a}:WQ P ro ({ dst:=d,k:=.load n a,gd:=none,q:=q } ::l) cs ks ts h Q=Pt P ro (val ts a) (aq n (val ts a) (fun z=>h[z]?)) d l cs ks ts h Q:=by
 apply propext
 constructor
 ·rintro⟨v,c,⟨hn,_⟩| ⟨_,hs⟩,H⟩
  ·exact absurd trivial hn
  rcases hs with⟨hp,_⟩| ⟨n',a',b,off,hk,ha,rfl,hs⟩| ⟨n',a',x,b,off,k',hk,_⟩
  ·cases hp
  ·cases hk;have hs:aq n (val ts a) (fun z=>h[z]?)=some (v,.au):=hs;rw[hs,ha];exact H
  ·cases hk
 ·intro H;unfold Pt at H;split at H
  ·rename_i b o v ha hr;exact⟨v,.rd b,.inr ⟨trivial,.inr (.inl ⟨n,a,b,o,rfl,ha,rfl,hr⟩)⟩,H⟩
  ·exact H.elim
def oM{n a x}:WQ P ro ({ dst:=d,k:=.store n a x,gd:=none,q:=q } ::l) cs ks ts h Q=Ps P ro (val ts a) (aT n (val ts a) (val ts x) (fun z=>h[z]?)) d l cs ks ts h Q:=by
 apply propext
 constructor
 ·rintro⟨v,c,⟨hn,_⟩| ⟨_,hs⟩,H⟩
  ·exact absurd trivial hn
  rcases hs with⟨hp,_⟩| ⟨n',a',b,off,hk,_⟩| ⟨n',a',x',b,off,k',hk,ha,rfl,hs⟩
  ·cases hp
  ·cases hk
  ·cases hk;have hs:aT n (val ts a) (val ts x) (fun z=>h[z]?)=some (v,.set b k'):=hs;rw[hs,ha];exact H
 ·intro H;unfold Ps at H;split at H
  ·rename_i b o v b' k ha hr;have hb:b' =b:=by
    rw[ha]at hr;simp only[aT]at hr;split at hr
    ·split at hr
     ·cases hr;rfl
     ·cases hr
    ·cases hr
   subst hb;exact⟨v,.wr b' k,(.inr ⟨trivial,.inr (.inr ⟨n,a,x,b',o,k,rfl,ha,rfl,hr⟩)⟩),H⟩
  ·exact H.elim
def zl{k g b}:WQ P ro ({ dst:=d,k:=k,gd:=some (g,b),q:=q } ::l) cs ks ts h Q=MC P ro (val ts (.t g)) b q k d l cs ks ts h Q:=by
 have key:∀t:Bool,val ts (.t g)= .bool t→(wanted (some (g,b)) ts↔t=b):=fun t hg=>by
  show ts[g]? =some (.bool b)↔_;have hg:ts.getD g aA= .bool t:=hg;have e:ts[g]? =some (.bool t):=by
   rw[YJ]at hg;cases hx:ts[g]? with
   | none=>rw[hx]at hg;cases hg
   | some y=>rw[hx]at hg;exact YC some hg
  rw[e];simp
 have neg: (∀t,val ts (.t g)≠.bool t)→¬wanted (some (g,b)) ts:=fun hn hw=>by
  have hw:ts[g]? =some (.bool b):=hw;exact hn b (by show ts.getD g aA=_;rw[YJ,hw];rfl)
 have no:¬wanted (some (g,b)) ts→WQ P ro ({ dst:=d,k:=k,gd:=some (g,b),q:=q } ::l) cs ks ts h Q=WQ P ro l cs ks (put ts d aA) h Q:=fun hy=>by
  apply propext
  constructor
  ·rintro⟨v,c,⟨_,rfl,rfl⟩| ⟨hn,hs⟩,H⟩
   ·exact H
   ·exact absurd hn hy
  ·intro H;exact⟨aA,.no,.inl ⟨hy,rfl,rfl⟩,H⟩
 unfold MC;split
 ·rename_i t ht;have hw:=key t ht;by_cases e:t=b
  ·rw[Yh e];have hy:=hw.2 e
   apply propext
   constructor
   ·rintro⟨v,c,⟨hn,_⟩| ⟨_,hs⟩,H⟩
    ·exact absurd hy hn
    ·exact⟨v,c,.inr ⟨trivial,hs⟩,H⟩
   ·rintro⟨v,c,⟨hn,_⟩| ⟨_,hs⟩,H⟩
    ·exact absurd trivial hn
    ·exact⟨v,c,.inr ⟨hy,hs⟩,H⟩
  ·rw[Yd e];exact no fun z=>e (hw.1 z)
 ·rename_i hn;exact no (neg hn)
def uA{k}:MC P ro (.bool true) true q k d l cs ks ts h Q=WQ P ro ({ dst:=d,k:=k,gd:=none,q:=q } ::l) cs ks ts h Q:=rfl
def uB{k}:MC P ro (.bool false) true q k d l cs ks ts h Q=WQ P ro l cs ks (put ts d aA) h Q:=rfl
def qy{c a b}:WQ P ro ({ dst:=d,k:=.pick c a b,gd:=none,q:=q } ::l) cs ks ts h Q=GA P ro (sZ (val ts c) (val ts a) (val ts b)) d l cs ks ts h Q:=by
 refine kD rfl ?_;simp only[stepT,mZ,sZ];cases val ts c<;>rfl
def oO{x}:WQ P ro ({ dst:=d,k:=.len .sl x,gd:=none,q:=q } ::l) cs ks ts h Q=GA P ro (ub (iO .sl (fun b=>h[b]?) (val ts x))) d l cs ks ts h Q:=by
 refine kD rfl ?_;simp only[stepT,mZ,ub];cases iO .sl (fun b=>h[b]?) (val ts x)<;>rfl
def uy{x}:WQ P ro ({ dst:=d,k:=.aF x,gd:=none,q:=q } ::l) cs ks ts h Q=WQ P ro l cs ks (put ts d (val ts x)) h Q:=kD (r:=some (val ts x)) rfl rfl
def uz{op x y}:WQ P ro ({ dst:=d,k:=.bin op x y,gd:=none,q:=q } ::l) cs ks ts h Q=GA P ro (dY op (val ts x) (val ts y)) d l cs ks ts h Q:=by
 refine kD rfl ?_;exact Jr
def zk{op x}:WQ P ro ({ dst:=d,k:=.un op x,gd:=none,q:=q } ::l) cs ks ts h Q=GA P ro (wL op (val ts x)) d l cs ks ts h Q:=by
 refine kD rfl ?_;simp only[stepT,mZ];cases wL op (val ts x)<;>rfl
def qA{off x}:WQ P ro ({ dst:=d,k:=.aP off x,gd:=none,q:=q } ::l) cs ks ts h Q=GA P ro (tA off (val ts x)) d l cs ks ts h Q:=by
 refine kD rfl ?_;simp only[stepT,mZ,tA];cases val ts x<;>rfl
def mv{x}:WQ P ro ({ dst:=d,k:=.bt x,gd:=none,q:=q } ::l) cs ks ts h Q=GA P ro (pg (val ts x)) d l cs ks ts h Q:=by
 refine kD rfl ?_;exact z141
end
def uw{a:List Acc}: []++a=a:=rfl
def uv{c:Acc}{a b:List Acc}: (c::a)++b=c:: (a++b):=rfl
def oI{h}:dN h []=h:=rfl
def oG{h b cs}:dN h (.rd b::cs)=dN h cs:=rfl
def oE{h b k cs}:dN h (.wr b k::cs)=dN (h.set b k) cs:=rfl
def Au(b:Nat)(cs:List Acc):Prop:=∀x∈cs,x.dP≠some b
def oD(b:Nat)(cs:List Acc):Prop:=∀x∈cs,∀k,x≠Acc.wr b k
def IG{b}:Au b []=True:=aaF fun x hx=>by cases hx
def IH{b c cs}:Au b (c::cs)= (c.dP≠some b∧Au b cs):=by
 simp[Au]
def Fl{b}:oD b []=True:=aaF fun x hx=>by cases hx
def Fk{b b' cs}:oD b (.rd b'::cs)=oD b cs:=by
 simp[oD]
def Fj{b b' k cs}:oD b (.wr b' k::cs)= (b'≠b∧oD b cs):=by
 unfold oD;simp only[YH,forall_eq_or_imp];refine propext ⟨fun h=>⟨fun e=>h.1 k (by rw[e]),h.2⟩,fun h=>⟨fun k' e=>h.1 (by cases e;rfl),h.2⟩⟩
def Fi:eU []=True:=rfl
def Fh{b cs}:eU (.rd b::cs)= (oD b cs∧eU cs):=by
 unfold oD;simp only[eU,Acc.dP,Yy];refine propext ⟨fun h=>⟨fun x hx k hk=>h.1 b rfl x hx (by rw[hk]) k k (.inr hk),h.2⟩,fun h=>⟨fun b' e x hx _ k k' hk=>?_,h.2⟩⟩;subst e;rcases hk with hk| hk
 ·cases hk
 ·exact h.1 x hx k' hk
def Fg{b k cs}:eU (.wr b k::cs)= (Au b cs∧eU cs):=by
 unfold Au;simp only[eU,Acc.dP,Yy];refine propext ⟨fun h=>⟨fun x hx hk=>h.1 b rfl x hx hk k k (.inl rfl),h.2⟩,fun h=>⟨fun b' e x hx hk _ _ _=>?_,h.2⟩⟩;subst e;exact h.1 x hx hk
def LX{b}: (Acc.rd b).dP=some b:=rfl
def LW{b k}: (Acc.wr b k).dP=some b:=rfl
def bE:
  (∀{ts:TS} {i j:Nat} {v:AV} (_: (i=j)=False),slot (ts.set i v) j=slot ts j)∧
  (∀{ts:TS} {i:Nat} {v:AV} (_:i+1≤ts.length),slot (ts.set i v) i=v)∧
  (∀{ts:TS} {i:Nat} {X:Prop} (_:i+1≤ts.length),Ll ts[i]? X=X)∧
  (∀{ts:TS} {i:Nat} {v:AV},(ts.set i v).length=ts.length)∧
  (∀{u:TypeId} {x:AV} {G:Nat→Option ak} {N:Nat},mG (.qh u) x G N=some (.qh u x,.au)):=by
 refine⟨fun {ts i j v} h=>?_,fun {ts i v} h=>?_,fun {ts i X} h=>by rw[X6 h];rfl,fun {ts i v}=>YL,rfl⟩
 ·have hne:i≠j:=fun e=>by rw[←h];exact e
  unfold slot;rw[List.getD,List.getD,Yj hne]
 ·unfold slot;rw[List.getD,Yl h];rfl
end Go.Abs
namespace Go.Abs
abbrev ak.b(l:List AV):ak:=.cells l true false
abbrev AV.i(n:Int):AV:=.int .i64 n
def Rs{A B F:Prop}(f:F)(b:B)(e:F→(B→A)∧(∃x:Prop,x=B):=by(intro f;refine⟨fun b=>?_,?_⟩;(focus (repeat (first| simp (config:={ maxSteps:=1000000 }) only[aW,bd,bC,bD,reduceAdd,reduceMul,reduceLeDiff,reduceEqDiff,bE,hlen,Yo,Ys,f]| simp (config:={ maxSteps:=1000000 }) (disch:=first| (simp only[X2,X8,X9]<;>omega)| rfl| omega| fail) only[fU,aW,bd,bC,bD,reduceAdd,reduceMul,reduceLeDiff,reduceEqDiff,bE,hlen,Yo,Ys,f]));all_goals exact b);first| exact⟨True,rfl⟩| exact⟨_,rfl⟩)):A:=(e f).1 b
def kE{A B F:Prop}(f:F)(b:B)(e:F→(B→A)∧(∃x:Prop,x=B):=by(intro f;refine⟨fun b=>?_,?_⟩;(focus (repeat (first| simp (config:={ maxSteps:=1000000 }) only[aW,bd,bC,bD,reduceAdd,reduceMul,reduceLeDiff,reduceEqDiff,bE,hlen,Yo,Ys,reduceCtorEq,f]| simp (config:={ maxSteps:=1000000 }) (disch:=first| (simp only[X2,X8,X9]<;>omega)| rfl| omega| fail) only[fU,aW,bd,bC,bD,reduceAdd,reduceMul,reduceLeDiff,reduceEqDiff,bE,hlen,Yo,Ys,reduceCtorEq,f]));all_goals exact b);first| exact⟨True,rfl⟩| exact⟨_,rfl⟩)):A:=(e f).1 b
def Zs{A B F:Prop}(f:F)(b:B)(e:F→(B→A)∧(∃x:Prop,x=B):=by(intro f;refine⟨fun b=>?_,?_⟩;(focus (simp only[aW,bd,bC,bD,reduceAdd,reduceMul,reduceLeDiff,reduceEqDiff,bE,hlen,Yo,Ys,f]);all_goals exact b);first| exact⟨True,rfl⟩| exact⟨_,rfl⟩)):A:=(e f).1 b
def Zn{A B:Prop}(b:B)(e: (B→A)∧(∃x:Prop,x=B):=by(refine⟨fun b=>?_,?_⟩;(focus (simp only[aW,bd,bC,bD,reduceAdd,reduceMul,reduceLeDiff,reduceEqDiff,bE,hlen,Yo,Ys]);all_goals exact b);first| exact⟨True,rfl⟩| exact⟨_,rfl⟩)):A:=e.1 b
def Ws{A B F:Prop}(f:F)(b:B)(e:F→(B→A)∧(∃x:Prop,x=B):=by(intro f;refine⟨fun b=>?_,?_⟩;(focus (simp only[aW,bd,bC,bD,reduceAdd,reduceMul,reduceLeDiff,reduceEqDiff,Ys,Yo,f]);all_goals exact b);first| exact⟨True,rfl⟩| exact⟨_,rfl⟩)):A:=(e f).1 b
def Wn{A B:Prop}(b:B)(e: (B→A)∧(∃x:Prop,x=B):=by(refine⟨fun b=>?_,?_⟩;(focus (simp only[aW,bd,bC,bD,reduceAdd,reduceMul,reduceLeDiff,reduceEqDiff,Ys,Yo]);all_goals exact b);first| exact⟨True,rfl⟩| exact⟨_,rfl⟩)):A:=e.1 b
def Sq{A F:Prop}(f:F)(e:F→A:=by(intro f;simp only[aW,bd,bC,bD,reduceAdd,reduceMul,reduceLeDiff,reduceEqDiff,bE,hlen,Yo,Ys,f])):A:=e f
def Sw{A:Prop}(e:A:=by simp only[aW,bd,bC,bD,reduceAdd,reduceMul,reduceLeDiff,reduceEqDiff,bE,hlen,Yo,Ys]):A:=e
def QO{A F:Prop}(f:F)(e:F→A:=by(intro f;(simp only[aW,bd,bC,bD,reduceAdd,reduceMul,reduceLeDiff,reduceEqDiff,bE,hlen,Yo,Ys,f];rfl))):A:=e f
def hP{A:Prop}(e:A:=by(simp only[aW,bd,bC,bD,reduceAdd,reduceMul,reduceLeDiff,reduceEqDiff,bE,hlen,Yo,Ys];rfl)):A:=e
def Sn{A:Prop}(e:A:=by simp only[bE,hlen]):A:=e
def Xx{A:Prop}(e:A:=by repeat first| with_reducible exact Ext.refl _| refine Ext.app _ ?_):A:=e
def ay.Qz{P:Program}{h:ah}(nt:Nat)(hmix:P.follows .mixedOrders=true){f:FuncId}{A:ar}(hA:bQ P f=some A){R:AV→ah→Prop}(H:∀ts:TS,ts.length=nt→WC P bR A.body [] ts h (FQ A.rs (fun v h'=>Ext h h'∧R v h')))(hn:A.nt=nt:=by rfl)(hl: (aU nt []).length=nt:=by rfl):ay P f [] h R:=by
 subst hn;exact .of hmix hA (H (aU A.nt []) hl)
def ay.kM{P:Program}{h:ah}(nt:Nat)(hmix:P.follows .mixedOrders=true){f:FuncId}{A:ar}(hA:bQ P f=some A){a0:AV}{R:AV→ah→Prop}(H:∀ts:TS,ts.length=nt→slot ts 0=a0→WC P bR A.body [] ts h (FQ A.rs (fun v h'=>Ext h h'∧R v h')))(hn:A.nt=nt:=by rfl)(hl: (aU nt [a0]).length=nt:=by rfl):ay P f [a0] h R:=by
 subst hn;exact .of hmix hA (H (aU A.nt [a0]) hl rfl)
def ay.eD{P:Program}{h:ah}(nt:Nat)(hmix:P.follows .mixedOrders=true){f:FuncId}{A:ar}(hA:bQ P f=some A){a0 a1:AV}{R:AV→ah→Prop}(H:∀ts:TS,ts.length=nt→slot ts 0=a0→slot ts 1=a1→WC P bR A.body [] ts h (FQ A.rs (fun v h'=>Ext h h'∧R v h')))(hn:A.nt=nt:=by rfl)(hl: (aU nt [a0,a1]).length=nt:=by rfl):ay P f [a0,a1] h R:=by
 exact Jp
def da.eD{P:Program}{h:ah}(nt:Nat)(hmix:P.follows .mixedOrders=true){f:FuncId}{A:ar}(hA:bQ P f=some A){a0 a1:AV}{R:AV→ah→Prop}(H:∀ts:TS,ts.length=nt→slot ts 0=a0→slot ts 1=a1→WC P bR A.body [] ts h (FQ A.rs (R)))(hn:A.nt=nt:=by rfl)(hl: (aU nt [a0,a1]).length=nt:=by rfl):da P f [a0,a1] h R:=by
 exact Jp
def ay.nH{P:Program}{h:ah}(nt:Nat)(hmix:P.follows .mixedOrders=true){f:FuncId}{A:ar}(hA:bQ P f=some A){a0 a1 a2:AV}{R:AV→ah→Prop}(H:∀ts:TS,ts.length=nt→slot ts 0=a0→slot ts 1=a1→slot ts 2=a2→WC P bR A.body [] ts h (FQ A.rs (fun v h'=>Ext h h'∧R v h')))(hn:A.nt=nt:=by rfl)(hl: (aU nt [a0,a1,a2]).length=nt:=by rfl):ay P f [a0,a1,a2] h R:=by
 exact JD
def da.nH{P:Program}{h:ah}(nt:Nat)(hmix:P.follows .mixedOrders=true){f:FuncId}{A:ar}(hA:bQ P f=some A){a0 a1 a2:AV}{R:AV→ah→Prop}(H:∀ts:TS,ts.length=nt→slot ts 0=a0→slot ts 1=a1→slot ts 2=a2→WC P bR A.body [] ts h (FQ A.rs (R)))(hn:A.nt=nt:=by rfl)(hl: (aU nt [a0,a1,a2]).length=nt:=by rfl):da P f [a0,a1,a2] h R:=by
 exact JD
def WF.ce{P:Program}{ro:Option Nat→Prop}{ks:List Kt}{ts:TS}{h:ah}{Q:Ex→TS→ah→Prop}{q:Bool}{f:FuncId}{A:ar}(hA:bQ P f=some A){a c args:List AV}{d:Option Nat}{l:List bJ}{V:AV}(H:ay P f (a++args++c) h (fun v _=>v=V))(K:∀g,WP P ro l ks (put ts d V) (h++g) Q):WF P ro q (.func (.func f) a c) args d l ks ts h Q:=
 WF.res hA H fun _ g e=>e▸K g
def fH{W:ah}{b:Nat}{B:ak}(h:W[b]? =some B){k:ah}{n:Option Nat}{a:Nat}(e:Ext W k):aq n (.ptr b a) (fun z=>k[z]?)=dE n a B:=az (e.some h)
def eT{k n:Nat}(h:k < n):decide ((k:Int)< (n:Int))=true:=X7 Om
def fQ{k n:Nat}(h:¬k < n):decide ((k:Int)< (n:Int))=false:=X3 Om
def bV(c:Bool)(e:Int):Int:=if c then e else 0
def bh(n lo hi:Int):Int:=if n < lo∨hi < n then 3 else 0
def bf:List Int→Int
 | []=>0
 | x::xs=>if x=0 then bf xs else x
def fS(c:UInt8):Bool:=(65≤c.toNat && c.toNat≤90)|| (97≤c.toNat && c.toNat≤122)
def fc(c:UInt8):Bool:=48≤c.toNat && c.toNat≤57
def jM(c:UInt8):Bool:=fS c|| fc c|| c.toNat==95
def dW:By→Bool
 | []=>false
 | c::r=>decide (r.length < 24) && fS c && r.all jM
inductive Kd where
 | ee
 | line
 | tape
 | gg
 | copy
 | accept
 | source
 | fP
 | merge
 | run
 | fM
 | fail
 | gh
 | rel
 deriving DecidableEq
def bu:Kd→By
 | .ee=>[117,110,100,111]
 | .line=>[108,105,110,101]
 | .tape=>[116,97,112,101]
 | .gg=>[115,104,111,116]
 | .copy=>[99,111,112,121]
 | .accept=>[97,99,99,101,112,116]
 | .source=>[115,111,117,114,99,101]
 | .fP=>[109,111,100,117,108,101]
 | .merge=>[109,101,114,103,101]
 | .run=>[114,117,110]
 | .fM=>[116,105,108,101]
 | .fail=>[102,97,105,108]
 | .gh=>[112,105,99,116,117,114,101]
 | .rel=>[114,101,108,101,97,115,101]
def Ga:List Kd:=[.ee,.line,.tape,.gg,.copy,.accept,.source,.fP,.merge,.run,.fM,.fail,.gh,.rel]
def bL:Kd→List (Nat×Bool)
 | .ee=>[]
 | .line=>[(0,false)]
 | .tape=>[(1,false)]
 | .gg=>[(2,false),(0,true),(1,true)]
 | .copy=>[(1,true),(1,true)]
 | .accept=>[(0,true)]
 | .source=>[(3,false),(0,true)]
 | .fP=>[(3,false),(3,true)]
 | .merge=>[(3,false),(3,true),(3,true)]
 | .run=>[(4,false),(3,true)]
 | .fM=>[(4,true)]
 | .fail=>[(4,true)]
 | .gh=>[(5,false),(4,true)]
 | .rel=>[(5,true)]
def cB:Kd→Nat
 | .ee=>0
 | .line=>2
 | .tape=>2
 | .gg=>1
 | .copy=>1
 | .accept=>1
 | .source=>1
 | .fP=>2
 | .merge=>1
 | .run=>2
 | .fM=>3
 | .fail=>2
 | .gh=>1
 | .rel=>1
def gJ(k:By):Option Kd:=Ga.find? fun d=>bu d==k
def lV(d:Kd):gJ (bu d)=some d:=by cases d<;>rfl
def cg{k d}(h:gJ k=some d):k=bu d:=by
 have:=aaz h;exact(eq_of_beq this).symm
def dz{k}(h:gJ k=none)(d:Kd):k≠bu d:=by
 rintro rfl;rw[lV]at h;cases h
structure ed where
 num:Int
 kind:By
 names:List (By)
 b9:List Int
 text:By
structure gM where
 name:By
 want:Int
 acc:Bool
structure rT where
 name:By
 last:Int
structure jI where
 name:By
 line:By
 aI:List (By)
structure gS where
 name:By
 gives:By
 line:By
 bw:List (By)
structure kU where
 name:By
 mod:By
 bz:List Int
structure qk where
 name:By
 Ce:By
 nf:Int
 rel:Bool
structure eX where
 tick:Int
 lines:List gM
 aI:List rT
 aj:List jI
 aD:List gS
 aH:List kU
 aQ:List qk
def eX.zero:eX:=⟨0,[],[],[],[],[],[]⟩
def B1:gM:=⟨[],0,false⟩
def NZ:rT:=⟨[],0⟩
def D2:jI:=⟨[],[],[]⟩
def B0:gS:=⟨[],[],[],[]⟩
def zS:kU:=⟨[],[],[]⟩
def Ht:qk:=⟨[],[],0,false⟩
def bp(l:List (By))(n:By):Nat:=l.findIdx fun x=>decide (x=n)
def rB{α:Type}(f:α→By)(l:List α)(n:By)(d:α):α:=l.getD (bp (l.map f) n) d
def gE(R:eX):List (By):=R.lines.map gM.name
def jB(R:eX):List (By):=R.aI.map rT.name
def mN(R:eX):List (By):=R.aj.map jI.name
def gP(R:eX):List (By):=R.aD.map gS.name
def iE(R:eX):List (By):=R.aH.map kU.name
def kX(R:eX):List (By):=R.aQ.map qk.name
def I3(R:eX):Nat→List (By)
 | 0=>gE R
 | 1=>jB R
 | 2=>mN R
 | 3=>gP R
 | 4=>iE R
 | _=>kX R
def dJ(R:eX)(n:By):gM:=rB gM.name R.lines n B1
def jn(R:eX)(n:By):rT:=rB rT.name R.aI n NZ
def qR(R:eX)(n:By):jI:=rB jI.name R.aj n D2
def gI(R:eX)(n:By):gS:=rB gS.name R.aD n B0
def gu(R:eX)(n:By):kU:=rB kU.name R.aH n zS
def jO(R:eX)(n:By):qk:=rB qk.name R.aQ n Ht
def dG(R:eX)(t:Nat)(n:By):Bool:=decide (n∈I3 R t)
def jo(R:eX)(t:Int)(n:By):Bool:=decide (t≤(jn R n).last)
def iB(R:eX)(x:jI)(t:Int):Bool:=x.aI.any (jo R t)
def j6(R:eX)(t:Int):List (By):=(R.aj.filter fun x=>!iB R x t).map jI.name
def zR(R:eX)(n:By):List jI:=R.aj.filter fun x=>decide (x.line=n)
def cS:List Int→Nat→List Int
 | [],_=>[]
 | x::r,i=>if x < 0 then(i:Int)::cS r (i+1)else cS r (i+1)
def p9(R:eX)(j:By):Bool:=R.aQ.any fun p=>decide (p.Ce=j)
def cN(m:By)(l:List gS):List (By):=l.foldl (fun n x=>if x.name∈n then n++x.bw else n) [m]
def mC(R:eX)(m:By):List gS:=R.aD.filter fun x=>decide (x.name∈cN m R.aD.reverse)
def iJ(R:eX)(m:By):List gM:=R.lines.filter fun l=>decide (l.name∈(mC R m).map gS.line)
def sX(R:eX)(p:By):List (By):=
 (R.aj.filter fun x=>decide (x.line∈(iJ R (gu R (jO R p).Ce).mod).map gM.name)).map jI.name
def fC(l:List Int):Int:=l.foldl (fun x s=>(257 * x+s).tmod 16777213) 1
def aO(e:ed)(i:Nat):By:=e.names.getD i []
def bG(e:ed)(i:Nat):Int:=e.b9.getD i 0
def dO:By:=[115,104,111,116,115]
def lZ:By:=[115,101,99,116,105,111,110]
def nZ:By:=[105,109,97,103,101]
def mL(n:Int):By:=if n=1 then dO else if n=2 then dO else if n=3 then lZ else nZ
def jE(n:Int):By:=if n=1 then dO else if n=2 then lZ else nZ
def gL(e:ed):Int:=
 if bh e.num 1 1000≠0 then 3 else
 match gJ e.kind with
 | none=>13
 | some d=>if e.names.length≠(bL d).length∨e.b9.length≠cB d then 2
  else if e.names.any (fun s=>!dW s)then 8
  else if e.b9.any (fun n=>decide (bh n 0 999999999≠0))then 3
  else if e.text≠[]then 1 else 0
def mK(R:eX)(e:ed):List (Nat×Bool)→Nat→Bool
 | [],_=>false
 | r::l,i=>(r.2 && !dG R r.1 (aO e i))|| mK R e l (i+1)
def qH(R:eX)(e:ed):List (Nat×Bool)→Nat→Bool
 | [],_=>false
 | r::l,i=>(!r.2 && dG R r.1 (aO e i))|| qH R e l (i+1)
def kP(d:Kd)(R:eX)(e:ed):Int:=if mK R e (bL d) 0 then 10 else if qH R e (bL d) 0 then 9 else 0
def fE(R:eX)(e:ed):Int:=(gu R (aO e 0)).bz.getD (bG e 1).toNat 0
def jF(R:eX)(e:ed):Int:=if p9 R (aO e 0)then 23 else if((gu R (aO e 0)).bz.length:Int)≤bG e 1 then 3 else 0
def bA(R:eX)(e:ed):Kd→Int
 | .ee=>0
 | .line=>if bh (bG e 1) 1 64≠0 then 3 else if 16≤R.lines.length then 5 else 0
 | .tape=>if 999999999 < bG e 0+bG e 1 then 4 else if 16≤R.aI.length then 5 else 0
 | .gg=>if(dJ R (aO e 1)).acc then 23 else if !jo R (bG e 0) (aO e 2)then 30 else if 64≤R.aj.length then 5 else 0
 | .copy=>if aO e 0=aO e 1 then 24 else if !jo R (bG e 0) (aO e 0)then 30 else if !jo R (bG e 0) (aO e 1)then 30 else 0
 | .accept=>if(dJ R (aO e 0)).acc then 23 else if((zR R (aO e 0)).length:Int)< (dJ R (aO e 0)).want then 16 else if(zR R (aO e 0)).any (fun x=>!iB R x (bG e 0))then 30 else 0
 | .source=>if 32≤R.aD.length then 5 else 0
 | .fP=>if bh (bG e 1) 1 4≠0 then 13 else if(gI R (aO e 1)).gives≠mL (bG e 1)then 2 else if 32≤R.aD.length then 5 else 0
 | .merge=>if aO e 1=aO e 2 then 24 else if(gI R (aO e 1)).gives≠(gI R (aO e 2)).gives then 2 else if 32≤R.aD.length then 5 else 0
 | .run=>if(iJ R (aO e 1)).any (fun x=>!x.acc)then 32 else if bh (bG e 1) 1 32≠0 then 3 else if 16≤R.aH.length then 5 else 0
 | .fM=>if jF R e≠0 then jF R e else if 0≤fE R e then 9 else 0
 | .fail=>if jF R e≠0 then jF R e else if fE R e < 0 then 7 else 0
 | .gh=>if p9 R (aO e 1)then 23 else if cS (gu R (aO e 1)).bz 0≠[]then 32 else if 16≤R.aQ.length then 5 else 0
 | .rel=>if(jO R (aO e 0)).rel then 23 else 0
def ku(a b:By)(x:jI):jI:=if a∈x.aI∧b∉x.aI then { x with aI:=x.aI++ [b] } else x
def mO(R:eX)(e:ed)(s:Int):List kU:=R.aH.set (bp (iE R) (aO e 0)) { gu R (aO e 0)with bz:=(gu R (aO e 0)).bz.set (bG e 1).toNat s }
def dq(R:eX)(e:ed):Kd→eX
 | .ee=>R
 | .line=>{ R with lines:=R.lines++ [⟨aO e 0,bG e 1,false⟩] }
 | .tape=>{ R with aI:=R.aI++ [⟨aO e 0,bG e 0+bG e 1⟩] }
 | .gg=>{ R with aj:=R.aj++ [⟨aO e 0,aO e 1,[aO e 2]⟩] }
 | .copy=>{ R with aj:=R.aj.map (ku (aO e 0) (aO e 1)) }
 | .accept=>{ R with lines:=R.lines.set (bp (gE R) (aO e 0)) { dJ R (aO e 0)with acc:=true } }
 | .source=>{ R with aD:=R.aD++ [⟨aO e 0,dO,aO e 1,[]⟩] }
 | .fP=>{ R with aD:=R.aD++ [⟨aO e 0,jE (bG e 1),[],e.names.drop 1⟩] }
 | .merge=>{ R with aD:=R.aD++ [⟨aO e 0,(gI R (aO e 1)).gives,[],e.names.drop 1⟩] }
 | .run=>{ R with aH:=R.aH++ [⟨aO e 0,aO e 1,List.replicate (bG e 1).toNat (-1)⟩] }
 | .fM=>{ R with aH:=mO R e (bG e 2) }
 | .fail=>{ R with aH:=mO R e (-1) }
 | .gh=>{ R with aQ:=R.aQ++ [⟨aO e 0,aO e 1,fC (gu R (aO e 1)).bz,false⟩] }
 | .rel=>{ R with aQ:=R.aQ.set (bp (kX R) (aO e 0)) { jO R (aO e 0)with rel:=true } }
def gK(R:eX)(e:ed)(d:Kd):Int:=if bG e 0 < R.tick then 22 else if kP d R e≠0 then kP d R e else bA R e d
def ke(R:eX)(e:ed)(d:Kd):eX:={ dq R e d with tick:=bG e 0 }
structure jj where
 db:List ed
 ez:List ed
 cM:List eX
def jj.zero:jj:=⟨[],[],[]⟩
def jj.now(H:jj):eX:=H.cM.getLastD eX.zero
def jH(e:ed):Kd:=(gJ e.kind).getD .ee
def j5(H:jj)(e:ed):Int:=
 if e.num≠(H.db.length:Int)+1 then 11 else
 if jH e= .ee then
  (match H.ez.getLast? with
  | none=>12
  | some c=>if jH c= .rel then 21 else 0)
 else gK H.now e (jH e)
def lM(H:jj)(e:ed):jj:=
 if jH e= .ee then⟨H.db++ [e],H.ez.dropLast,H.cM.dropLast⟩
 else⟨H.db++ [e],H.ez++ [e],H.cM++ [ke H.now e (jH e)]⟩
def fD(H:jj)(e:ed):Int:=if gL e≠0 then gL e else j5 H e
def k9(H:jj):List ed→Nat→jj×Int×Int
 | [],_=>(H,0,0)
 | e::l,i=>if fD H e≠0 then(jj.zero,(i:Int)+1,fD H e)else k9 (lM H e) l (i+1)
def bU(l:List ed):jj×Int×Int:=if 1000 < l.length then(jj.zero,0,5)else k9 jj.zero l 0
def cY{l n}(h:n∈l):bp l n < l.length:=
 List.findIdx_lt_length_of_exists ⟨n,h,Si⟩
def q8{l n}(h:n∈l):l[bp l n]'(cY h)=n:=by
 have:=List.findIdx_getElem (p:=fun x=>decide (x=n)) (xs:=l) (w:=cY h);exact Zq this
def dh{α:Type}{f:α→By}{l:List α}{n:By}{d:α}(h:n∈l.map f):rB f l n d=l[bp (l.map f) n]'(by simpa using cY h):=by
 have:bp (l.map f) n < l.length:=by simpa using cY h
 rw[rB,YJ,X6 this];rfl
def gY{α:Type}{f:α→By}{l:List α}{n:By}{d:α}(h:n∈l.map f):rB f l n d∈l:=by
 rw[dh h];exact Yi _
def gR{α:Type}{f:α→By}{l:List α}{n:By}{d:α}(h:n∈l.map f):f (rB f l n d)=n:=by
 rw[dh h];have:=q8 h;rw[Zf]at this;exact this
def ue{α:Type}{f:α→By}{l:List α}{x d:α}(hn: (l.map f).Nodup)(h:x∈l):rB f l (f x) d=x:=by
 have hm:f x∈l.map f:=Yx h;obtain⟨i,hi,rfl⟩:=aad h;rw[dh hm];have h1:=q8 hm;have h2: (l.map f)[i]'(by simpa using hi)=f l[i]:=Zf ..;have:=(List.getElem_inj hn).1 (h1.trans h2.symm);congr 1
structure pI(l:List (By)):Prop where
 nd:l.Nodup
 nm:∀n∈l,dW n=true
def pI.nil:pI []:=⟨List.nodup_nil,fun _ h=>by cases h⟩
def pI.add{l n}(h:pI l)(hn:dW n=true)(hl:n∉l):pI (l++ [n]):=by
 refine⟨List.nodup_append.2 ⟨h.nd,Si,?_⟩,fun x hx=>?_⟩
 ·intro a ha b hb e;rw[Yt]at hb;exact hl (hb▸e▸ha)
 ·rcases Yb.1 hx with hx| hx
  ·exact h.nm x hx
  ·rw[Yt]at hx;rw[hx];exact hn
structure fk(R:eX):Prop where
 n0:pI (gE R)
 n1:pI (jB R)
 n2:pI (mN R)
 n3:pI (gP R)
 n4:pI (iE R)
 n5:pI (kX R)
 tk:0≤R.tick∧R.tick≤999999999
 l0:R.lines.length≤16
 l1:R.aI.length≤16
 l2:R.aj.length≤64
 l3:R.aD.length≤32
 l4:R.aH.length≤16
 l5:R.aQ.length≤16
 ln:∀x∈R.lines,1≤x.want∧x.want≤64
 tp:∀x∈R.aI,0≤x.last∧x.last≤999999999
 sh:∀x∈R.aj,x.line∈gE R∧x.aI≠[]∧x.aI.Nodup∧∀t∈x.aI,t∈jB R
 md:∀x∈R.aD,((x.bw= []∧x.line∈gE R)∨(x.bw≠[]∧x.line= []))∧x.bw.length≤2∧∀t∈x.bw,t∈gP R
 jb:∀x∈R.aH,x.mod∈gP R∧1≤x.bz.length∧x.bz.length≤32∧∀s∈x.bz,-1≤s∧s≤999999999
 pc:∀x∈R.aQ,x.Ce∈iE R∧0≤x.nf∧x.nf < 16777213
theorem fk.zero:fk eX.zero:=by
 refine⟨.nil,.nil,.nil,.nil,.nil,.nil,De,De,De,De,De,De,De,?_,?_,?_,?_,?_,?_⟩
 all_goals intro x hx;cases hx
structure jG(e:ed)(d:Kd):Prop where
 kd:gJ e.kind=some d
 nu:1≤e.num∧e.num≤1000
 nl:e.names.length= (bL d).length
 vl:e.b9.length=cB d
 nm:∀n∈e.names,dW n=true
 vr:∀v∈e.b9,0≤v∧v≤999999999
 tx:e.text= []
def gk{n lo hi}(h:¬bh n lo hi≠0):lo≤n∧n≤hi:=by
 unfold bh at h;split at h
 ·exact absurd De h
 ·omega
def uk{e}(h:gL e=0):∃d,jG e d:=by
 unfold gL at h;split at h
 ·cases h
 case isFalse h0=>
 cases hk:gJ e.kind with
 | none=>rw[hk]at h;cases h
 | some d=>
  rw[hk]at h;simp only at h;split at h
  ·cases h
  case isFalse h1=>
  split at h
  ·cases h
  case isFalse h2=>
  split at h
  ·cases h
  case isFalse h3=>
  split at h
  ·cases h
  case isFalse h4=>
  refine⟨d,hk,gk h0,Om,Om,?_,?_,by simpa using h4⟩
  ·intro n hn;cases hc:dW n with
   | true=>rfl
   | false=>exact absurd (ZE.2 ⟨n,hn,by simp[hc]⟩) h2
  ·intro v hv;refine gk fun hc=>h3 (ZE.2 ⟨v,hv,by simpa using hc⟩)
def D3{e i}(h:i < e.names.length):aO e i∈e.names:=by
 rw[aO,YJ,X6 h];exact Yi h
def ql{e i}(h:i < e.b9.length):bG e i∈e.b9:=by
 rw[bG,YJ,X6 h];exact Yi h
def gq{α:Type}{l m:List α}{x:α}(h:x∈l):x∈l++m:=Yb.2 (.inl h)
def iS{α:Type}{p:α→Prop}{l:List α}{y:α}(h:∀x∈l,p x)(hy:p y):∀x∈l++ [y],p x:=by
 intro x hx;rcases Yb.1 hx with hx| hx
 ·exact h x hx
 ·rw[Yt]at hx;rw[hx];exact hy
def qw{α:Type}{p:α→Prop}{l:List α}{y:α}{i:Nat}(h:∀x∈l,p x)(hy:p y):∀x∈l.set i y,p x:=by
 intro x hx;rcases ZO hx with hx| hx
 ·exact h x hx
 ·rw[hx];exact hy
def map_set{α:Type}{f:α→By}{l:List α}{n:By}{d y:α}(hn:n∈l.map f)(hy:f y=n): (l.set (bp (l.map f) n) y).map f=l.map f:=by
 rw[aac];have:=q8 hn;rw[hy]
 conv=>lhs;arg 3;rw[←this]
 exact List.set_getElem_self _
structure sG(R:eX)(e:ed)(d:Kd):Prop where
 kn:∀i t,(bL d)[i]? =some (t,true)→aO e i∈I3 R t
 fr:∀i t,(bL d)[i]? =some (t,false)→aO e i∉I3 R t
theorem AU{R e}:∀{l} {i},mK R e l i=false→∀j t,l[j]? =some (t,true)→aO e (i+j)∈I3 R t
 | [],i,_,j,t,h=>by simp at h
 | r::l,i,h,j,t,hj=>by
  rw[mK,Bool.or_eq_false_iff]at h;cases j with
  | zero=>
   simp only[Zg,Yy]at hj;subst hj;have:=h.1;simp only[ZA,Bool.not_eq_false',dG,YO]at this;exact this
  | succ j=>
   simp only[Zr]at hj;have:=AU h.2 j t hj
   rwa [Nat.add_assoc,Nat.add_comm 1 j]at this
theorem Ba{R e}:∀{l} {i},qH R e l i=false→∀j t,l[j]? =some (t,false)→aO e (i+j)∉I3 R t
 | [],i,_,j,t,h=>by simp at h
 | r::l,i,h,j,t,hj=>by
  rw[qH,Bool.or_eq_false_iff]at h;cases j with
  | zero=>
   simp only[Zg,Yy]at hj;subst hj;have:=h.1;simp only[Yz,ZA,dG,ZT]at this;exact this
  | succ j=>
   simp only[Zr]at hj;have:=Ba h.2 j t hj
   rwa [Nat.add_assoc,Nat.add_comm 1 j]at this
def yS{R e d}(h:kP d R e=0):sG R e d:=by
 unfold kP at h;split at h
 ·cases h
 case isFalse h1=>
 split at h
 ·cases h
 case isFalse h2=>
 refine⟨fun i t hi=>?_,fun i t hi=>?_⟩
 ·have:=AU (by simpa using h1) i t hi;rwa [YR]at this
 ·have:=Ba (by simpa using h2) i t hi;rwa [YR]at this
def Af(x s:Int)(hx:0≤x)(hs:0≤s):0≤(257 * x+s).tmod 16777213∧(257 * x+s).tmod 16777213 < 16777213:=by
 rw[Int.tmod_eq_emod_of_nonneg Om];omega
theorem wi:∀ (l:List Int) (x:Int),(∀s∈l,0≤s)→0≤x→x < 16777213→0≤l.foldl (fun x s=>(257 * x+s).tmod 16777213) x∧l.foldl (fun x s=>(257 * x+s).tmod 16777213) x < 16777213
 | [],x,_,h1,h2=>⟨h1,h2⟩
 | s::l,x,hs,h1,h2=>by
  have:=Af x s h1 (hs s Si);exact wi l _ (fun t ht=>hs t (YI _ ht)) this.1 this.2
def Ey{l}(hs:∀s∈l,0≤s):0≤fC l∧fC l < 16777213:=wi l 1 hs De De
theorem th:∀{l} {i},cS l i= []→∀s∈l,0≤s
 | [],_,_,s,hs=>by cases hs
 | x::r,i,h,s,hs=>by
  rw[cS]at h;split at h
  ·cases h
  ·rcases YH.1 hs with rfl| hs
   ·omega
   ·exact th h s hs
theorem fk.tick{R}(w:fk R){t}(h:0≤t∧t≤999999999):fk { R with tick:=t }:={ w with tk:=h }
section
variable {R:eX} {e:ed} (w:fk R)
include w
theorem fk.Li{n}(hn:n∈iE R):gu R n∈R.aH∧(gu R n).name=n:=⟨gY hn,gR hn⟩
def fk.F1(s:Int)(hn:aO e 0∈iE R)(hs:-1≤s∧s≤999999999):fk { R with aH:=mO R e s }:=by
 have hj:=w.Li hn;have hm:List.map kU.name (mO R e s)=iE R:=map_set (d:=zS) hn hj.2;refine { w with n4:=?_,l4:=?_,jb:=?_,pc:=?_ }
 ·show pI (List.map kU.name (mO R e s));rw[hm];exact w.n4
 ·show(mO R e s).length≤16;rw[mO,YL];exact w.l4
 ·refine qw (fun x hx=>w.jb x hx) ?_;have:=w.jb _ hj.1;refine⟨this.1,?_,?_,qw this.2.2.2 hs⟩
  ·show 1≤(List.set _ _ _).length;rw[YL];exact this.2.1
  ·show(List.set _ _ _).length≤32;rw[YL];exact this.2.2.1
 ·intro x hx;have:=w.pc x hx;exact⟨by show x.Ce∈List.map kU.name (mO R e s);rw[hm];exact this.1,this.2⟩
def fk.act{d:Kd}(he:jG e d)(hk:sG R e d)(hc:bA R e d=0):fk (dq R e d):=by
 have gn:∀i,i < (bL d).length→dW (aO e i)=true:=fun i hi=>he.nm _ (D3 (by rw[he.nl];exact hi))
 have gv:∀i,i < cB d→0≤bG e i∧bG e i≤999999999:=fun i hi=>he.vr _ (ql (by rw[he.vl];exact hi))
 cases d with
 | ee=>exact w
 | line=>
  have f0:aO e 0∉gE R:=hk.fr 0 0 rfl;rw[bA]at hc;split at hc
  ·cases hc
  case isFalse h1=>
  split at hc
  ·cases hc
  case isFalse h2=>
  have h1:=gk h1;have em:gE (dq R e .line)=gE R++ [aO e 0]:=Yc;refine { w with n0:=?_,l0:=?_,ln:=?_,sh:=?_,md:=?_ }
  ·rw[em];exact w.n0.add (gn 0 De) f0
  ·show(R.lines++ [_]).length≤16;rw[X2,Yv];omega
  ·exact iS w.ln h1
  ·intro x hx;have:=w.sh x hx;exact⟨by rw[em];exact gq this.1,this.2⟩
  ·intro x hx;obtain⟨h3,h4⟩:=w.md x hx;refine⟨?_,h4⟩;rcases h3 with h3| h3
   ·exact .inl ⟨h3.1,by rw[em];exact gq h3.2⟩
   ·exact .inr h3
 | tape=>
  have f0:aO e 0∉jB R:=hk.fr 0 1 rfl;have v0:=gv 0 De;have v1:=gv 1 De;rw[bA]at hc;split at hc
  ·cases hc
  case isFalse h1=>
  split at hc
  ·cases hc
  case isFalse h2=>
  have em:jB (dq R e .tape)=jB R++ [aO e 0]:=Yc;refine { w with n1:=?_,l1:=?_,tp:=?_,sh:=?_ }
  ·rw[em];exact w.n1.add (gn 0 De) f0
  ·show(R.aI++ [_]).length≤16;rw[X2,Yv];omega
  ·exact iS w.tp (by show 0≤bG e 0+bG e 1∧bG e 0+bG e 1≤999999999;omega)
  ·intro x hx;obtain⟨h3,h4,h5,h6⟩:=w.sh x hx;exact⟨h3,h4,h5,fun t ht=>by rw[em];exact gq (h6 t ht)⟩
 | gg=>
  have f0:aO e 0∉mN R:=hk.fr 0 2 rfl;have k1:aO e 1∈gE R:=hk.kn 1 0 rfl;have k2:aO e 2∈jB R:=hk.kn 2 1 rfl;rw[bA]at hc;split at hc
  ·cases hc
  split at hc
  ·cases hc
  split at hc
  ·cases hc
  case isFalse h2=>
  have em:mN (dq R e .gg)=mN R++ [aO e 0]:=Yc;refine { w with n2:=?_,l2:=?_,sh:=?_ }
  ·rw[em];exact w.n2.add (gn 0 De) f0
  ·show(R.aj++ [_]).length≤64;rw[X2,Yv];omega
  ·refine iS w.sh ⟨k1,Si,Si,fun t ht=>?_⟩;rw[Yt]at ht;rw[ht];exact k2
 | copy=>
  have k1:aO e 1∈jB R:=hk.kn 1 1 rfl;have en:∀x,(ku (aO e 0) (aO e 1) x).name=x.name:=fun x=>by unfold ku;split<;>rfl
  have el:∀x,(ku (aO e 0) (aO e 1) x).line=x.line:=fun x=>by unfold ku;split<;>rfl
  have em:mN (dq R e .copy)=mN R:=by
   show List.map _ (List.map _ _)=_;rw[ZK];exact List.map_congr_left fun x _=>en x
  refine { w with n2:=?_,l2:=?_,sh:=?_ }
  ·rw[em];exact w.n2
  ·show(List.map _ _).length≤64;rw[Ya];exact w.l2
  ·intro y hy;obtain⟨x,hx,rfl⟩:=YA.1 (show y∈List.map _ R.aj from hy);obtain⟨h1,h2,h3,h4⟩:=w.sh x hx;rw[el];refine⟨h1,?_⟩;unfold ku;split
   case isFalse=>exact⟨h2,h3,h4⟩
   case isTrue h5=>
    refine⟨Si,?_,iS h4 k1⟩;refine List.nodup_append.2 ⟨h3,Si,fun a ha b hb eq=>?_⟩;rw[Yt]at hb;exact h5.2 (hb▸eq▸ha)
 | accept=>
  have k0:aO e 0∈gE R:=hk.kn 0 0 rfl;have em:gE (dq R e .accept)=gE R:=map_set (d:=B1) k0 (gR k0);refine { w with n0:=?_,l0:=?_,ln:=?_,sh:=?_,md:=?_ }
  ·rw[em];exact w.n0
  ·show(List.set _ _ _).length≤16;rw[YL];exact w.l0
  ·exact qw w.ln (w.ln (dJ R (aO e 0)) (gY k0))
  ·intro x hx;have:=w.sh x hx;exact⟨by rw[em];exact this.1,this.2⟩
  ·intro x hx;obtain⟨h3,h4⟩:=w.md x hx;refine⟨?_,h4⟩;rcases h3 with h3| h3
   ·exact .inl ⟨h3.1,by rw[em];exact h3.2⟩
   ·exact .inr h3
 | source=>
  have f0:aO e 0∉gP R:=hk.fr 0 3 rfl;have k1:aO e 1∈gE R:=hk.kn 1 0 rfl;rw[bA]at hc;split at hc
  ·cases hc
  case isFalse h2=>
  have em:gP (dq R e .source)=gP R++ [aO e 0]:=Yc;refine { w with n3:=?_,l3:=?_,md:=?_,jb:=?_ }
  ·exact z159
  ·exact MI
  ·refine iS (fun x hx=>?_) ⟨.inl ⟨rfl,k1⟩,YB _,fun t ht=>by cases ht⟩;exact ML
  ·intro x hx;have:=w.jb x hx;exact⟨by rw[em];exact gq this.1,this.2⟩
 | fP=>
  have f0:aO e 0∉gP R:=hk.fr 0 3 rfl;have k1:aO e 1∈gP R:=hk.kn 1 3 rfl;have hl:e.names.length=2:=he.nl;have hdr:e.names.drop 1= [aO e 1]:=by
   match hn:e.names,hl with
   | [a,b],_=>simp[aO,hn]
  rw[bA]at hc;split at hc
  ·cases hc
  split at hc
  ·cases hc
  split at hc
  ·cases hc
  case isFalse h2=>
  have em:gP (dq R e .fP)=gP R++ [aO e 0]:=Yc;refine { w with n3:=?_,l3:=?_,md:=?_,jb:=?_ }
  ·exact z159
  ·exact MI
  ·refine iS (fun x hx=>?_) ?_
   ·exact ML
   ·simp only[hdr];exact⟨.inr Si,Si,fun t ht=>by rw[Yt]at ht;rw[ht,em];exact gq k1⟩
  ·intro x hx;have:=w.jb x hx;exact⟨by rw[em];exact gq this.1,this.2⟩
 | merge=>
  have f0:aO e 0∉gP R:=hk.fr 0 3 rfl;have k1:aO e 1∈gP R:=hk.kn 1 3 rfl;have k2:aO e 2∈gP R:=hk.kn 2 3 rfl;have hl:e.names.length=3:=he.nl;have hdr:e.names.drop 1= [aO e 1,aO e 2]:=by
   match hn:e.names,hl with
   | [a,b,c],_=>simp[aO,hn]
  rw[bA]at hc;split at hc
  ·cases hc
  split at hc
  ·cases hc
  split at hc
  ·cases hc
  case isFalse h2=>
  have em:gP (dq R e .merge)=gP R++ [aO e 0]:=Yc;refine { w with n3:=?_,l3:=?_,md:=?_,jb:=?_ }
  ·exact z159
  ·exact MI
  ·refine iS (fun x hx=>?_) ?_
   ·exact ML
   ·simp only[hdr];refine⟨.inr Si,Si,fun t ht=>?_⟩;rw[em];rcases YH.1 ht with ht| ht
    ·rw[ht];exact gq k1
    ·rw[Yt]at ht;rw[ht];exact gq k2
  ·intro x hx;have:=w.jb x hx;exact⟨by rw[em];exact gq this.1,this.2⟩
 | run=>
  have f0:aO e 0∉iE R:=hk.fr 0 4 rfl;have k1:aO e 1∈gP R:=hk.kn 1 3 rfl;rw[bA]at hc;split at hc
  ·cases hc
  split at hc
  ·cases hc
  case isFalse h1=>
  split at hc
  ·cases hc
  case isFalse h2=>
  have h1:=gk h1;have em:iE (dq R e .run)=iE R++ [aO e 0]:=Yc;refine { w with n4:=?_,l4:=?_,jb:=?_,pc:=?_ }
  ·rw[em];exact w.n4.add (gn 0 De) f0
  ·show(R.aH++ [_]).length≤16;rw[X2,Yv];omega
  ·refine iS w.jb ⟨k1,?_,?_,fun s hs=>?_⟩
   ·show 1≤(List.replicate _ _).length;rw[Ze];omega
   ·show(List.replicate _ _).length≤32;rw[Ze];omega
   ·rw[(List.mem_replicate.1 hs).2];decide
  ·intro x hx;have:=w.pc x hx;exact⟨by rw[em];exact gq this.1,this.2⟩
 | fM=>exact w.F1 _ (hk.kn 0 4 rfl) (by have:=gv 2 De;omega)
 | fail=>exact w.F1 _ (hk.kn 0 4 rfl) De
 | gh=>
  have f0:aO e 0∉kX R:=hk.fr 0 5 rfl;have k1:aO e 1∈iE R:=hk.kn 1 4 rfl;rw[bA]at hc;split at hc
  ·cases hc
  split at hc
  ·cases hc
  case isFalse h1=>
  split at hc
  ·cases hc
  case isFalse h2=>
  have em:kX (dq R e .gh)=kX R++ [aO e 0]:=Yc;refine { w with n5:=?_,l5:=?_,pc:=?_ }
  ·rw[em];exact w.n5.add (gn 0 De) f0
  ·show(R.aQ++ [_]).length≤16;rw[X2,Yv];omega
  ·exact iS w.pc ⟨k1,Ey (th (Classical.not_not.1 h1))⟩
 | rel=>
  have k0:aO e 0∈kX R:=hk.kn 0 5 rfl;have em:kX (dq R e .rel)=kX R:=map_set (d:=Ht) k0 (gR k0);refine { w with n5:=?_,l5:=?_,pc:=?_ }
  ·rw[em];exact w.n5
  ·show(List.set _ _ _).length≤16;rw[YL];exact w.l5
  ·exact qw w.pc (w.pc (jO R (aO e 0)) (gY k0))
def fk.step{d}(he:jG e d)(hd:d≠.ee)(h:gK R e d=0):fk (ke R e d):=by
 unfold gK at h;split at h
 ·cases h
 split at h
 case isTrue h1=>exact absurd h h1
 case isFalse h1=>
 have h1:=Classical.not_not.1 h1;refine(w.act he (yS h1) h).tick (he.vr _ (ql ?_));rw[he.vl];cases d<;>first| exact absurd rfl hd| decide
end
def cU{α:Type}(p:α→Bool)(L:List α):Int:=
 match L.findIdx? p with
 | some i=>(i:Int)
 | none=>-1
def nY{α:Type}(p:α→Bool)(L:List α):decide (0≤cU p L)=L.any p:=by
 unfold cU;cases hx:L.findIdx? p with
 | none=>
  simp only[List.findIdx?_eq_none_iff]at hx;have:L.any p=false:=by rw[List.any_eq_false];intro x Q2;simp[hx x Q2]
  rw[this];rfl
 | some i=>
  have h1:=List.findIdx?_isSome (xs:=L) (p:=p);rw[hx]at h1;rw[←h1];simp
def ao(x:By):List AV:=[.str x]
def cp(x:gM):List AV:=[.str x.name,.i x.want,.bool x.acc]
def dQ(x:rT):List AV:=[.str x.name,.i x.last]
def bj(x:jI×AV):List AV:=[.str x.1.name,.str x.1.line,x.2]
def aV(x:gS×AV):List AV:=[.str x.1.name,.str x.1.gives,.str x.1.line,x.2]
def bN(x:kU×AV):List AV:=[.str x.1.name,.str x.1.mod,x.2]
def c9(x:qk):List AV:=[.str x.name,.str x.Ce,.i x.nf,.bool x.rel]
structure RV where
 tick:Int
 lines:List gM
 aI:List rT
 aj:List (jI×AV)
 aD:List (gS×AV)
 aH:List (kU×AV)
 aQ:List qk
 s0:AV
 s1:AV
 s2:AV
 s3:AV
 s4:AV
 s5:AV
def RV.an(V:RV):eX:=⟨V.tick,V.lines,V.aI,V.aj.map Prod.fst,V.aD.map Prod.fst,V.aH.map Prod.fst,V.aQ⟩
def RV.row(V:RV):List AV:=[.i V.tick,V.s0,V.s1,V.s2,V.s3,V.s4,V.s5]
def RV.zero:RV:=⟨0,[],[],[],[],[],[],.af,.af,.af,.af,.af,.af⟩
structure aC(h:ah)(V:RV):Prop where
 i0:aK h V.s0 3 (V.lines.map cp)
 i1:aK h V.s1 2 (V.aI.map dQ)
 i2:aK h V.s2 3 (V.aj.map bj)
 i3:aK h V.s3 4 (V.aD.map aV)
 i4:aK h V.s4 3 (V.aH.map bN)
 i5:aK h V.s5 4 (V.aQ.map c9)
 e2:∀x∈V.aj,aK h x.2 1 (x.1.aI.map ao)
 e3:∀x∈V.aD,aK h x.2 1 (x.1.bw.map ao)
 e4:∀x∈V.aH,aK h x.2 1 (x.1.bz.map aJ)
theorem aC.ext{h k V}(o:aC h V)(e:Ext h k):aC k V:=
 ⟨o.i0.ext e,o.i1.ext e,o.i2.ext e,o.i3.ext e,o.i4.ext e,o.i5.ext e,fun x hx=>(o.e2 x hx).ext e,fun x hx=>(o.e3 x hx).ext e,fun x hx=>(o.e4 x hx).ext e⟩
theorem aC.zero{h}:aC h RV.zero:=by
 refine⟨.nil,.nil,.nil,.nil,.nil,.nil,?_,?_,?_⟩
 all_goals intro x hx;cases hx
def sB:AV→Option Nat
 | .slice b _ _ _=>some b
 | _=>none
def Nj{v b}(h:sB v=some b):∃o n e,v= .slice b o n e:=by
 cases v with
 | slice b' o n e=>cases h;exact⟨o,n,e,rfl⟩
 | _=>cases h
def Fr.bM{N h s es cs}(hs:Fr N h s es cs){b}(hb:sB s=some b):N≤b∧b < h.length:=by
 obtain⟨o,n,e,rfl⟩:=Nj hb;exact hs.lt rfl
def Fr.aB{N h k s es cs}(hs:Fr N h s es cs)(hk:∀b,sB s=some b→k[b]? =h[b]?):Fr N k s es cs:=by
 exact JN
def RV.bl(V:RV):List (Option Nat):=[sB V.s0,sB V.s1,sB V.s2,sB V.s3,sB V.s4,sB V.s5]++ (V.aj.map fun x=>sB x.2)++ (V.aD.map fun x=>sB x.2)++ (V.aH.map fun x=>sB x.2)
def kY(l:List (Option Nat)):Prop:=l.Pairwise fun x y=>∀b,x=some b→y≠some b
structure cG(N:Nat)(h:ah)(V:RV):Prop where
 i0:Fr N h V.s0 3 (V.lines.map cp)
 i1:Fr N h V.s1 2 (V.aI.map dQ)
 i2:Fr N h V.s2 3 (V.aj.map bj)
 i3:Fr N h V.s3 4 (V.aD.map aV)
 i4:Fr N h V.s4 3 (V.aH.map bN)
 i5:Fr N h V.s5 4 (V.aQ.map c9)
 e2:∀x∈V.aj,Fr N h x.2 1 (x.1.aI.map ao)
 e3:∀x∈V.aD,Fr N h x.2 1 (x.1.bw.map ao)
 e4:∀x∈V.aH,Fr N h x.2 1 (x.1.bz.map aJ)
 di:kY V.bl
def cG.ok{N h V}(o:cG N h V):aC h V:=
 ⟨o.i0.aX,o.i1.aX,o.i2.aX,o.i3.aX,o.i4.aX,o.i5.aX,fun x hx=>(o.e2 x hx).aX,fun x hx=>(o.e3 x hx).aX,fun x hx=>(o.e4 x hx).aX⟩
theorem cG.app{N h V}(o:cG N h V)(g:ah):cG N (h++g) V:=
 ⟨o.i0.app g,o.i1.app g,o.i2.app g,o.i3.app g,o.i4.app g,o.i5.app g,fun x hx=>(o.e2 x hx).app g,fun x hx=>(o.e3 x hx).app g,fun x hx=>(o.e4 x hx).app g,o.di⟩
def cG.au{N h k V}(o:cG N h V)(hk:∀b,some b∈V.bl→k[b]? =h[b]?):cG N k V:=by
 have m6:∀x∈[sB V.s0,sB V.s1,sB V.s2,sB V.s3,sB V.s4,sB V.s5],x∈V.bl:=fun x hx=>by simp only[RV.bl,Yb];exact .inl (.inl (.inl hx))
 refine⟨o.i0.aB fun b hb=>hk b (hb▸m6 _ Si),o.i1.aB fun b hb=>hk b (hb▸m6 _ Si),o.i2.aB fun b hb=>hk b (hb▸m6 _ Si),o.i3.aB fun b hb=>hk b (hb▸m6 _ Si),o.i4.aB fun b hb=>hk b (hb▸m6 _ Si),o.i5.aB fun b hb=>hk b (hb▸m6 _ Si),
  fun x hx=>(o.e2 x hx).aB fun b hb=>hk b ?_,fun x hx=>(o.e3 x hx).aB fun b hb=>hk b ?_,fun x hx=>(o.e4 x hx).aB fun b hb=>hk b ?_,o.di⟩
 ·exact z143
 ·exact z152
 ·exact z167
structure EV where
 ev:ed
 sn:AV
 sv:AV
def EV.row(x:EV):List AV:=[.i x.ev.num,.str x.ev.kind,x.sn,x.sv,.str x.ev.text]
structure bg(h:ah)(x:EV):Prop where
 n:aK h x.sn 1 (x.ev.names.map ao)
 v:aK h x.sv 1 (x.ev.b9.map aJ)
theorem bg.ext{h k x}(o:bg h x)(e:Ext h k):bg k x:=⟨o.n.ext e,o.v.ext e⟩
structure dB(h:ah)(L:List EV)(s:AV):Prop where
 sl:aK h s 5 (L.map EV.row)
 all:∀x∈L,bg h x
theorem dB.ext{h k L s}(o:dB h L s)(e:Ext h k):dB k L s:=⟨o.sl.ext e,fun x hx=>(o.all x hx).ext e⟩
end Go.Abs
namespace Go.Abs
inductive Ow (N:Nat) (h:ah):AV→Nat→List (List AV)→Prop
 | nil {es:Nat}:Ow N h .af es []
 | mk {b es:Nat} {cs:List (List AV)} {junk:List AV} (hN:N≤b) (hb:h[b]? =some (.cells (cs.flatten++junk) true true)) (he:∀x∈cs,x.length=es):Ow N h (.slice b 0 cs.length es) es cs
def Ow.aX{N h s es cs}(hs:Ow N h s es cs):aK h s es cs:=by
 cases hs with
 | nil=>exact .nil
 | mk hN hb he=>
  have hl:=eE he;exact .mk hb (by rw[Zu,←hl,List.take_left]) (by rw[X2];omega) he
def Ow.bM{N h s es cs}(hs:Ow N h s es cs){b}(hb:sB s=some b):N≤b∧b < h.length:=by
 cases hs with
 | nil=>cases hb
 | mk hN hb' he=>cases hb;exact⟨hN,(X1.1 hb').1⟩
def Ow.aB{N h k s es cs}(hs:Ow N h s es cs)(hk:∀b,sB s=some b→k[b]? =h[b]?):Ow N k s es cs:=by
 exact JN
def Ow.cut{N h s es cs}(hs:Ow N h s es cs){n:Nat}(hn:n≤cs.length){k}:
  ∃s',AH es s none (some (.int k (n:Int)))=some (s',.au)∧sB s' =sB s∧Ow N h s' es (cs.take n):=by
 cases hs with
 | nil=>
  have:n=0:=by simpa using hn
  subst this;exact⟨.af,by simp only[AH,jy (Yg 0)],rfl,by rw[List.take_nil];exact .nil⟩
 | @mk b _ _ junk hN hb he=>
  refine⟨.slice b 0 n es,?_,rfl,?_⟩
  ·simp only[AH,Ys,jy hn,aab,aay,Nat.sub_zero]
  ·have hl: (cs.take n).length=n:=by rw[Y5];omega
   have hf:cs.flatten++junk= (cs.take n).flatten++ ((cs.drop n).flatten++junk):=by
    rw[←X4,←ZM,Zx]
   rw[hf]at hb;have:=Ow.mk (cs:=cs.take n) hN hb (fun x hx=>he x (Zd hx))
   rwa [hl]at this
section
variable {P:Program} {ro:Option Nat→Prop} {ks:List Kt} {ts:TS} {Q:Ex→TS→ah→Prop}
def WR.IB{h s y es cs ys N w d l}(hs:Ow N h s es cs)(hy:aK h y es ys)(hN:N≤h.length)(hes:0 < es)(hne:0 < ys.length)(dZ: (cs.length+ys.length) * w≤2^46)
  (K:∀h',h'.length=h.length+1→Ow N h' (.slice h.length 0 (cs++ys).length es) es (cs++ys)→(∀b,b < h.length→sB s≠some b→h'[b]? =h[b]?)→WP P ro l ks (put ts d (.slice h.length 0 (cs++ys).length es)) h' Q):
  WR P ro (pB es w s y (fun b=>h[b]?) h.length) false d l ks ts h Q:=by
 have SK:∀x∈cs++ys,x.length=es:=fun x hx=>by
  exact JO
 have hk:¬ys.length=0:=Om
 simp only[pB,hy.ff];have mk:∀h1:ah,h1.length=h.length→Ow N (h1++ [.cells (cs++ys).flatten true true]) (.slice h.length 0 (cs++ys).length es) es (cs++ys):=by
  intro h1 h1l;refine Ow.mk (junk:=[]) hN ?_ SK;rw[Yu,←h1l];exact ba
 cases hs with
 | nil=>
  simp only[X9,YR]at dZ;simp only[Yd hk,Yh dZ];rw[mq];have hK:=K (h++ [.cells ys.flatten true true]) Si (mk h rfl) (fun b hb _=>X5 hb);exact hK
 | @mk b _ _ junk hbN hb hre=>
  have hcl:=eE hre;simp only[Ys,Yd hk,Yh dZ,hb,YR];rw[Yh (by rw[X2];omega),nq];have hbl:b < h.length:=(X1.1 hb).1;have hc:List.take (cs.length * es) (List.drop 0 (cs.flatten++junk))=cs.flatten:=by rw[Zu,←hcl,List.take_left]
  rw[hc];have hK:=K (h.set b .dead++ [.cells (cs++ys).flatten true true]) Si (mk _ Si) (fun i hi hne=>by
   have:b≠i:=fun e=>hne (by rw[←e];rfl)
   rw[X5 (by simpa using hi),Yj this])
  simp only[ZM,X2]at hK ⊢;exact hK
end
def fG(ex:List (Option Nat))(h:ah):ah:=h.mapIdx fun b k=>if some b∈ex then .dead else k
def ua{ex h b}(hb:some b∉ex): (fG ex h)[b]? =h[b]? :=by
 rw[fG,List.getElem?_mapIdx];cases h[b]? with
 | none=>rfl
 | some k=>simp[hb]
def rk{ex h b c mu tl}(hb: (fG ex h)[b]? =some (.cells c mu tl)):some b∉ex∧h[b]? =some (.cells c mu tl):=by
 rw[fG,List.getElem?_mapIdx]at hb;cases hk:h[b]? with
 | none=>rw[hk]at hb;cases hb
 | some k=>
  rw[hk]at hb;simp only[ZY,Yy]at hb;split at hb
  ·cases hb
  case isFalse h1=>exact⟨h1,by rw[hb]⟩
def ji(k h:ah):Prop:=∀ (b:Nat) (c:List AV) (mu tl:Bool),k[b]? =some (ak.cells c mu tl)→h[b]? =some (ak.cells c mu tl)
def aK.sub{k h s es cs}(o:aK k s es cs)(e:ji k h):aK h s es cs:=by
 cases o with
 | nil=>exact .nil
 | mk hb hf ho he=>exact .mk (e _ _ _ _ hb) hf ho he
theorem aC.sub{k h V}(o:aC k V)(e:ji k h):aC h V:=
 ⟨o.i0.sub e,o.i1.sub e,o.i2.sub e,o.i3.sub e,o.i4.sub e,o.i5.sub e,fun x hx=>(o.e2 x hx).sub e,fun x hx=>(o.e3 x hx).sub e,fun x hx=>(o.e4 x hx).sub e⟩
theorem bg.sub{k h x}(o:bg k x)(e:ji k h):bg h x:=⟨o.n.sub e,o.v.sub e⟩
theorem ji.fG(ex:List (Option Nat))(h:ah):ji (fG ex h) h:=fun _ _ _ _ hb=>(rk hb).2
theorem aK.fG{h s es cs}(o:aK h s es cs){ex}(hx:∀b,sB s=some b→some b∉ex):aK (Go.Abs.fG ex h) s es cs:=by
 cases o with
 | nil=>exact .nil
 | mk hb hf ho he=>exact .mk ((ua (hx _ rfl)).trans hb) hf ho he
def aC.au{h k V}(o:aC h V)(hk:∀b,some b∈V.bl→k[b]? =h[b]?):aC k V:=by
 have m6:∀x∈[sB V.s0,sB V.s1,sB V.s2,sB V.s3,sB V.s4,sB V.s5],x∈V.bl:=fun x hx=>by simp only[RV.bl,Yb];exact .inl (.inl (.inl hx))
 have kp:∀{s:AV} {es:Nat} {cs:List (List AV)},aK h s es cs→(∀b,sB s=some b→k[b]? =h[b]?)→aK k s es cs:=fun {s es cs} hs hb=>by
  cases hs with
  | nil=>exact .nil
  | mk h1 h2 h3 h4=>exact .mk ((hb _ rfl).trans h1) h2 h3 h4
 refine⟨kp o.i0 fun b hb=>hk b (hb▸m6 _ Si),kp o.i1 fun b hb=>hk b (hb▸m6 _ Si),kp o.i2 fun b hb=>hk b (hb▸m6 _ Si),kp o.i3 fun b hb=>hk b (hb▸m6 _ Si),kp o.i4 fun b hb=>hk b (hb▸m6 _ Si),kp o.i5 fun b hb=>hk b (hb▸m6 _ Si),
  fun x hx=>kp (o.e2 x hx) fun b hb=>hk b ?_,fun x hx=>kp (o.e3 x hx) fun b hb=>hk b ?_,fun x hx=>kp (o.e4 x hx) fun b hb=>hk b ?_⟩
 ·exact z143
 ·exact z152
 ·exact z167
structure HV where
 db:List EV
 ez:List EV
 cM:List RV
 se:AV
 sc:AV
 sr:AV
def HV.bS(V:HV):jj:=⟨V.db.map EV.ev,V.ez.map EV.ev,V.cM.map RV.an⟩
def HV.ex(b:Nat)(V:HV):List (Option Nat):=[some b,sB V.se,sB V.sc,sB V.sr]
structure cF(N:Nat)(h:ah)(b:Nat)(V:HV):Prop where
 hN:N≤b
 hb:h[b]? =some (.b [V.se,V.sc,V.sr])
 oe:Ow N h V.se 5 (V.db.map EV.row)
 oc:Ow N h V.sc 5 (V.ez.map EV.row)
 og:Ow N h V.sr 7 (V.cM.map RV.row)
 di:kY (V.ex b)
 ae:∀x∈V.db,bg (fG (V.ex b) h) x
 ac:∀x∈V.ez,bg (fG (V.ex b) h) x
 ag:∀x∈V.cM,aC (fG (V.ex b) h) x
 lo:∀x∈V.cM,∀j,some j∈x.bl→N≤j
def nE{ex ex' h h'}(hk:∀b,b < h.length→some b∉ex→h'[b]? =h[b]?)(he:∀b,b < h.length→some b∈ex'→some b∈ex):ji (fG ex h) (fG ex' h'):=by
 intro b c mu tl hb;obtain⟨h1,h2⟩:=rk hb;have hlt:b < h.length:=(X1.1 h2).1;rw[ua fun h3=>h1 (he b hlt h3),hk b hlt h1,h2]
def cF.app{N h b V}(o:cF N h b V)(g:ah):cF N (h++g) b V:=by
 have hs:ji (fG (V.ex b) h) (fG (V.ex b) (h++g)):=nE (fun b hb _=>X5 hb) (fun b _ hb=>hb);have hbl:=(X1.1 o.hb).1;exact⟨o.hN,(X5 hbl).trans o.hb,o.oe.aB fun b hb=>X5 (o.oe.bM hb).2,o.oc.aB fun b hb=>X5 (o.oc.bM hb).2,o.og.aB fun b hb=>X5 (o.og.bM hb).2,o.di,
  fun x hx=>(o.ae x hx).sub hs,fun x hx=>(o.ac x hx).sub hs,fun x hx=>(o.ag x hx).sub hs,o.lo⟩
end Go.Abs
namespace Go.Abs
def jU:By→Bool
 | []=>true
 | c::r=>fS c && r.all jM
def tf(s:By):dW s= (decide (s≠[]) && decide (s.length≤24) && jU s):=by
 cases s with
 | nil=>rfl
 | cons c r=>
  have: (r.length < 24)= ((c::r).length≤24):=by simp;omega
  simp only[dW,jU,this];simp[Bool.and_assoc]
def Ab{s:By}{k:Nat}(hk:k < s.length):jU (s.take (k+1))= (jU (s.take k) && (if k=0 then fS s[k]else jM s[k])):=by
 cases s with
 | nil=>simp at hk
 | cons c r=>
  cases k with
  | zero=>simp[jU]
  | succ k=>
   have hk':k < r.length:=by simpa using hk
   simp only[ZX,jU,List.getElem_cons_succ];rw[YM,X6 hk',Option.toList_some];rw[List.all_append,ZF,List.all_nil,Bool.and_true,Bool.and_assoc,Yd Om]
def Aa{s k}(h:jU (s.take k)=false):jU s=false:=by
 cases s with
 | nil=>simp[jU]at h
 | cons c r=>
  cases k with
  | zero=>simp[jU]at h
  | succ k=>
   simp only[ZX,jU,Bool.and_eq_false_iff]at h ⊢;rcases h with h| h
   ·exact .inl h
   ·right
    rw[List.all_eq_false]at h ⊢;obtain⟨x,hx,hr⟩:=h;exact⟨x,Zd hx,hr⟩
def dec_lt{s i}(hi:i < s.length)(h:s[i].toNat < 128):Utf8.decode ⟨⟨s⟩⟩ i= (s[i].toNat,1):=by
 have hg: (ByteArray.get! ⟨⟨s⟩⟩ i).toNat=s[i].toNat:=by
  simp[ByteArray.get!,hi]
 simp only[Utf8.decode,aay,hg,Yh h]
def Im{s i}(hi:i < s.length)(h:128≤s[i].toNat):128≤(Utf8.decode ⟨⟨s⟩⟩ i).1:=by
 have hg: (ByteArray.get! ⟨⟨s⟩⟩ i).toNat=s[i].toNat:=by
  simp[ByteArray.get!,hi]
 simp only[Utf8.decode,aay,hg];rw[Yd Om];simp only[Utf8.runeError]
 repeat' split
 all_goals first
  | (simp only;omega)
  | (simp only[YD,YO]at *;omega)
section
variable {P:Program} (T:fy P) {h:ah}
include T
def r85(c:Bool)(e:Int):ay P 85 [.bool c,.i e] h (fun v _=>v= .i (bV c e)):=by
 refine .of T.mix T.c85 ?_;unfold fn85 Dt;simp only[uset];cases c<;>simp only[aW]<;>rfl
def r82(c:Bool)(e:Int):ay P 82 [.bool c,.i e] h (fun v _=>v= .i (bV c e)):=by
 refine .of T.mix T.c82 ?_;unfold fn82 Dt;simp only[uset];cases c<;>simp only[aW]<;>rfl
def r94(n lo hi:Int):ay P 94 [.i n,.i lo,.i hi] h (fun v _=>v= .i (bh n lo hi)):=by
 refine .of T.mix T.c94 ?_;unfold fn94;simp only[uset];simp+contextual only[aW,mJ,Yk,Yp];refine⟨fun h1=>?_,fun h1=>?_⟩<;>
 ·refine WF.res T.c85 (r85 T _ _) ?_;rintro _ g rfl;simp only[aW];simp[bV,bh,h1]
def r74{s l}(hs:aK h s 1 (l.map aJ))(hl:l.length < 2^63):ay P 74 [s] h (fun v _=>v= .i (bf l)):=by
 refine .of T.mix T.c74 ?_;unfold fn74;simp only[uset];have e1: (l.map aJ).length=l.length:=Si
 simp only[aW,hs.iO,e1];refine WL.inv T.mix (fun n ts h'=>∃k:Nat,k≤l.length∧n=l.length - k∧h' =h∧bf l=bf (l.drop k)∧ts.length=15∧slot ts 5=s∧slot ts 6= .i l.length∧slot ts 7= .i k) l.length
  ⟨0,Om,rfl,rfl,rfl,rfl,rfl,rfl,rfl⟩ ?_
 rintro _ ts _ ⟨k,hk,rfl,rfl,hf,hlen,h5,h6,h7⟩;rw[kT ts 15 hlen];by_cases hlt:k < l.length
 ·have hd:l.drop k=l[k]::l.drop (k+1):=Si
  have e2: (l.map aJ)[k]'Om= [AV.i l[k]]:=Si
  have e3: (k:Int)< l.length:=Om
  simp+contextual (disch:=omega) only[aW,mJ,h5,h6,h7,e3,Yk,hs.aS,Int.toNat_natCast,hs.F9 _ e2,bo];exact PO
 ·have e3:¬ (k:Int)< l.length:=Om
  have e4:k=l.length:=Om
  simp+contextual (disch:=omega) only[aW,h5,h6,h7,e3,Yp,Ys];rw[hf,e4,YZ];rfl
def r83{s l}(hs:aK h s 1 (l.map aJ))(hl:l.length < 2^63):ay P 83 [s] h (fun v _=>v= .i (bf l)):=by
 refine .of T.mix T.c83 ?_;unfold fn83;simp only[uset];have e1: (l.map aJ).length=l.length:=Si
 simp only[aW,hs.iO,e1];refine WL.inv T.mix (fun n ts h'=>∃k:Nat,k≤l.length∧n=l.length - k∧h' =h∧bf l=bf (l.drop k)∧ts.length=19∧slot ts 0=s∧slot ts 3= .i k) l.length
  ⟨0,Om,rfl,rfl,rfl,rfl,rfl,rfl⟩ ?_
 rintro _ ts _ ⟨k,hk,rfl,rfl,hf,hlen,h0,h3⟩;rw[kT ts 19 hlen];by_cases hlt:k < l.length
 ·have hd:l.drop k=l[k]::l.drop (k+1):=Si
  have e2: (l.map aJ)[k]'Om= [AV.i l[k]]:=Si
  have e3: (k:Int)< l.length:=Om
  simp+contextual (disch:=omega) only[aW,mJ,h0,h3,e3,e1,Yk,hs.iO,hs.aS,Int.toNat_natCast,hs.F9 _ e2,bo];exact PO
 ·have e3:¬ (k:Int)< l.length:=Om
  have e4:k=l.length:=Om
  simp+contextual (disch:=omega) only[aW,h0,h3,e1,e3,Yp,hs.iO,Ys];rw[hf,e4,YZ];rfl
def r193(c:UInt8):ay P 193 [.int .u8 c.toNat] h (fun v _=>v= .bool (fS c)):=by
 refine .of T.mix T.c193 ?_;unfold fn193;simp only[uset];simp+contextual only[aW,mJ,Yk,Yp]
 grind [fS]
def r194(c:UInt8):ay P 194 [.int .u8 c.toNat] h (fun v _=>v= .bool (fc c)):=by
 refine .of T.mix T.c194 ?_;unfold fn194;simp only[uset];simp+contextual only[aW,mJ,Yk,Yp]
 grind [fc]
def r102(s:By)(hl:s.length < 2^63):ay P 102 [.str s] h (fun v _=>v= .bool (dW s)):=by
 refine .of T.mix T.c102 ?_;unfold fn102;simp only[uset];cases s with
 | nil=>
  simp only[aW,X9];simp only[show((0:Nat):Int)=0 from rfl,Yk,aW];rfl
 | cons c r=>
  have e1:¬ (((c::r).length:Nat):Int)=0:=by simp;omega
  simp+contextual only[aW,mJ,e1,Yk,Yp];refine⟨fun h1=>?_,fun h1=>?_⟩
  ·have:¬r.length < 24:=by simp at h1;omega
   simp[dW,this]
  ·rw[vK];simp only[aW];refine WF.ce T.c193 (r193 T _) fun g=>?_
   have hlt:r.length < 24:=by simp at h1;omega
   cases hc:fS c with
   | false=>
    simp only[aW,Yz];simp[dW,hc]
   | true=>
    simp only[aW,Yw];have key:dW (c::r)=r.all jM:=by simp[dW,hc,hlt]
    refine WL.inv T.mix (fun n ts h'=>∃k:Nat,k≤r.length∧n=r.length - k∧Ext h h'∧r.all jM= (r.drop k).all jM∧ts.length=42∧slot ts 0= .str (c::r)∧slot ts 3= .i (k+1)) r.length
     ⟨0,Om,rfl,⟨_,rfl⟩,rfl,rfl,rfl,rfl⟩ ?_
    rintro _ ts _ ⟨k,hk,rfl,⟨g',rfl⟩,hf,hlen,h0,h3⟩;rw[kT ts 42 hlen];have hlc: (c::r).length=r.length+1:=rfl;by_cases hlt:k < r.length
    ·have hd:r.drop k=r[k]::r.drop (k+1):=Si
     have e3: (k:Int)+1 < ((c::r).length:Nat):=Om
     have e4:vL (.str (c::r)) (.i (k+1))=some (.int .u8 r[k].toNat):=jC (s:=c::r) (i:=k+1) Om;simp only[aW,h0,h3,e3,Yk,e4];refine WF.ce T.c193 (r193 T _) fun g1=>?_
     cases hx:fS r[k]with
     | true=>
      simp (disch:=omega) only[aW,Yw,bo];exact⟨_,Om,k+1,Om,rfl,by rw[hf,hd,ZF,jM,hx,Bool.true_or,Bool.true_or,ZA],rfl⟩
     | false=>
      simp only[aW,Yz,h0,h3,e4];refine WF.ce T.c194 (r194 T _) fun g2=>?_
      cases hy:fc r[k]with
      | true=>
       simp (disch:=omega) only[aW,Yw,bo];exact⟨_,Om,k+1,Om,rfl,by rw[hf,hd,ZF,jM,hx,hy,Bool.or_true,Bool.true_or,ZA],rfl⟩
      | false=>
       simp+contextual (disch:=omega) only[aW,mJ,Yz,h0,h3,e4,bo];refine⟨fun h9=>?_,fun h9=>⟨_,Om,k+1,Om,rfl,?_,rfl⟩⟩
       ·rw[key,hf,hd,ZF,jM,hx,hy];simp;omega
       ·rw[hf,hd,ZF,jM,hx,hy];simp;omega
    ·have e3:¬ (k:Int)+1 < ((c::r).length:Nat):=Om
     have e4:k=r.length:=Om
     simp only[aW,h0,h3,e3,Yp,Ys];rw[key,hf,e4,YZ];rfl
def r132(s:By):ay P 132 [.str s] h (fun v _=>v= .bool (dW s)):=by
 refine .of T.mix T.c132 ?_;unfold fn132;simp only[uset];simp only[aW,bd];refine WL.inv T.mix (fun n ts h'=>∃k:Nat,k≤s.length∧n=s.length - k∧h' =h++ [.iter s k]∧jU (s.take k)=true∧ts.length=54∧slot ts 0= .str s∧slot ts 8= .ptr h.length 0) s.length
  ⟨0,Om,rfl,rfl,rfl,rfl,rfl,rfl⟩ ?_
 rintro _ ts _ ⟨k,hk,rfl,rfl,hf,hlen,h0,h8⟩;rw[kT ts 54 hlen];by_cases hlt:k < s.length
 ·have RF:=Ab hlt;rw[hf,ZA]at RF;obtain⟨c,w,Tk,hcw⟩:∃c w,Utf8.decode ⟨⟨s⟩⟩ k= (c,w)∧(c=s[k].toNat∧w=1∨128≤c∧128≤s[k].toNat):=by
   by_cases hc:s[k].toNat < 128
   ·exact⟨_,_,dec_lt hlt hc,.inl ⟨rfl,rfl⟩⟩
   ·exact z194
  have SZ: (if k=0 then fS s[k]else jM s[k])=false→AV.bool false=AV.bool (dW s):=fun hb=>by
   rw[hb]at RF;rw[tf,Aa RF,Bool.and_false]
  have Wt:∀w',c=s[k].toNat∧w' =1→(if k=0 then fS s[k]else jM s[k])=true→∃m,m < s.length - k∧∃k_1,k_1≤s.length∧m=s.length - k_1∧h++ [ak.iter s (k+w')]=h++ [ak.iter s k_1]∧jU (List.take k_1 s)=true∧True:=fun w' hw hb=>by
   rw[hb]at RF;exact⟨_,Om,k+1,Om,rfl,by rw[hw.2],RF,trivial⟩
  have hl:fS s[k]= (decide (65≤s[k].toNat) && decide (s[k].toNat≤90)|| decide (97≤s[k].toNat) && decide (s[k].toNat≤122)):=rfl;have hr:jM s[k]= (fS s[k]|| (decide (48≤s[k].toNat) && decide (s[k].toNat≤57))|| s[k].toNat==95):=rfl;have h0': ((k:Int)=0)= (k=0):=Si
  by_cases a1: (65:Int)≤c<;>by_cases a2: (c:Int)≤90<;>by_cases a3: (97:Int)≤c<;>by_cases a4: (c:Int)≤122<;>first| (exfalso;omega)| skip
  all_goals by_cases a5: (48:Int)≤c<;>by_cases a6: (c:Int)≤57<;>by_cases a7: (c:Int)=95<;>first| (exfalso;omega)| skip
  all_goals first| have b7:=ZB a7| have b7:=aaF a7
  all_goals simp only[aW,bd,h0,h8,dV,hlt,Ys,Tk,a1,a2,a3,a4,a5,a6,b7,Yk,Yp,Yw,Yz]
  all_goals first
   | exact Wt _ Om (by grind)
   | (by_cases hk0: (k:Int)=0<;>simp only[aW,bd,hk0,Yk,Yp,Yw,Yz]<;>first
     | exact SZ (by grind)
     | exact Wt _ Om (by grind))
   | exact SZ (by grind)
 ·simp only[aW,bd,h0,h8,dV,hlt,Yo,Ys];have e4:k=s.length:=Om
  rw[e4,YF]at hf;by_cases he:s= []<;>simp only[aW,he,Yk,Yp,ne_eq,not_true_eq_false,not_false_eq_true]
  ·rfl
  ·rw[tf,hf];simp[he];omega
end
end Go.Abs
namespace Go.Abs
def e9{α:Type}{f:α→By}{L:List α}{n:By}(h:n∈L.map f):cU (fun x=>decide (f x=n)) L= (bp (L.map f) n:Int):=by
 have e:bp (L.map f) n=L.findIdx fun x=>decide (f x=n):=by
  rw[bp,List.findIdx_map];rfl
 have hlt:=cY h;rw[e,Ya]at hlt;rw[e,cU,List.findIdx?_eq_guard_findIdx_lt];simp[Option.guard,hlt]
def fi{α:Type}{f:α→By}{L:List α}{n:By}:decide (0≤cU (fun x=>decide (f x=n)) L)=decide (n∈L.map f):=by
 rw[nY];rw[Bool.eq_iff_iff];simp[ZE]
section
variable {P:Program} (T:fy P) {h:ah}
include T
def r230{α:Type}{row L s f}(hs:aK h s 3 (L.map row))(hl:L.length < 2^63)(p:α→Bool)
  (hf:∀x,x∈L→∀k,Ext h k→bF P f [.agg (row x)] k (fun v _=>v= .bool (p x))):ay P 230 [s,f] h (fun v _=>v= .i (cU p L)):=by
 refine .of T.mix T.c230 ?_;unfold fn230 kJ;exact z1
def r232{α:Type}{row L s f}(hs:aK h s 2 (L.map row))(hl:L.length < 2^63)(p:α→Bool)
  (hf:∀x,x∈L→∀k,Ext h k→bF P f [.agg (row x)] k (fun v _=>v= .bool (p x))):ay P 232 [s,f] h (fun v _=>v= .i (cU p L)):=by
 refine .of T.mix T.c232 ?_;unfold fn232 kJ;exact z1
def r228{α:Type}{row L s f}(hs:aK h s 3 (L.map row))(hl:L.length < 2^63)(p:α→Bool)
  (hf:∀x,x∈L→∀k,Ext h k→bF P f [.agg (row x)] k (fun v _=>v= .bool (p x))):ay P 228 [s,f] h (fun v _=>v= .i (cU p L)):=by
 refine .of T.mix T.c228 ?_;unfold fn228 kJ;exact z1
def r234{α:Type}{row L s f}(hs:aK h s 4 (L.map row))(hl:L.length < 2^63)(p:α→Bool)
  (hf:∀x,x∈L→∀k,Ext h k→bF P f [.agg (row x)] k (fun v _=>v= .bool (p x))):ay P 234 [s,f] h (fun v _=>v= .i (cU p L)):=by
 refine .of T.mix T.c234 ?_;unfold fn234 kJ;exact z1
def r236{α:Type}{row L s f}(hs:aK h s 3 (L.map row))(hl:L.length < 2^63)(p:α→Bool)
  (hf:∀x,x∈L→∀k,Ext h k→bF P f [.agg (row x)] k (fun v _=>v= .bool (p x))):ay P 236 [s,f] h (fun v _=>v= .i (cU p L)):=by
 refine .of T.mix T.c236 ?_;unfold fn236 kJ;exact z1
def r238{α:Type}{row L s f}(hs:aK h s 4 (L.map row))(hl:L.length < 2^63)(p:α→Bool)
  (hf:∀x,x∈L→∀k,Ext h k→bF P f [.agg (row x)] k (fun v _=>v= .bool (p x))):ay P 238 [s,f] h (fun v _=>v= .i (cU p L)):=by
 refine .of T.mix T.c238 ?_;unfold fn238 kJ;exact z1
def r246{α:Type}{row:α→List AV}{L:List α}{s f:AV}(hs:aK h s 3 (L.map row))(hl:L.length < 2^63)(p:α→Bool)
  (hf:∀x,x∈L→∀k,Ext h k→bF P f [.agg (row x)] k (fun v _=>v= .bool (p x))):ay P 246 [s,f] h (fun v _=>v= .bool (L.any p)):=by
 refine .of T.mix T.c246 ?_;unfold fn246 pK;refine Wn ?_;refine WF.ce T.c230 (r230 T hs hl p hf) fun g=>?_
 exact Ws @nY Tv
def r243{α:Type}{row:α→List AV}{L:List α}{s f:AV}(hs:aK h s 3 (L.map row))(hl:L.length < 2^63)(p:α→Bool)
  (hf:∀x,x∈L→∀k,Ext h k→bF P f [.agg (row x)] k (fun v _=>v= .bool (p x))):ay P 243 [s,f] h (fun v _=>v= .bool (L.any p)):=by
 refine .of T.mix T.c243 ?_;unfold fn243 pK;refine Wn ?_;refine WF.ce T.c228 (r228 T hs hl p hf) fun g=>?_
 exact Ws @nY Tv
def r268{α:Type}{row:α→List AV}{L:List α}{s f:AV}(hs:aK h s 4 (L.map row))(hl:L.length < 2^63)(p:α→Bool)
  (hf:∀x,x∈L→∀k,Ext h k→bF P f [.agg (row x)] k (fun v _=>v= .bool (p x))):ay P 268 [s,f] h (fun v _=>v= .bool (L.any p)):=by
 refine .of T.mix T.c268 ?_;unfold fn268 pK;refine Wn ?_;refine WF.ce T.c238 (r238 T hs hl p hf) fun g=>?_
 exact Ws @nY Tv
def r123(x:gM):ay P 123 [.agg (cp x)] h (fun v _=>v= .str x.name):=by
 refine .of T.mix T.c123 ?_;unfold fn123 kL cp;exact Wn Tv
def r231(x:gM){b n}(hb:h[b]? =some (.b [.str n])):ay P 231 [.agg (cp x),.ptr b 0] h (fun v _=>v= .bool (decide (x.name=n))):=by
 refine .of T.mix T.c231 ?_;unfold fn231 kI;have hlt:=(X1.1 hb).1;have hld:∀g:ah,aq none (.ptr b 0) (fun z=>(h++g)[z]?)=dE none 0 (.b [.str n]):=fun g=>az (by rw[c6 _ hlt];exact hb)
 have Sf:∀g g':ah,aq none (.ptr b 0) (fun z=>(h++g++g')[z]?)=dE none 0 (.b [.str n]):=fun g g'=>az (by rw[X4,c6 _ hlt];exact hb)
 unfold cp;refine Ws (A3 @hld @Sf @jW) ?_;refine WF.val (bF.zU T.m123 T.c123 (r123 T x)) ?_;rintro _ g1 rfl;exact zw
def r142{L s}(hs:aK h s 3 (L.map cp))(hl:L.length < 2^63)(n:By):ay P 142 [s,.str n] h (fun v _=>v= .i (cU (fun x=>decide (x.name=n)) L)):=by
 refine .of T.mix T.c142 ?_;unfold fn142 kK;refine Wn ?_;refine WF.ce T.c230 (r230 T (hs.ext (by repeat first| exact Ext.refl _| refine Ext.app _ ?_)) hl (fun x=>decide (x.name=n)) (fun x hx k e=>bF.of (a:=[]) (c:=[.ptr h.length 0]) T.c231 (r231 T x (e.some ba)))) fun g1=>?_
 exact Wn Tv
def r322(x:rT):ay P 322 [.agg (dQ x)] h (fun v _=>v= .str x.name):=by
 refine .of T.mix T.c322 ?_;unfold fn322 kL dQ;exact Wn Tv
def r233(x:rT){b n}(hb:h[b]? =some (.b [.str n])):ay P 233 [.agg (dQ x),.ptr b 0] h (fun v _=>v= .bool (decide (x.name=n))):=by
 refine .of T.mix T.c233 ?_;unfold fn233 kI;have hlt:=(X1.1 hb).1;have hld:∀g:ah,aq none (.ptr b 0) (fun z=>(h++g)[z]?)=dE none 0 (.b [.str n]):=fun g=>az (by rw[c6 _ hlt];exact hb)
 have Sf:∀g g':ah,aq none (.ptr b 0) (fun z=>(h++g++g')[z]?)=dE none 0 (.b [.str n]):=fun g g'=>az (by rw[X4,c6 _ hlt];exact hb)
 unfold dQ;refine Ws (A3 @hld @Sf @jW) ?_;refine WF.val (bF.zU T.m322 T.c322 (r322 T x)) ?_;rintro _ g1 rfl;exact zw
def r143{L s}(hs:aK h s 2 (L.map dQ))(hl:L.length < 2^63)(n:By):ay P 143 [s,.str n] h (fun v _=>v= .i (cU (fun x=>decide (x.name=n)) L)):=by
 refine .of T.mix T.c143 ?_;unfold fn143 kK;refine Wn ?_;refine WF.ce T.c232 (r232 T (hs.ext (by repeat first| exact Ext.refl _| refine Ext.app _ ?_)) hl (fun x=>decide (x.name=n)) (fun x hx k e=>bF.of (a:=[]) (c:=[.ptr h.length 0]) T.c233 (r233 T x (e.some ba)))) fun g1=>?_
 exact Wn Tv
def r140(x:jI×AV)(ho:x.2.one=true):ay P 140 [.agg (bj x)] h (fun v _=>v= .str x.1.name):=by
 refine .of T.mix T.c140 ?_;unfold fn140 kL bj;exact Ws @ho Tv
def r229(x:jI×AV)(ho:x.2.one=true){b n}(hb:h[b]? =some (.b [.str n])):ay P 229 [.agg (bj x),.ptr b 0] h (fun v _=>v= .bool (decide (x.1.name=n))):=by
 refine .of T.mix T.c229 ?_;unfold fn229 kI;have hlt:=(X1.1 hb).1;have hld:∀g:ah,aq none (.ptr b 0) (fun z=>(h++g)[z]?)=dE none 0 (.b [.str n]):=fun g=>az (by rw[c6 _ hlt];exact hb)
 have Sf:∀g g':ah,aq none (.ptr b 0) (fun z=>(h++g++g')[z]?)=dE none 0 (.b [.str n]):=fun g g'=>az (by rw[X4,c6 _ hlt];exact hb)
 unfold bj;refine Ws (A4 @hld @Sf @ho @jW) ?_;refine WF.val (bF.zU T.m140 T.c140 (r140 T x ho)) ?_;rintro _ g1 rfl;exact zw
def r136{L s}(hs:aK h s 3 (L.map bj))(ho:∀x∈L,x.2.one=true)(hl:L.length < 2^63)(n:By):ay P 136 [s,.str n] h (fun v _=>v= .i (cU (fun x=>decide (x.1.name=n)) L)):=by
 refine .of T.mix T.c136 ?_;unfold fn136 kK;refine Wn ?_;refine WF.ce T.c228 (r228 T (hs.ext (by repeat first| exact Ext.refl _| refine Ext.app _ ?_)) hl (fun x=>decide (x.1.name=n)) (fun x hx k e=>bF.of (a:=[]) (c:=[.ptr h.length 0]) T.c229 (r229 T x (ho x hx) (e.some ba)))) fun g1=>?_
 exact Wn Tv
def r120(x:gS×AV)(ho:x.2.one=true):ay P 120 [.agg (aV x)] h (fun v _=>v= .str x.1.name):=by
 refine .of T.mix T.c120 ?_;unfold fn120 kL aV;exact Ws @ho Tv
def r235(x:gS×AV)(ho:x.2.one=true){b n}(hb:h[b]? =some (.b [.str n])):ay P 235 [.agg (aV x),.ptr b 0] h (fun v _=>v= .bool (decide (x.1.name=n))):=by
 refine .of T.mix T.c235 ?_;unfold fn235 kI;have hlt:=(X1.1 hb).1;have hld:∀g:ah,aq none (.ptr b 0) (fun z=>(h++g)[z]?)=dE none 0 (.b [.str n]):=fun g=>az (by rw[c6 _ hlt];exact hb)
 have Sf:∀g g':ah,aq none (.ptr b 0) (fun z=>(h++g++g')[z]?)=dE none 0 (.b [.str n]):=fun g g'=>az (by rw[X4,c6 _ hlt];exact hb)
 unfold aV;refine Ws (A4 @hld @Sf @ho @jW) ?_;refine WF.val (bF.zU T.m120 T.c120 (r120 T x ho)) ?_;rintro _ g1 rfl;exact zw
def r144{L s}(hs:aK h s 4 (L.map aV))(ho:∀x∈L,x.2.one=true)(hl:L.length < 2^63)(n:By):ay P 144 [s,.str n] h (fun v _=>v= .i (cU (fun x=>decide (x.1.name=n)) L)):=by
 refine .of T.mix T.c144 ?_;unfold fn144 kK;refine Wn ?_;refine WF.ce T.c234 (r234 T (hs.ext (by repeat first| exact Ext.refl _| refine Ext.app _ ?_)) hl (fun x=>decide (x.1.name=n)) (fun x hx k e=>bF.of (a:=[]) (c:=[.ptr h.length 0]) T.c235 (r235 T x (ho x hx) (e.some ba)))) fun g1=>?_
 exact Wn Tv
def r324(x:kU×AV)(ho:x.2.one=true):ay P 324 [.agg (bN x)] h (fun v _=>v= .str x.1.name):=by
 refine .of T.mix T.c324 ?_;unfold fn324 kL bN;exact Ws @ho Tv
def r237(x:kU×AV)(ho:x.2.one=true){b n}(hb:h[b]? =some (.b [.str n])):ay P 237 [.agg (bN x),.ptr b 0] h (fun v _=>v= .bool (decide (x.1.name=n))):=by
 refine .of T.mix T.c237 ?_;unfold fn237 kI;have hlt:=(X1.1 hb).1;have hld:∀g:ah,aq none (.ptr b 0) (fun z=>(h++g)[z]?)=dE none 0 (.b [.str n]):=fun g=>az (by rw[c6 _ hlt];exact hb)
 have Sf:∀g g':ah,aq none (.ptr b 0) (fun z=>(h++g++g')[z]?)=dE none 0 (.b [.str n]):=fun g g'=>az (by rw[X4,c6 _ hlt];exact hb)
 unfold bN;refine Ws (A4 @hld @Sf @ho @jW) ?_;refine WF.val (bF.zU T.m324 T.c324 (r324 T x ho)) ?_;rintro _ g1 rfl;exact zw
def r145{L s}(hs:aK h s 3 (L.map bN))(ho:∀x∈L,x.2.one=true)(hl:L.length < 2^63)(n:By):ay P 145 [s,.str n] h (fun v _=>v= .i (cU (fun x=>decide (x.1.name=n)) L)):=by
 refine .of T.mix T.c145 ?_;unfold fn145 kK;refine Wn ?_;refine WF.ce T.c236 (r236 T (hs.ext (by repeat first| exact Ext.refl _| refine Ext.app _ ?_)) hl (fun x=>decide (x.1.name=n)) (fun x hx k e=>bF.of (a:=[]) (c:=[.ptr h.length 0]) T.c237 (r237 T x (ho x hx) (e.some ba)))) fun g1=>?_
 exact Wn Tv
def r323(x:qk):ay P 323 [.agg (c9 x)] h (fun v _=>v= .str x.name):=by
 refine .of T.mix T.c323 ?_;unfold fn323 kL c9;exact Wn Tv
def r239(x:qk){b n}(hb:h[b]? =some (.b [.str n])):ay P 239 [.agg (c9 x),.ptr b 0] h (fun v _=>v= .bool (decide (x.name=n))):=by
 refine .of T.mix T.c239 ?_;unfold fn239 kI;have hlt:=(X1.1 hb).1;have hld:∀g:ah,aq none (.ptr b 0) (fun z=>(h++g)[z]?)=dE none 0 (.b [.str n]):=fun g=>az (by rw[c6 _ hlt];exact hb)
 have Sf:∀g g':ah,aq none (.ptr b 0) (fun z=>(h++g++g')[z]?)=dE none 0 (.b [.str n]):=fun g g'=>az (by rw[X4,c6 _ hlt];exact hb)
 unfold c9;refine Ws (A3 @hld @Sf @jW) ?_;refine WF.val (bF.zU T.m323 T.c323 (r323 T x)) ?_;rintro _ g1 rfl;exact zw
def r146{L s}(hs:aK h s 4 (L.map c9))(hl:L.length < 2^63)(n:By):ay P 146 [s,.str n] h (fun v _=>v= .i (cU (fun x=>decide (x.name=n)) L)):=by
 refine .of T.mix T.c146 ?_;unfold fn146 kK;refine Wn ?_;refine WF.ce T.c238 (r238 T (hs.ext (by repeat first| exact Ext.refl _| refine Ext.app _ ?_)) hl (fun x=>decide (x.name=n)) (fun x hx k e=>bF.of (a:=[]) (c:=[.ptr h.length 0]) T.c239 (r239 T x (e.some ba)))) fun g1=>?_
 exact Wn Tv
end
def aK.N2{h s es cs}(hs:aK h s es cs): (s= .af∧cs= [])∨(∀neg:Bool,ui neg (pr .xY s .af)=some (.bool neg)):=by
 cases hs with
 | nil=>exact .inl ⟨rfl,rfl⟩
 | mk hb hf ho he=>right;intro neg;cases neg<;>rfl
def B3:ui false (pr .xY .af .af)=some (.bool true):=rfl
attribute [local irreducible] WP WC WE WB WR WF WL WG fT
section
variable {P:Program} (T:fy P) {h:ah}
include T
def r177{s cs}(hs:aK h s 1 cs)(hl:cs.length≤2^40):ay P 177 [s] h (fun v h'=>Fr h.length h' v 1 cs):=by
 refine .of T.mix T.c177 ?_;unfold fn177;exact z28
def r178{s cs}(hs:aK h s 1 cs)(hl:cs.length≤2^40):ay P 178 [s] h (fun v h'=>Fr h.length h' v 1 cs):=by
 refine .of T.mix T.c178 ?_;unfold fn178;exact z28
def r179{s cs}(hs:aK h s 2 cs)(hl:cs.length≤2^40):ay P 179 [s] h (fun v h'=>Fr h.length h' v 2 cs):=by
 refine .of T.mix T.c179 ?_;unfold fn179;exact z28
def r181(x:jI×AV)(hx:aK h x.2 1 (x.1.aI.map ao))(hl:x.1.aI.length≤2^40):ay P 181 [.agg (bj x)] h (fun v h'=>∃s',v= .agg (bj (x.1,s'))∧Fr h.length h' s' 1 (x.1.aI.map ao)):=by
 refine .of T.mix T.c181 ?_;obtain⟨ts,QV⟩:∃ts,ts=aU 8 [.agg (bj x)]:=⟨_,rfl⟩;have hlen:ts.length=8:=by rw[QV];rfl
 have t0:slot ts 0= .agg (bj x):=by rw[QV];rfl
 unfold fn181 yz;show WC P bR _ [] (aU 8 [.agg (bj x)]) h _;rw[←QV];clear QV;have o1:=hx.one;unfold bj at t0 ⊢;exact PS
def r183(x:gS×AV)(hx:aK h x.2 1 (x.1.bw.map ao))(hl:x.1.bw.length≤2^40):ay P 183 [.agg (aV x)] h (fun v h'=>∃s',v= .agg (aV (x.1,s'))∧Fr h.length h' s' 1 (x.1.bw.map ao)):=by
 refine .of T.mix T.c183 ?_;obtain⟨ts,QV⟩:∃ts,ts=aU 8 [.agg (aV x)]:=⟨_,rfl⟩;have hlen:ts.length=8:=by rw[QV];rfl
 have t0:slot ts 0= .agg (aV x):=by rw[QV];rfl
 unfold fn183;show WC P bR _ [] (aU 8 [.agg (aV x)]) h _;rw[←QV];clear QV;have o1:=hx.one;unfold aV at t0 ⊢;exact PS
def r185(x:kU×AV)(hx:aK h x.2 1 (x.1.bz.map aJ))(hl:x.1.bz.length≤2^40):ay P 185 [.agg (bN x)] h (fun v h'=>∃s',v= .agg (bN (x.1,s'))∧Fr h.length h' s' 1 (x.1.bz.map aJ)):=by
 refine .of T.mix T.c185 ?_;obtain⟨ts,QV⟩:∃ts,ts=aU 8 [.agg (bN x)]:=⟨_,rfl⟩;have hlen:ts.length=8:=by rw[QV];rfl
 have t0:slot ts 0= .agg (bN x):=by rw[QV];rfl
 unfold fn185 yz;show WC P bR _ [] (aU 8 [.agg (bN x)]) h _;rw[←QV];clear QV;have o1:=hx.one;unfold bN at t0 ⊢;refine Rs (A2 t0 @o1) ?_;refine WF.res T.c178 (r178 T (hx.ext Xx) (by simp;omega)) ?_;rintro s' g1 hf;have o2:=hf.aX.one;refine Rs (A3 t0 @o1 @o2) ?_;exact⟨s',rfl,(Fr.swap hf Si).low Si⟩
set_option maxRecDepth 10000 in
def r91(x:EV)(hx:bg h x)(hl:x.ev.names.length≤2^40∧x.ev.b9.length≤2^40):ay P 91 [.agg x.row] h (fun v h'=>∃x':EV,x'.ev=x.ev∧v= .agg x'.row∧Fr h.length h' x'.sn 1 (x.ev.names.map ao)∧Fr h.length h' x'.sv 1 (x.ev.b9.map aJ)):=by
 refine .of T.mix T.c91 ?_;obtain⟨ts,QV⟩:∃ts,ts=aU 12 [.agg x.row]:=⟨_,rfl⟩;have hlen:ts.length=12:=by rw[QV];rfl
 have t0:slot ts 0= .agg x.row:=by rw[QV];rfl
 unfold fn91;show WC P bR _ [] (aU 12 [.agg x.row]) h _;rw[←QV];clear QV;have o1:=hx.n.one;have o2:=hx.v.one;unfold EV.row at t0 ⊢;refine Rs (A3 t0 @o1 @o2) ?_;refine WF.res T.c177 (r177 T (hx.n.ext Xx) (by simp;omega)) ?_;rintro s1 g1 Um;have o3:=Um.aX.one;refine Rs (A4 t0 @o1 @o2 @o3) ?_;refine WF.res T.c178 (r178 T (hx.v.ext Xx) (by simp;omega)) ?_;rintro s2 g2 TE;have o4:=TE.aX.one;refine Rs (A5 t0 @o1 @o2 @o3 @o4) ?_;refine⟨⟨x.ev,s1,s2⟩,rfl,rfl,?_,?_⟩
 ·exact((Fr.swap Um Si).app _).low Si
 ·exact(Fr.swap TE Si).low Si
def r130{L:List (By)}{s f:AV}(hs:aK h s 1 (L.map ao))(hl:L.length≤2^40)(F: (By)→Int)(hf:∀x,x∈L→∀k,Ext h k→bF P f [.str x] k (fun v _=>v= .i (F x))):
  ay P 130 [s,f] h (fun v h'=>Fr h.length h' v 1 ((L.map F).map aJ)):=by
 refine .of T.mix T.c130 ?_;unfold fn130 Ds;refine Ws hs.aL ?_;refine WL.inv T.mix (fun n ts h'=>∃ (k:Nat) (out:AV),k≤L.length∧n=L.length - k∧Ext h h'∧Fr h.length h' out 1 (((L.take k).map F).map aJ)∧ts.length=22∧slot ts 1=f∧slot ts 5=out∧slot ts 8=s∧slot ts 9= .i L.length∧slot ts 10= .i k) L.length
  ⟨0,.af,Om,rfl,Ext.refl h,.nil,rfl,rfl,rfl,rfl,rfl,rfl⟩ ?_
 rintro _ ts _ ⟨k,out,hk,rfl,⟨g,rfl⟩,hfr,hlen,t1,t5,t8,t9,t10⟩;rw[kT ts 22 hlen];by_cases hlt:k < L.length
 ·have e3: (k:Int)< L.length:=Om
  have hvk:=hf L[k] Si;have Vw:∀{kk:ah},Ext h kk→aq none (cV s 1 k) (fun b=>kk[b]?)=some (.str L[k],.au):=fun {kk} e=>hs.ki hlt rfl e
  simp only[aW,bd,bC,bD,reduceAdd,reduceMul,reduceLeDiff,reduceEqDiff,t1,t5,t8,t9,t10,e3,Yk,hs.dI hlt,Vw];refine WF.val (hvk _ (by repeat first| exact Ext.refl _| refine Ext.app _ ?_)) ?_;rintro _ g1 rfl;refine Wn ?_;refine WR.fL (h0:=h) (cs:=((L.take k).map F).map aJ) (ys:=[aJ (F L[k])]) (((hfr.app _).app _)) (Fr.push (N:=0) (YB _) [aJ (F L[k])] (by simp[aJ])).aX De Si (by simp;omega) (by simp only[sC]) ?_;intro g' Q7 hff hkp;have hrow: ((L.take k).map F).map aJ++ [aJ (F L[k])]= ((L.take (k+1)).map F).map aJ:=by rw[YM,X6 hlt,Yc,Yc];rfl
  exact z8
 ·exact z7
def r92{L:List (Int)}{s f:AV}(hs:aK h s 1 (L.map aJ))(hl:L.length≤2^40)(F: (Int)→Int)(hf:∀x,x∈L→∀k,Ext h k→bF P f [.i x] k (fun v _=>v= .i (F x))):
  ay P 92 [s,f] h (fun v h'=>Fr h.length h' v 1 ((L.map F).map aJ)):=by
 refine .of T.mix T.c92 ?_;unfold fn92 Ds;refine Ws hs.aL ?_;refine WL.inv T.mix (fun n ts h'=>∃ (k:Nat) (out:AV),k≤L.length∧n=L.length - k∧Ext h h'∧Fr h.length h' out 1 (((L.take k).map F).map aJ)∧ts.length=22∧slot ts 1=f∧slot ts 5=out∧slot ts 8=s∧slot ts 9= .i L.length∧slot ts 10= .i k) L.length
  ⟨0,.af,Om,rfl,Ext.refl h,.nil,rfl,rfl,rfl,rfl,rfl,rfl⟩ ?_
 rintro _ ts _ ⟨k,out,hk,rfl,⟨g,rfl⟩,hfr,hlen,t1,t5,t8,t9,t10⟩;rw[kT ts 22 hlen];by_cases hlt:k < L.length
 ·have e3: (k:Int)< L.length:=Om
  have hvk:=hf L[k] Si;have Vw:∀{kk:ah},Ext h kk→aq none (cV s 1 k) (fun b=>kk[b]?)=some (.i L[k],.au):=fun {kk} e=>hs.ki hlt rfl e
  simp only[aW,bd,bC,bD,reduceAdd,reduceMul,reduceLeDiff,reduceEqDiff,t1,t5,t8,t9,t10,e3,Yk,hs.dI hlt,Vw];refine WF.val (hvk _ (by repeat first| exact Ext.refl _| refine Ext.app _ ?_)) ?_;rintro _ g1 rfl;refine Wn ?_;refine WR.fL (h0:=h) (cs:=((L.take k).map F).map aJ) (ys:=[aJ (F L[k])]) (((hfr.app _).app _)) (Fr.push (N:=0) (YB _) [aJ (F L[k])] (by simp[aJ])).aX De Si (by simp;omega) (by simp only[sC]) ?_;intro g' Q7 hff hkp;have hrow: ((L.take k).map F).map aJ++ [aJ (F L[k])]= ((L.take (k+1)).map F).map aJ:=by rw[YM,X6 hlt,Yc,Yc];rfl
  exact z8
 ·exact z7
def r199{L:List (Int)}{s f:AV}(hs:aK h s 1 (L.map aJ))(hl:L.length≤2^40)(F: (Int)→By)(hf:∀x,x∈L→∀k,Ext h k→bF P f [.i x] k (fun v _=>v= .str (F x))):
  ay P 199 [s,f] h (fun v h'=>Fr h.length h' v 1 ((L.map F).map ao)):=by
 refine .of T.mix T.c199 ?_;unfold fn199;refine Ws hs.aL ?_;refine WL.inv T.mix (fun n ts h'=>∃ (k:Nat) (out:AV),k≤L.length∧n=L.length - k∧Ext h h'∧Fr h.length h' out 1 (((L.take k).map F).map ao)∧ts.length=22∧slot ts 1=f∧slot ts 5=out∧slot ts 8=s∧slot ts 9= .i L.length∧slot ts 10= .i k) L.length
  ⟨0,.af,Om,rfl,Ext.refl h,.nil,rfl,rfl,rfl,rfl,rfl,rfl⟩ ?_
 rintro _ ts _ ⟨k,out,hk,rfl,⟨g,rfl⟩,hfr,hlen,t1,t5,t8,t9,t10⟩;rw[kT ts 22 hlen];by_cases hlt:k < L.length
 ·have e3: (k:Int)< L.length:=Om
  have hvk:=hf L[k] Si;have Vw:∀{kk:ah},Ext h kk→aq none (cV s 1 k) (fun b=>kk[b]?)=some (.i L[k],.au):=fun {kk} e=>hs.ki hlt rfl e
  simp only[aW,bd,bC,bD,reduceAdd,reduceMul,reduceLeDiff,reduceEqDiff,t1,t5,t8,t9,t10,e3,Yk,hs.dI hlt,Vw];refine WF.val (hvk _ (by repeat first| exact Ext.refl _| refine Ext.app _ ?_)) ?_;rintro _ g1 rfl;refine Wn ?_;refine WR.fL (h0:=h) (cs:=((L.take k).map F).map ao) (ys:=[ao (F L[k])]) (((hfr.app _).app _)) (Fr.push (N:=0) (YB _) [ao (F L[k])] (by simp[ao])).aX De Si (by simp;omega) (by simp only[sC]) ?_;intro g' Q7 hff hkp;have hrow: ((L.take k).map F).map ao++ [ao (F L[k])]= ((L.take (k+1)).map F).map ao:=by rw[YM,X6 hlt,Yc,Yc];rfl
  exact z8
 ·exact z7
def r137{L:List (jI×AV)}{s f:AV}(hs:aK h s 3 (L.map bj))(ho:∀x∈L,x.2.one=true)(hl:L.length≤2^40)(F: (jI×AV)→By)(hf:∀x,x∈L→∀k,Ext h k→bF P f [.agg (bj x)] k (fun v _=>v= .str (F x))):
  ay P 137 [s,f] h (fun v h'=>Fr h.length h' v 1 ((L.map F).map ao)):=by
 refine .of T.mix T.c137 ?_;unfold fn137;refine Ws hs.aL ?_;refine WL.inv T.mix (fun n ts h'=>∃ (k:Nat) (out:AV),k≤L.length∧n=L.length - k∧Ext h h'∧Fr h.length h' out 1 (((L.take k).map F).map ao)∧ts.length=22∧slot ts 1=f∧slot ts 5=out∧slot ts 8=s∧slot ts 9= .i L.length∧slot ts 10= .i k) L.length
  ⟨0,.af,Om,rfl,Ext.refl h,.nil,rfl,rfl,rfl,rfl,rfl,rfl⟩ ?_
 rintro _ ts _ ⟨k,out,hk,rfl,⟨g,rfl⟩,hfr,hlen,t1,t5,t8,t9,t10⟩;rw[kT ts 22 hlen];by_cases hlt:k < L.length
 ·have e3: (k:Int)< L.length:=Om
  have hvk:=hf L[k] Si;simp only[aW,bd,bC,bD,reduceAdd,reduceMul,reduceLeDiff,reduceEqDiff,t1,t5,t8,t9,t10,e3,Yk,hs.dI hlt,hs.kR hlt,bj,ho L[k] Si];exact z4
 ·exact z7
def r121{L:List (gM)}{s f:AV}(hs:aK h s 3 (L.map cp))(hl:L.length≤2^40)(F: (gM)→By)(hf:∀x,x∈L→∀k,Ext h k→bF P f [.agg (cp x)] k (fun v _=>v= .str (F x))):
  ay P 121 [s,f] h (fun v h'=>Fr h.length h' v 1 ((L.map F).map ao)):=by
 refine .of T.mix T.c121 ?_;unfold fn121;refine Ws hs.aL ?_;refine WL.inv T.mix (fun n ts h'=>∃ (k:Nat) (out:AV),k≤L.length∧n=L.length - k∧Ext h h'∧Fr h.length h' out 1 (((L.take k).map F).map ao)∧ts.length=22∧slot ts 1=f∧slot ts 5=out∧slot ts 8=s∧slot ts 9= .i L.length∧slot ts 10= .i k) L.length
  ⟨0,.af,Om,rfl,Ext.refl h,.nil,rfl,rfl,rfl,rfl,rfl,rfl⟩ ?_
 rintro _ ts _ ⟨k,out,hk,rfl,⟨g,rfl⟩,hfr,hlen,t1,t5,t8,t9,t10⟩;rw[kT ts 22 hlen];by_cases hlt:k < L.length
 ·have e3: (k:Int)< L.length:=Om
  have hvk:=hf L[k] Si;simp only[aW,bd,bC,bD,reduceAdd,reduceMul,reduceLeDiff,reduceEqDiff,t1,t5,t8,t9,t10,e3,Yk,hs.dI hlt,hs.kR hlt,cp];exact z4
 ·exact z7
def r117{L:List (gS×AV)}{s f:AV}(hs:aK h s 4 (L.map aV))(ho:∀x∈L,x.2.one=true)(hl:L.length≤2^40)(F: (gS×AV)→By)(hf:∀x,x∈L→∀k,Ext h k→bF P f [.agg (aV x)] k (fun v _=>v= .str (F x))):
  ay P 117 [s,f] h (fun v h'=>Fr h.length h' v 1 ((L.map F).map ao)):=by
 refine .of T.mix T.c117 ?_;unfold fn117;refine Ws hs.aL ?_;refine WL.inv T.mix (fun n ts h'=>∃ (k:Nat) (out:AV),k≤L.length∧n=L.length - k∧Ext h h'∧Fr h.length h' out 1 (((L.take k).map F).map ao)∧ts.length=22∧slot ts 1=f∧slot ts 5=out∧slot ts 8=s∧slot ts 9= .i L.length∧slot ts 10= .i k) L.length
  ⟨0,.af,Om,rfl,Ext.refl h,.nil,rfl,rfl,rfl,rfl,rfl,rfl⟩ ?_
 rintro _ ts _ ⟨k,out,hk,rfl,⟨g,rfl⟩,hfr,hlen,t1,t5,t8,t9,t10⟩;rw[kT ts 22 hlen];by_cases hlt:k < L.length
 ·have e3: (k:Int)< L.length:=Om
  have hvk:=hf L[k] Si;simp only[aW,bd,bC,bD,reduceAdd,reduceMul,reduceLeDiff,reduceEqDiff,t1,t5,t8,t9,t10,e3,Yk,hs.dI hlt,hs.kR hlt,aV,ho L[k] Si];exact z4
 ·exact z7
def r115{L:List (EV)}{s f:AV}(hs:aK h s 5 (L.map EV.row))(ho:∀x∈L,x.sn.one=true∧x.sv.one=true)(hl:L.length≤2^40)(F: (EV)→By)(hf:∀x,x∈L→∀k,Ext h k→bF P f [.agg (EV.row x)] k (fun v _=>v= .str (F x))):
  ay P 115 [s,f] h (fun v h'=>Fr h.length h' v 1 ((L.map F).map ao)):=by
 refine .of T.mix T.c115 ?_;unfold fn115;refine Ws hs.aL ?_;refine WL.inv T.mix (fun n ts h'=>∃ (k:Nat) (out:AV),k≤L.length∧n=L.length - k∧Ext h h'∧Fr h.length h' out 1 (((L.take k).map F).map ao)∧ts.length=22∧slot ts 1=f∧slot ts 5=out∧slot ts 8=s∧slot ts 9= .i L.length∧slot ts 10= .i k) L.length
  ⟨0,.af,Om,rfl,Ext.refl h,.nil,rfl,rfl,rfl,rfl,rfl,rfl⟩ ?_
 rintro _ ts _ ⟨k,out,hk,rfl,⟨g,rfl⟩,hfr,hlen,t1,t5,t8,t9,t10⟩;rw[kT ts 22 hlen];by_cases hlt:k < L.length
 ·have e3: (k:Int)< L.length:=Om
  have hvk:=hf L[k] Si;simp only[aW,bd,bC,bD,reduceAdd,reduceMul,reduceLeDiff,reduceEqDiff,t1,t5,t8,t9,t10,e3,Yk,hs.dI hlt,hs.kR hlt,EV.row,(ho L[k] Si).1,(ho L[k] Si).2];exact z4
 ·exact z7
set_option maxRecDepth 10000 in
def r138{L:List (jI×AV)}{s f:AV}(hs:aK h s 3 (L.map bj))(ho:∀x∈L,x.2.one=true)(hl:L.length≤2^38)(p: (jI×AV)→Bool)(hf:∀x,x∈L→∀k,Ext h k→bF P f [.agg (bj x)] k (fun v _=>v= .bool (p x))):
  ay P 138 [s,f] h (fun v h'=>Fr h.length h' v 3 ((L.filter p).map bj)):=by
 refine .of T.mix T.c138 ?_;unfold fn138;refine Ws hs.aL ?_;refine WL.inv T.mix (fun n ts h'=>∃ (k:Nat) (out:AV),k≤L.length∧n=L.length - k∧Ext h h'∧Fr h.length h' out 3 (((L.take k).filter p).map bj)∧ts.length=23∧slot ts 1=f∧slot ts 5=out∧slot ts 8=s∧slot ts 9= .i L.length∧slot ts 10= .i k) L.length
  ⟨0,.af,Om,rfl,Ext.refl h,.nil,rfl,rfl,rfl,rfl,rfl,rfl⟩ ?_
 rintro _ ts _ ⟨k,out,hk,rfl,⟨g,rfl⟩,hfr,hlen,t1,t5,t8,t9,t10⟩;rw[kT ts 23 hlen];by_cases hlt:k < L.length
 ·have e3: (k:Int)< L.length:=Om
  have hvk:=hf L[k] Si;have Rh: (L.take (k+1)).filter p= (L.take k).filter p++ (if p L[k]=true then [L[k]]else []):=by
   exact MM
  have Ru: ((L.take k).filter p).length≤L.length:=YQ (YK _ _) (by rw[Y5];omega);simp only[aW,bd,bC,bD,reduceAdd,reduceMul,reduceLeDiff,reduceEqDiff,t1,t5,t8,t9,t10,e3,Yk,hs.dI hlt,hs.kR hlt,bj,ho L[k] Si];refine WF.val (hvk _ (by repeat first| exact Ext.refl _| refine Ext.app _ ?_)) ?_;rintro _ g1 rfl;cases hp:p L[k]with
  | true=>
   rw[hp,Yh rfl]at Rh;simp only[aW,bd,bC,bD,reduceAdd,reduceMul,reduceLeDiff,reduceEqDiff,ho L[k] Si];refine WR.fL (h0:=h) (cs:=((L.take k).filter p).map bj) (ys:=[bj L[k]]) (((hfr.app _).app _).app _) (Fr.push (N:=0) (YB _) [bj L[k]] (by simp[bj])).aX De Si (by simp only[Ya,X8,X9];omega) (by simp only[sC]) ?_;intro g' Q7 hff hkp;have hrow: ((L.take k).filter p).map bj++ [bj L[k]]= ((L.take (k+1)).filter p).map bj:=by rw[Rh,Yc];rfl
   exact z8
  | false=>
   exact MR
 ·exact z7
set_option maxRecDepth 10000 in
def r216{L:List (gM)}{s f:AV}(hs:aK h s 3 (L.map cp))(hl:L.length≤2^38)(p: (gM)→Bool)(hf:∀x,x∈L→∀k,Ext h k→bF P f [.agg (cp x)] k (fun v _=>v= .bool (p x))):
  ay P 216 [s,f] h (fun v h'=>Fr h.length h' v 3 ((L.filter p).map cp)):=by
 refine .of T.mix T.c216 ?_;unfold fn216;refine Ws hs.aL ?_;refine WL.inv T.mix (fun n ts h'=>∃ (k:Nat) (out:AV),k≤L.length∧n=L.length - k∧Ext h h'∧Fr h.length h' out 3 (((L.take k).filter p).map cp)∧ts.length=23∧slot ts 1=f∧slot ts 5=out∧slot ts 8=s∧slot ts 9= .i L.length∧slot ts 10= .i k) L.length
  ⟨0,.af,Om,rfl,Ext.refl h,.nil,rfl,rfl,rfl,rfl,rfl,rfl⟩ ?_
 rintro _ ts _ ⟨k,out,hk,rfl,⟨g,rfl⟩,hfr,hlen,t1,t5,t8,t9,t10⟩;rw[kT ts 23 hlen];by_cases hlt:k < L.length
 ·have e3: (k:Int)< L.length:=Om
  have hvk:=hf L[k] Si;have Rh: (L.take (k+1)).filter p= (L.take k).filter p++ (if p L[k]=true then [L[k]]else []):=by
   exact MM
  have Ru: ((L.take k).filter p).length≤L.length:=YQ (YK _ _) (by rw[Y5];omega);simp only[aW,bd,bC,bD,reduceAdd,reduceMul,reduceLeDiff,reduceEqDiff,t1,t5,t8,t9,t10,e3,Yk,hs.dI hlt,hs.kR hlt,cp];refine WF.val (hvk _ (by repeat first| exact Ext.refl _| refine Ext.app _ ?_)) ?_;rintro _ g1 rfl;cases hp:p L[k]with
  | true=>
   rw[hp,Yh rfl]at Rh;refine Wn ?_;refine WR.fL (h0:=h) (cs:=((L.take k).filter p).map cp) (ys:=[cp L[k]]) (((hfr.app _).app _).app _) (Fr.push (N:=0) (YB _) [cp L[k]] (by simp[cp])).aX De Si (by simp only[Ya,X8,X9];omega) (by simp only[sC]) ?_;intro g' Q7 hff hkp;have hrow: ((L.take k).filter p).map cp++ [cp L[k]]= ((L.take (k+1)).filter p).map cp:=by rw[Rh,Yc];rfl
   exact z8
  | false=>
   exact MR
 ·exact z7
set_option maxRecDepth 10000 in
def r88{L:List (EV)}{s f:AV}(hs:aK h s 5 (L.map EV.row))(ho:∀x∈L,x.sn.one=true∧x.sv.one=true)(hl:L.length≤2^38)(p: (EV)→Bool)(hf:∀x,x∈L→∀k,Ext h k→bF P f [.agg (EV.row x)] k (fun v _=>v= .bool (p x))):
  ay P 88 [s,f] h (fun v h'=>Fr h.length h' v 5 ((L.filter p).map EV.row)):=by
 refine .of T.mix T.c88 ?_;unfold fn88;refine Ws hs.aL ?_;refine WL.inv T.mix (fun n ts h'=>∃ (k:Nat) (out:AV),k≤L.length∧n=L.length - k∧Ext h h'∧Fr h.length h' out 5 (((L.take k).filter p).map EV.row)∧ts.length=23∧slot ts 1=f∧slot ts 5=out∧slot ts 8=s∧slot ts 9= .i L.length∧slot ts 10= .i k) L.length
  ⟨0,.af,Om,rfl,Ext.refl h,.nil,rfl,rfl,rfl,rfl,rfl,rfl⟩ ?_
 rintro _ ts _ ⟨k,out,hk,rfl,⟨g,rfl⟩,hfr,hlen,t1,t5,t8,t9,t10⟩;rw[kT ts 23 hlen];by_cases hlt:k < L.length
 ·have e3: (k:Int)< L.length:=Om
  have hvk:=hf L[k] Si;have Rh: (L.take (k+1)).filter p= (L.take k).filter p++ (if p L[k]=true then [L[k]]else []):=by
   exact MM
  have Ru: ((L.take k).filter p).length≤L.length:=YQ (YK _ _) (by rw[Y5];omega);simp only[aW,bd,bC,bD,reduceAdd,reduceMul,reduceLeDiff,reduceEqDiff,t1,t5,t8,t9,t10,e3,Yk,hs.dI hlt,hs.kR hlt,EV.row,(ho L[k] Si).1,(ho L[k] Si).2];refine WF.val (hvk _ (by repeat first| exact Ext.refl _| refine Ext.app _ ?_)) ?_;rintro _ g1 rfl;cases hp:p L[k]with
  | true=>
   rw[hp,Yh rfl]at Rh;simp only[aW,bd,bC,bD,reduceAdd,reduceMul,reduceLeDiff,reduceEqDiff,(ho L[k] Si).1,(ho L[k] Si).2];refine WR.fL (h0:=h) (cs:=((L.take k).filter p).map EV.row) (ys:=[EV.row L[k]]) (((hfr.app _).app _).app _) (Fr.push (N:=0) (YB _) [EV.row L[k]] (by simp[EV.row])).aX De Si (by simp only[Ya,X8,X9];omega) (by simp only[sC]) ?_;intro g' Q7 hff hkp;have hrow: ((L.take k).filter p).map EV.row++ [EV.row L[k]]= ((L.take (k+1)).filter p).map EV.row:=by rw[Rh,Yc];rfl
   exact z8
  | false=>
   exact MR
 ·exact z7
end
section
variable {P:Program} (T:fy P) {h:ah}
include T
set_option maxRecDepth 10000 in
def r180{L:List (jI×AV)}{s:AV}(hs:aK h s 3 (L.map bj))(he:∀x∈L,aK h x.2 1 (x.1.aI.map ao))(hl:L.length≤2^30)(hle:∀x∈L,x.1.aI.length≤2^40):
  ay P 180 [s,.func (.func 181) [] []] h (fun v h'=>∃L':List (jI×AV),L'.map Prod.fst=L.map Prod.fst∧Fr h.length h' v 3 (L'.map bj)∧(∀x∈L',Fr h.length h' x.2 1 (x.1.aI.map ao))∧kY (sB v::L'.map fun x=>sB x.2)):=by
 refine .of T.mix T.c180 ?_;unfold fn180 yA;refine Ws hs.aL ?_;refine WL.inv T.mix (fun n ts h'=>∃ (k:Nat) (out:AV) (L':List (jI×AV)),k≤L.length∧n=L.length - k∧Ext h h'∧L'.map Prod.fst= (L.take k).map Prod.fst∧Fr h.length h' out 3 (L'.map bj)∧(∀x∈L',Fr h.length h' x.2 1 (x.1.aI.map ao))∧kY (sB out::L'.map fun x=>sB x.2)∧
   ts.length=22∧slot ts 1= .func (.func 181) [] []∧slot ts 5=out∧slot ts 8=s∧slot ts 9= .i L.length∧slot ts 10= .i k) L.length
  ⟨0,.af,[],Om,rfl,Ext.refl h,rfl,.nil,(fun x hx=>by cases hx),ZH _ _,rfl,rfl,rfl,rfl,rfl,rfl⟩ ?_
 rintro _ ts _ ⟨k,out,L',hk,rfl,⟨g,rfl⟩,hm,hfr,hin,RM,hlen,t1,t5,t8,t9,t10⟩;rw[kT ts 22 hlen];have hL':L'.length=k:=by have:=YC List.length hm;simp at this;omega
 by_cases hlt:k < L.length
 ·have e3: (k:Int)< L.length:=Om
  have Wf:=he L[k] Si;have Tf:=hle L[k] Si;have ox:=Wf.one;have fH:∀{kk:ah},Ext h kk→aq (some 3) (cV s 3 k) (fun b=>kk[b]?)=some (.agg (bj L[k]),.au):=fun {kk} e=>hs.kR hlt e
  unfold bj at fH;simp only[aW,bd,bC,bD,reduceAdd,reduceMul,reduceLeDiff,reduceEqDiff,t1,t5,t8,t9,t10,e3,Yk,hs.dI hlt,fH,ox];have hown:=fun kk (e:Ext h kk)=>r181 T (h:=kk) L[k] (Wf.ext e) Tf
  unfold bj at hown;refine WF.res T.c181 (hown _ (by repeat first| exact Ext.refl _| refine Ext.app _ ?_)) ?_;rintro _ g1 ⟨s',rfl,XP⟩;have os:=XP.aX.one;refine Ws @os ?_;refine WR.fL (h0:=h) (cs:=L'.map bj) (ys:=[bj (L[k].1,s')]) ((((hfr.app _).app _).app _)) (Fr.push (N:=0) (YB _) [bj (L[k].1,s')] (by simp[bj])).aX De Si (by simp only[Ya,X8,X9];omega) (by simp only[sC]) ?_;intro g' Q7 hff hkp;have hrow:L'.map bj++ [bj (L[k].1,s')]= (L'++ [(L[k].1,s')]).map bj:=by rw[Yc];rfl
  exact z2
 ·exact MQ
set_option maxRecDepth 10000 in
def r182{L:List (gS×AV)}{s:AV}(hs:aK h s 4 (L.map aV))(he:∀x∈L,aK h x.2 1 (x.1.bw.map ao))(hl:L.length≤2^30)(hle:∀x∈L,x.1.bw.length≤2^40):
  ay P 182 [s,.func (.func 183) [] []] h (fun v h'=>∃L':List (gS×AV),L'.map Prod.fst=L.map Prod.fst∧Fr h.length h' v 4 (L'.map aV)∧(∀x∈L',Fr h.length h' x.2 1 (x.1.bw.map ao))∧kY (sB v::L'.map fun x=>sB x.2)):=by
 refine .of T.mix T.c182 ?_;unfold fn182;refine Ws hs.aL ?_;refine WL.inv T.mix (fun n ts h'=>∃ (k:Nat) (out:AV) (L':List (gS×AV)),k≤L.length∧n=L.length - k∧Ext h h'∧L'.map Prod.fst= (L.take k).map Prod.fst∧Fr h.length h' out 4 (L'.map aV)∧(∀x∈L',Fr h.length h' x.2 1 (x.1.bw.map ao))∧kY (sB out::L'.map fun x=>sB x.2)∧
   ts.length=22∧slot ts 1= .func (.func 183) [] []∧slot ts 5=out∧slot ts 8=s∧slot ts 9= .i L.length∧slot ts 10= .i k) L.length
  ⟨0,.af,[],Om,rfl,Ext.refl h,rfl,.nil,(fun x hx=>by cases hx),ZH _ _,rfl,rfl,rfl,rfl,rfl,rfl⟩ ?_
 rintro _ ts _ ⟨k,out,L',hk,rfl,⟨g,rfl⟩,hm,hfr,hin,RM,hlen,t1,t5,t8,t9,t10⟩;rw[kT ts 22 hlen];have hL':L'.length=k:=by have:=YC List.length hm;simp at this;omega
 by_cases hlt:k < L.length
 ·have e3: (k:Int)< L.length:=Om
  have Wf:=he L[k] Si;have Tf:=hle L[k] Si;have ox:=Wf.one;have fH:∀{kk:ah},Ext h kk→aq (some 4) (cV s 4 k) (fun b=>kk[b]?)=some (.agg (aV L[k]),.au):=fun {kk} e=>hs.kR hlt e
  unfold aV at fH;simp only[aW,bd,bC,bD,reduceAdd,reduceMul,reduceLeDiff,reduceEqDiff,t1,t5,t8,t9,t10,e3,Yk,hs.dI hlt,fH,ox];have hown:=fun kk (e:Ext h kk)=>r183 T (h:=kk) L[k] (Wf.ext e) Tf
  unfold aV at hown;refine WF.res T.c183 (hown _ (by repeat first| exact Ext.refl _| refine Ext.app _ ?_)) ?_;rintro _ g1 ⟨s',rfl,XP⟩;have os:=XP.aX.one;refine Ws @os ?_;refine WR.fL (h0:=h) (cs:=L'.map aV) (ys:=[aV (L[k].1,s')]) ((((hfr.app _).app _).app _)) (Fr.push (N:=0) (YB _) [aV (L[k].1,s')] (by simp[aV])).aX De Si (by simp only[Ya,X8,X9];omega) (by simp only[sC]) ?_;intro g' Q7 hff hkp;have hrow:L'.map aV++ [aV (L[k].1,s')]= (L'++ [(L[k].1,s')]).map aV:=by rw[Yc];rfl
  exact z2
 ·exact MQ
set_option maxRecDepth 10000 in
def r184{L:List (kU×AV)}{s:AV}(hs:aK h s 3 (L.map bN))(he:∀x∈L,aK h x.2 1 (x.1.bz.map aJ))(hl:L.length≤2^30)(hle:∀x∈L,x.1.bz.length≤2^40):
  ay P 184 [s,.func (.func 185) [] []] h (fun v h'=>∃L':List (kU×AV),L'.map Prod.fst=L.map Prod.fst∧Fr h.length h' v 3 (L'.map bN)∧(∀x∈L',Fr h.length h' x.2 1 (x.1.bz.map aJ))∧kY (sB v::L'.map fun x=>sB x.2)):=by
 refine .of T.mix T.c184 ?_;unfold fn184 yA;refine Ws hs.aL ?_;refine WL.inv T.mix (fun n ts h'=>∃ (k:Nat) (out:AV) (L':List (kU×AV)),k≤L.length∧n=L.length - k∧Ext h h'∧L'.map Prod.fst= (L.take k).map Prod.fst∧Fr h.length h' out 3 (L'.map bN)∧(∀x∈L',Fr h.length h' x.2 1 (x.1.bz.map aJ))∧kY (sB out::L'.map fun x=>sB x.2)∧
   ts.length=22∧slot ts 1= .func (.func 185) [] []∧slot ts 5=out∧slot ts 8=s∧slot ts 9= .i L.length∧slot ts 10= .i k) L.length
  ⟨0,.af,[],Om,rfl,Ext.refl h,rfl,.nil,(fun x hx=>by cases hx),ZH _ _,rfl,rfl,rfl,rfl,rfl,rfl⟩ ?_
 rintro _ ts _ ⟨k,out,L',hk,rfl,⟨g,rfl⟩,hm,hfr,hin,RM,hlen,t1,t5,t8,t9,t10⟩;rw[kT ts 22 hlen];have hL':L'.length=k:=by have:=YC List.length hm;simp at this;omega
 by_cases hlt:k < L.length
 ·have e3: (k:Int)< L.length:=Om
  have Wf:=he L[k] Si;have Tf:=hle L[k] Si;have ox:=Wf.one;have fH:∀{kk:ah},Ext h kk→aq (some 3) (cV s 3 k) (fun b=>kk[b]?)=some (.agg (bN L[k]),.au):=fun {kk} e=>hs.kR hlt e
  unfold bN at fH;simp only[aW,bd,bC,bD,reduceAdd,reduceMul,reduceLeDiff,reduceEqDiff,t1,t5,t8,t9,t10,e3,Yk,hs.dI hlt,fH,ox];have hown:=fun kk (e:Ext h kk)=>r185 T (h:=kk) L[k] (Wf.ext e) Tf
  unfold bN at hown;refine WF.res T.c185 (hown _ (by repeat first| exact Ext.refl _| refine Ext.app _ ?_)) ?_;rintro _ g1 ⟨s',rfl,XP⟩;have os:=XP.aX.one;refine Ws @os ?_;refine WR.fL (h0:=h) (cs:=L'.map bN) (ys:=[bN (L[k].1,s')]) ((((hfr.app _).app _).app _)) (Fr.push (N:=0) (YB _) [bN (L[k].1,s')] (by simp[bN])).aX De Si (by simp only[Ya,X8,X9];omega) (by simp only[sC]) ?_;intro g' Q7 hff hkp;have hrow:L'.map bN++ [bN (L[k].1,s')]= (L'++ [(L[k].1,s')]).map bN:=by rw[Yc];rfl
  exact z2
 ·exact MQ
end
theorem aC.row{h V}(o:aC h V):V.row.all AV.one=true:=by
 simp only[RV.row,CW,CV,BX,o.i0.one,o.i1.one,o.i2.one,o.i3.one,o.i4.one,o.i5.one,Bool.and_self]
def aC.box{h V}(o:aC h V){N}:pv (.agg V.row) N=some (.ptr N 0,.push (.cells V.row true false)):=by
 have: (AV.agg V.row).cells=V.row:=rfl;simp only[pv,this,o.row,Ys]
def sS{V:RV}:V.row[0]? =some (.int .i64 V.tick):=rfl
def ga{V:RV}:V.row[1]? =some (V.s0):=rfl
def la{V:RV}:V.row[2]? =some (V.s1):=rfl
def fF{V:RV}:V.row[3]? =some (V.s2):=rfl
def fN{V:RV}:V.row[4]? =some (V.s3):=rfl
def fZ{V:RV}:V.row[5]? =some (V.s4):=rfl
def gT{V:RV}:V.row[6]? =some (V.s5):=rfl
def aG{V:RV}{mu tl:Bool}:dE (some 7) 0 (.cells V.row mu tl)=some (.agg V.row,.au):=rfl
def kY.app{l m}(hl:kY l)(hm:kY m)(h:∀x∈l,∀y∈m,∀b,x=some b→y≠some b):kY (l++m):=Zl.2 ⟨hl,hm,h⟩
def kY.one{x}:kY [x]:=ZH _ _
theorem kY.perm{l m}(hl:kY l)(h:l.Perm m):kY m:=List.Pairwise.perm hl h fun {x y} hxy b hy hx=>hxy b hx hy
def lP{n z}:dK n z= (List.replicate n z).flatten:=by
 induction n with
 | zero=>rfl
 | succ n ih=>rw[AM,ZG,Zi,ih]
def DA{h X:ah}{A B B':ak}{b:Nat}(hb:h.length+2≤b): (h++ ([A]++ ([B']++X)))[b]? = (h++ ([A]++ ([B]++X)))[b]? :=by
 have e:∀C:ak,(h++ ([A]++ ([C]++X)))[b]? =X[b - h.length - 1 - 1]? :=fun C=>by
  rw[Ye Om,Ye (by simp only[Yv];omega),Ye (by simp only[Yv];omega)];rfl
 rw[e,e]
theorem cG.low{N M h V}(o:cG N h V)(hM:M≤N):cG M h V:=
 ⟨o.i0.low hM,o.i1.low hM,o.i2.low hM,o.i3.low hM,o.i4.low hM,o.i5.low hM,fun x hx=>(o.e2 x hx).low hM,fun x hx=>(o.e3 x hx).low hM,fun x hx=>(o.e4 x hx).low hM,o.di⟩
def cG.dP{N h V}(o:cG N h V){b}(hb:some b∈V.bl):N≤b∧b < h.length:=by
 simp only[RV.bl,Yb,YH,YA,Y7,ZI]at hb;rcases hb with((hb| ⟨x,hx,hb⟩)| ⟨x,hx,hb⟩)| ⟨x,hx,hb⟩
 ·rcases hb with hb| hb| hb| hb| hb| hb
  ·exact o.i0.bM hb.symm
  ·exact o.i1.bM hb.symm
  ·exact o.i2.bM hb.symm
  ·exact o.i3.bM hb.symm
  ·exact o.i4.bM hb.symm
  ·exact o.i5.bM hb.symm
 ·exact(o.e2 x hx).bM hb
 ·exact(o.e3 x hx).bM hb
 ·exact(o.e4 x hx).bM hb
theorem ri:∀{l m:List (By)},l.Nodup→(∀x∈l,x∈m)→l.length≤m.length
 | [],_,_,_=>YB _
 | x::l,m,hn,hs=>by
  have h1:=aaB.1 hn;have hx:=hs x Si;have:=ri (m:=m.erase x) h1.2 fun y hy=>(List.mem_erase_of_ne (fun(e:y=x)=>h1.1 (by rw[←e];exact hy))).2 (hs y (YI _ hy))
  rw[List.length_erase_of_mem hx]at this;have hp:=List.length_pos_of_mem hx;simp only[X8];omega
inductive Lay:Nat→Nat→List (Option Nat)→Prop
 | nil {a:Nat}:Lay a a []
 | cons {a b c:Nat} {l m:List (Option Nat)} (hab:a≤b) (hl:kY l) (hin:∀x,some x∈l→a≤x∧x < b) (r:Lay b c m):Lay a c (l++m)
def Lay.le{a c l}(h:Lay a c l):a≤c:=by
 induction h with
 | nil=>exact Yg _
 | cons hab _ _ _ ih=>omega
def Lay.mem{a c l}(h:Lay a c l):∀x,some x∈l→a≤x∧x < c:=by
 induction h with
 | nil=>intro x hx;cases hx
 | cons hab _ hin r ih=>
  intro x hx;have:=r.le;rcases Yb.1 hx with hx| hx
  ·have:=hin x hx;omega
  ·have:=ih x hx;omega
def Lay.QH{a c l}(h:Lay a c l):kY l:=by
 induction h with
 | nil=>exact List.Pairwise.nil
 | cons hab hl hin r ih=>
  refine hl.app ih fun x hx y hy b hb TR=>?_
  subst hb;have h1:=hin b hx;rw[TR]at hy;have h2:=r.mem b hy;omega
def LA{N h s es cs}(hs:Fr N h s es cs):∀x,some x∈[sB s]→N≤x∧x < h.length:=by
 intro x hx;rw[Yt]at hx;exact hs.bM hx.symm
set_option maxRecDepth 10000
section
variable {P:Program} (T:fy P) {h:ah}
include T
def r96{V:RV}(o:aC h V)(w:fk V.an):ay P 96 [.agg V.row] h (fun v h'=>∃V':RV,V'.an=V.an∧v= .agg V'.row∧cG h.length h' V'):=by
 refine .of T.mix T.c96 ?_;obtain⟨ts,QV⟩:∃ts,ts=aU 38 [.agg V.row]:=⟨_,rfl⟩;have hlen:ts.length=38:=by rw[QV];rfl
 have t0:slot ts 0= .agg V.row:=by rw[QV];rfl
 unfold fn96;show WC P bR _ [] (aU 38 [.agg V.row]) h _;rw[←QV];clear QV;have QU:=@aC.box _ _ o;have n0:V.lines.length≤16:=w.l0;have n5:V.aQ.length≤16:=w.l5;have n1:V.aI.length≤16:=w.l1;have n2:V.aj.length≤64:=by have:=w.l2;simpa [RV.an]using this
 have n3:V.aD.length≤32:=by have:=w.l3;simpa [RV.an]using this
 have n4:V.aH.length≤16:=by have:=w.l4;simpa [RV.an]using this
 have mk0:∀{N:Nat},tg 3 32 [AV.str [],.int .i64 0,.bool false] (.int .i64 (V.lines.length:Int)) (.int .i64 (V.lines.length:Int)) N=some (.slice N 0 V.lines.length 3,.push (.cells (dK V.lines.length [AV.str [],.int .i64 0,.bool false]) true true)):=nT Om Om;have mk5:∀{N:Nat},tg 4 48 [AV.str [],.str [],.int .i64 0,.bool false] (.int .i64 (V.aQ.length:Int)) (.int .i64 (V.aQ.length:Int)) N=some (.slice N 0 V.aQ.length 4,.push (.cells (dK V.aQ.length [AV.str [],.str [],.int .i64 0,.bool false]) true true)):=nT Om Om;refine Rs (A8 t0 @QU @ga @gT o.i0.aL o.i5.aL @mk0 @mk5) ?_
 have z0: (dK V.lines.length [AV.str [],.int .i64 0,.bool false])= (List.replicate V.lines.length [AV.str [],.int .i64 0,.bool false]).flatten:=lP;have z5: (dK V.aQ.length [AV.str [],.str [],.int .i64 0,.bool false])= (List.replicate V.aQ.length [AV.str [],.str [],.int .i64 0,.bool false]).flatten:=lP;obtain⟨B,hB⟩:∃B,B=ak.cells [AV.int .i64 0,.af,.af,.af,.af,.af,.af] true false:=⟨_,rfl⟩;rw[←hB];have f0:Fr (h++ [ak.cells V.row true false]++ [B]).length (h++ [ak.cells V.row true false]++ [B]++ ([ak.cells (dK V.lines.length [AV.str [],.int .i64 0,.bool false]) true true]++ [ak.cells (dK V.aQ.length [AV.str [],.str [],.int .i64 0,.bool false]) true true])) (.slice (h++ [ak.cells V.row true false]++ [B]).length 0 V.lines.length 3) 3 (List.replicate V.lines.length [AV.str [],.int .i64 0,.bool false]):=by
  rw[←X4];exact(Fr.AO (Yg _) rfl).app _
 have f5:Fr (h++ [ak.cells V.row true false]++ [B]).length (h++ [ak.cells V.row true false]++ [B]++ ([ak.cells (dK V.lines.length [AV.str [],.int .i64 0,.bool false]) true true]++ [ak.cells (dK V.aQ.length [AV.str [],.str [],.int .i64 0,.bool false]) true true])) (.slice (h++ [ak.cells V.row true false]++ [B]++ [ak.cells (dK V.lines.length [AV.str [],.int .i64 0,.bool false]) true true]).length 0 V.aQ.length 4) 4 (List.replicate V.aQ.length [AV.str [],.str [],.int .i64 0,.bool false]):=by
  rw[←X4];exact Fr.AO Si rfl
 obtain⟨Z,hZ⟩:∃Z,Z= ([ak.cells (dK V.lines.length [AV.str [],.int .i64 0,.bool false]) true true]++ [ak.cells (dK V.aQ.length [AV.str [],.str [],.int .i64 0,.bool false]) true true]):=⟨_,rfl⟩;have hZl:Z.length=2:=by rw[hZ];rfl
 have el5: (h++ [ak.cells V.row true false]++ [B]++ [ak.cells (dK V.lines.length [AV.str [],.int .i64 0,.bool false]) true true]).length= (h++ [ak.cells V.row true false]++ [B]).length+1:=Si
 rw[X4 (h++ [ak.cells V.row true false]++ [B]),←hZ];rw[←hZ,el5]at f5;rw[←hZ]at f0;rw[el5];clear hZ;refine WR.LS (h0:=h++ [ak.cells V.row true false]++ [B]) (g:=Z) (Sq t0) (Sq t0) f0 (o.i0.ext Xx) Si ?_;intro g1 _ VK hf0 hk0;have XO:=f5.aB (k:=h++ [ak.cells V.row true false]++ [B]++g1) fun b hb=>hk0 b fun b0 o n e he=>by cases he;cases hb;omega
 refine Rs (A2 t0 @gT) ?_;refine WR.LS (h0:=h++ [ak.cells V.row true false]++ [B]) (g:=g1) (Sq t0) (Sq t0) XO (o.i5.ext Xx) Si ?_;intro g2 _ hl2 hf5' hk5;have hf0':=hf0.aB (k:=h++ [ak.cells V.row true false]++ [B]++g2) fun b hb=>hk5 b fun b0 o n e he=>by cases he;cases hb;omega
 have UT:g2.length=2:=Om
 refine Rs (A3 t0 @sS @la) ?_;refine WF.res T.c179 (r179 T (o.i1.ext Xx) (by simp;omega)) ?_;rintro s1 c1 q1;refine Rs (A2 t0 @fF) ?_;refine WF.res T.c180 (r180 T (o.i2.ext Xx) (fun x hx=>(o.e2 x hx).ext Xx) Om (fun x hx=>?_)) ?_
 ·have:=(w.sh x.1 (Yx hx)).2.2;have hle:=ri this.1 (fun t ht=>this.2 t ht);have VK: (jB V.an).length=V.aI.length:=by simp[jB,RV.an]
  omega
 rintro s2 c2 ⟨L2,m2,q2,q2e,q2d⟩;refine Rs (A2 t0 @fN) ?_;refine WF.res T.c182 (r182 T (o.i3.ext Xx) (fun x hx=>(o.e3 x hx).ext Xx) Om (fun x hx=>by have:=(w.md x.1 (Yx hx)).2.1;omega)) ?_;rintro s3 c3 ⟨L3,m3,q3,q3e,q3d⟩;refine Rs (A2 t0 @fZ) ?_;refine WF.res T.c184 (r184 T (o.i4.ext Xx) (fun x hx=>(o.e4 x hx).ext Xx) Om (fun x hx=>by have:=(w.jb x.1 (Yx hx)).2.2.1;omega)) ?_;rintro s4 c4 ⟨L4,m4,q4,q4e,q4d⟩;refine Rs (A6 t0 q1.aX.one q2.aX.one q3.aX.one q4.aX.one @hB) ?_;refine⟨⟨V.tick,V.lines,V.aI,L2,L3,L4,V.aQ,.slice (h++ [ak.cells V.row true false]++ [B]).length 0 V.lines.length 3,s1,s2,s3,s4,.slice ((h++ [ak.cells V.row true false]++ [B]).length+1) 0 V.aQ.length 4⟩,?_,?_,?_⟩
 ·simp only[RV.an,m2,m3,m4]
 ·rw[←hB];rfl
 obtain⟨H,hH⟩:∃H,H=h++ [ak.cells V.row true false]++ [B]:=⟨_,rfl⟩;have Ur:h.length≤H.length:=by rw[hH];simp
 rw[←hH]at hf0' hf5' q1 q2 q2e q3 q3e q4 q4e;have own:cG H.length (H++g2++c1++c2++c3++c4) ⟨V.tick,V.lines,V.aI,L2,L3,L4,V.aQ,.slice H.length 0 V.lines.length 3,s1,s2,s3,s4,.slice (H.length+1) 0 V.aQ.length 4⟩:=by
  have n0:V.lines.length= (V.lines.map cp).length:=Si
  have n5:V.aQ.length= (V.aQ.map c9).length:=Si
  refine⟨(((hf0'.app _).app _).app _).app _,?_,?_,?_,?_,(((hf5'.app _).app _).app _).app _,?_,?_,?_,?_⟩
  ·exact(((q1.app _).app _).app _).low Si
  ·exact((q2.app _).app _).low (by simp only[X2];omega)
  ·exact(q3.app _).low (by simp only[X2];omega)
  ·exact q4.low (by simp only[X2];omega)
  ·exact fun x hx=>(((q2e x hx).app _).app _).low (by simp only[X2];omega)
  ·exact fun x hx=>((q3e x hx).app _).low (by simp only[X2];omega)
  ·exact fun x hx=>(q4e x hx).low (by simp only[X2];omega)
  ·have lay:Lay H.length (H++g2++c1++c2++c3++c4).length ([some H.length]++ ([some (H.length+1)]++ ([sB s1]++ ((sB s2::L2.map fun x=>sB x.2)++ ((sB s3::L3.map fun x=>sB x.2)++ ((sB s4::L4.map fun x=>sB x.2)++ [])))))):=by
    refine .cons (b:=H.length+1) Om .one (fun x hx=>by simp at hx;omega) ?_;refine .cons (b:=(H++g2).length) (by simp only[X2];omega) .one (fun x hx=>by simp at hx;simp only[X2];omega) ?_;refine .cons (b:=(H++g2++c1).length) (by simp only[X2];omega) .one (LA q1) ?_;refine .cons (b:=(H++g2++c1++c2).length) (by simp only[X2];omega) q2d (fun x hx=>?_) ?_
    ·rcases YH.1 hx with hx| hx
     ·exact q2.bM hx.symm
     ·obtain⟨y,hy,Xp⟩:=YA.1 hx;exact(q2e y hy).bM Xp
    refine .cons (b:=(H++g2++c1++c2++c3).length) (by simp only[X2];omega) q3d (fun x hx=>?_) ?_
    ·rcases YH.1 hx with hx| hx
     ·exact q3.bM hx.symm
     ·obtain⟨y,hy,Xp⟩:=YA.1 hx;exact(q3e y hy).bM Xp
    refine .cons (b:=(H++g2++c1++c2++c3++c4).length) (by simp only[X2];omega) q4d (fun x hx=>?_) .nil;rcases YH.1 hx with hx| hx
    ·exact q4.bM hx.symm
    ·obtain⟨y,hy,Xp⟩:=YA.1 hx;exact(q4e y hy).bM Xp
   refine lay.QH.perm (List.perm_iff_count.2 fun a=>?_);simp only[RV.bl,sB,List.count_append,List.count_cons,List.count_nil,YR,aay]
   ac_rfl
 rw[hH]at own Ur;refine(own.low Ur).au fun b hb=>?_
 have hbN:=(own.dP hb).1;simp only[X4];exact DA (by simpa using hbN)
end
def aC.jd{h V}(o:aC h V): (∀x∈V.aj,x.2.one=true)∧(∀x∈V.aD,x.2.one=true)∧(∀x∈V.aH,x.2.one=true):=
 ⟨fun x hx=>(o.e2 x hx).one,fun x hx=>(o.e3 x hx).one,fun x hx=>(o.e4 x hx).one⟩
structure eC(V:RV):Prop where
 l0:V.lines.length < 2^30
 l1:V.aI.length < 2^30
 l2:V.aj.length < 2^30
 l3:V.aD.length < 2^30
 l4:V.aH.length < 2^30
 l5:V.aQ.length < 2^30
def fk.len{V}(w:fk V.an):eC V:=by
 have h0:=w.l0;have h1:=w.l1;have h2:=w.l2;have h3:=w.l3;have h4:=w.l4;have h5:=w.l5;simp only[RV.an,Ya]at h0 h1 h2 h3 h4 h5;exact⟨Om,Om,Om,Om,Om,Om⟩
def jQ{V:RV}:mN V.an=V.aj.map fun x=>x.1.name:=by simp[mN,RV.an,aas]
def gU{V:RV}:gP V.an=V.aD.map fun x=>x.1.name:=by simp[gP,RV.an,aas]
def gV{V:RV}:iE V.an=V.aH.map fun x=>x.1.name:=by simp[iE,RV.an,aas]
section
variable {P:Program} (T:fy P) {h:ah}
include T
def r205{V}(o:aC h V)(l:eC V){n}(hn:n∈gE V.an):ay P 205 [.agg V.row,.str n] h (fun v _=>v= .agg (cp (dJ V.an n))):=by
 refine .eD 13 T.mix T.c205 ?_;intro ts hlen t0 t1;unfold fn205;have QU:=@aC.box _ _ o;have hlt:bp (gE V.an) n < V.lines.length:=by have:=cY hn;simpa [gE,RV.an]using this
 have ei:cU (fun x:gM=>decide (x.name=n)) V.lines= (bp (gE V.an) n:Int):=e9 (f:=gM.name) hn;have ix:aZ 3 V.s0 (.i (bp (gE V.an) n:Int))=some (cV V.s0 3 (bp (gE V.an) n),.au):=o.i0.dI hlt;have ld:∀{k:ah},Ext h k→aq (some 3) (cV V.s0 3 (bp (gE V.an) n)) (fun b=>k[b]?)=some (.agg (cp (V.lines[bp (gE V.an) n])),.au):=fun {k} e=>o.i0.kR hlt e
 have sp:dJ V.an n=V.lines[bp (gE V.an) n]:=dh hn;rw[sp];unfold cp at ld ⊢;refine Rs (A4 t0 t1 @QU @ga) ?_;refine WF.ce T.c142 (r142 T (o.i0.ext Xx) (by have:=l.l0;omega) n) fun g1=>?_
 exact Dl
def r134{V}(o:aC h V)(l:eC V){n}(hn:n∈jB V.an):ay P 134 [.agg V.row,.str n] h (fun v _=>v= .agg (dQ (jn V.an n))):=by
 refine .eD 13 T.mix T.c134 ?_;intro ts hlen t0 t1;unfold fn134;have QU:=@aC.box _ _ o;have hlt:bp (jB V.an) n < V.aI.length:=by have:=cY hn;simpa [jB,RV.an]using this
 have ei:cU (fun x:rT=>decide (x.name=n)) V.aI= (bp (jB V.an) n:Int):=e9 (f:=rT.name) hn;have ix:aZ 2 V.s1 (.i (bp (jB V.an) n:Int))=some (cV V.s1 2 (bp (jB V.an) n),.au):=o.i1.dI hlt;have ld:∀{k:ah},Ext h k→aq (some 2) (cV V.s1 2 (bp (jB V.an) n)) (fun b=>k[b]?)=some (.agg (dQ (V.aI[bp (jB V.an) n])),.au):=fun {k} e=>o.i1.kR hlt e
 have sp:jn V.an n=V.aI[bp (jB V.an) n]:=dh hn;rw[sp];unfold dQ at ld ⊢;refine Rs (A4 t0 t1 @QU @la) ?_;refine WF.ce T.c143 (r143 T (o.i1.ext Xx) (by have:=l.l1;omega) n) fun g1=>?_
 exact Dl
def r77{V:RV}(o:aC h V)(l:eC V){n:By}(hn:n∈mN V.an):ay P 77 [.agg V.row,.str n] h (fun v _=>∃x∈V.aj,x.1=qR V.an n∧v= .agg (bj x)):=by
 refine .eD 13 T.mix T.c77 ?_;intro ts hlen t0 t1;unfold fn77 Du;have QU:=@aC.box _ _ o;have hlt:bp (mN V.an) n < V.aj.length:=by have:=cY hn;simpa [mN,RV.an]using this
 have ei:cU (fun x:jI×AV=>decide (x.1.name=n)) V.aj= (bp (mN V.an) n:Int):=(e9 (f:=fun x:jI×AV=>x.1.name) (by rw[←jQ];exact hn)).trans (by rw[jQ]);have ix:aZ 3 V.s2 (.i (bp (mN V.an) n:Int))=some (cV V.s2 3 (bp (mN V.an) n),.au):=o.i2.dI hlt;have ld:∀{k:ah},Ext h k→aq (some 3) (cV V.s2 3 (bp (mN V.an) n)) (fun b=>k[b]?)=some (.agg (bj (V.aj[bp (mN V.an) n])),.au):=fun {k} e=>o.i2.kR hlt e
 have sp: (V.aj[bp (mN V.an) n]).1=qR V.an n:=by
  have:=dh (f:=jI.name) (l:=V.an.aj) (n:=n) (d:=D2) hn;rw[show qR V.an n=_ from this];exact Dj
 have on:=o.jd.1 (V.aj[bp (mN V.an) n]) (Yi _);have Su:V.aj[bp (mN V.an) n]∈V.aj:=Yi _;generalize V.aj[bp (mN V.an) n]=x at *;unfold bj at ld ⊢;refine Rs (A4 t0 t1 @QU @fF) ?_;refine WF.ce T.c136 (r136 T (o.i2.ext Xx) o.jd.1 (by have:=l.l2;omega) n) fun g1=>?_
 exact z109
def r245{V:RV}(o:aC h V)(l:eC V){n:By}(hn:n∈gP V.an):ay P 245 [.agg V.row,.str n] h (fun v _=>∃x∈V.aD,x.1=gI V.an n∧v= .agg (aV x)):=by
 refine .eD 13 T.mix T.c245 ?_;intro ts hlen t0 t1;unfold fn245;have QU:=@aC.box _ _ o;have hlt:bp (gP V.an) n < V.aD.length:=by have:=cY hn;simpa [gP,RV.an]using this
 have ei:cU (fun x:gS×AV=>decide (x.1.name=n)) V.aD= (bp (gP V.an) n:Int):=(e9 (f:=fun x:gS×AV=>x.1.name) (by rw[←gU];exact hn)).trans (by rw[gU]);have ix:aZ 4 V.s3 (.i (bp (gP V.an) n:Int))=some (cV V.s3 4 (bp (gP V.an) n),.au):=o.i3.dI hlt;have ld:∀{k:ah},Ext h k→aq (some 4) (cV V.s3 4 (bp (gP V.an) n)) (fun b=>k[b]?)=some (.agg (aV (V.aD[bp (gP V.an) n])),.au):=fun {k} e=>o.i3.kR hlt e
 have sp: (V.aD[bp (gP V.an) n]).1=gI V.an n:=by
  have:=dh (f:=gS.name) (l:=V.an.aD) (n:=n) (d:=B0) hn;rw[show gI V.an n=_ from this];exact Dj
 have on:=o.jd.2.1 (V.aD[bp (gP V.an) n]) (Yi _);have Su:V.aD[bp (gP V.an) n]∈V.aD:=Yi _;generalize V.aD[bp (gP V.an) n]=x at *;unfold aV at ld ⊢;refine Rs (A4 t0 t1 @QU @fN) ?_;refine WF.ce T.c144 (r144 T (o.i3.ext Xx) o.jd.2.1 (by have:=l.l3;omega) n) fun g1=>?_
 exact z109
def r124{V:RV}(o:aC h V)(l:eC V){n:By}(hn:n∈iE V.an):ay P 124 [.agg V.row,.str n] h (fun v _=>∃x∈V.aH,x.1=gu V.an n∧v= .agg (bN x)):=by
 refine .eD 13 T.mix T.c124 ?_;intro ts hlen t0 t1;unfold fn124 Du;have QU:=@aC.box _ _ o;have hlt:bp (iE V.an) n < V.aH.length:=by have:=cY hn;simpa [iE,RV.an]using this
 have ei:cU (fun x:kU×AV=>decide (x.1.name=n)) V.aH= (bp (iE V.an) n:Int):=(e9 (f:=fun x:kU×AV=>x.1.name) (by rw[←gV];exact hn)).trans (by rw[gV]);have ix:aZ 3 V.s4 (.i (bp (iE V.an) n:Int))=some (cV V.s4 3 (bp (iE V.an) n),.au):=o.i4.dI hlt;have ld:∀{k:ah},Ext h k→aq (some 3) (cV V.s4 3 (bp (iE V.an) n)) (fun b=>k[b]?)=some (.agg (bN (V.aH[bp (iE V.an) n])),.au):=fun {k} e=>o.i4.kR hlt e
 have sp: (V.aH[bp (iE V.an) n]).1=gu V.an n:=by
  have:=dh (f:=kU.name) (l:=V.an.aH) (n:=n) (d:=zS) hn;rw[show gu V.an n=_ from this];exact Dj
 have on:=o.jd.2.2 (V.aH[bp (iE V.an) n]) (Yi _);have Su:V.aH[bp (iE V.an) n]∈V.aH:=Yi _;generalize V.aH[bp (iE V.an) n]=x at *;unfold bN at ld ⊢;refine Rs (A4 t0 t1 @QU @fZ) ?_;refine WF.ce T.c145 (r145 T (o.i4.ext Xx) o.jd.2.2 (by have:=l.l4;omega) n) fun g1=>?_
 exact z109
def r218{V}(o:aC h V)(l:eC V){n}(hn:n∈kX V.an):ay P 218 [.agg V.row,.str n] h (fun v _=>v= .agg (c9 (jO V.an n))):=by
 refine .eD 13 T.mix T.c218 ?_;intro ts hlen t0 t1;unfold fn218;have QU:=@aC.box _ _ o;have hlt:bp (kX V.an) n < V.aQ.length:=by have:=cY hn;simpa [kX,RV.an]using this
 have ei:cU (fun x:qk=>decide (x.name=n)) V.aQ= (bp (kX V.an) n:Int):=e9 (f:=qk.name) hn;have ix:aZ 4 V.s5 (.i (bp (kX V.an) n:Int))=some (cV V.s5 4 (bp (kX V.an) n),.au):=o.i5.dI hlt;have ld:∀{k:ah},Ext h k→aq (some 4) (cV V.s5 4 (bp (kX V.an) n)) (fun b=>k[b]?)=some (.agg (c9 (V.aQ[bp (kX V.an) n])),.au):=fun {k} e=>o.i5.kR hlt e
 have sp:jO V.an n=V.aQ[bp (kX V.an) n]:=dh hn;rw[sp];unfold c9 at ld ⊢;refine Rs (A4 t0 t1 @QU @gT) ?_;refine WF.ce T.c146 (r146 T (o.i5.ext Xx) (by have:=l.l5;omega) n) fun g1=>?_
 exact Dl
def Lt{V}(o:aC h V)(l:eC V)(n:By):ay P 86 [.agg V.row,.i 0,.str n] h (fun v _=>v= .bool (dG V.an 0 n)):=by
 refine .nH 47 T.mix T.c86 ?_;intro ts hlen t0 t1 t2;unfold fn86;have QU:=@aC.box _ _ o;have eh:dG V.an 0 n=decide (0≤cU (fun x=>decide (x.name=n)) V.lines):=(fi (f:=gM.name)).symm;rw[eh]
 skip
 refine Rs (A7 t0 t1 t2 @QU @ga @Yk @Yp) ?_;refine WF.ce T.c142 (r142 T (o.i0.ext Xx) (by have:=l.l0;omega) n) fun g1=>?_
 exact FO
def Lq{V}(o:aC h V)(l:eC V)(n:By):ay P 86 [.agg V.row,.i 1,.str n] h (fun v _=>v= .bool (dG V.an 1 n)):=by
 refine .nH 47 T.mix T.c86 ?_;intro ts hlen t0 t1 t2;unfold fn86;have QU:=@aC.box _ _ o;have eh:dG V.an 1 n=decide (0≤cU (fun x=>decide (x.name=n)) V.aI):=(fi (f:=rT.name)).symm;rw[eh]
 skip
 have d0: ((1:Int)=0)=False:=ZB De;refine Rs (A8 t0 t1 t2 @QU @la @Yk @Yp @d0) ?_;refine WF.ce T.c143 (r143 T (o.i1.ext Xx) (by have:=l.l1;omega) n) fun g1=>?_
 exact FO
def Lp{V:RV}(o:aC h V)(l:eC V)(n:By):ay P 86 [.agg V.row,.i 2,.str n] h (fun v _=>v= .bool (dG V.an 2 n)):=by
 refine .nH 47 T.mix T.c86 ?_;intro ts hlen t0 t1 t2;unfold fn86;have QU:=@aC.box _ _ o;have eh:dG V.an 2 n=decide (0≤cU (fun x=>decide (x.1.name=n)) V.aj):=by
  rw[fi (f:=fun x:jI×AV=>x.1.name),←jQ];rfl
 rw[eh]
 skip
 have d0: ((2:Int)=0)=False:=ZB De;have d1: ((2:Int)=1)=False:=ZB De;refine Rs (A9 t0 t1 t2 @QU @fF @Yk @Yp @d0 @d1) ?_;refine WF.ce T.c136 (r136 T (o.i2.ext Xx) o.jd.1 (by have:=l.l2;omega) n) fun g1=>?_
 exact FO
def Lo{V:RV}(o:aC h V)(l:eC V)(n:By):ay P 86 [.agg V.row,.i 3,.str n] h (fun v _=>v= .bool (dG V.an 3 n)):=by
 refine .nH 47 T.mix T.c86 ?_;intro ts hlen t0 t1 t2;unfold fn86;have QU:=@aC.box _ _ o;have eh:dG V.an 3 n=decide (0≤cU (fun x=>decide (x.1.name=n)) V.aD):=by
  rw[fi (f:=fun x:gS×AV=>x.1.name),←gU];rfl
 rw[eh]
 skip
 have d0: ((3:Int)=0)=False:=ZB De;have d1: ((3:Int)=1)=False:=ZB De;have d2: ((3:Int)=2)=False:=ZB De;refine Rs (nv t0 t1 t2 @QU @fN @Yk @Yp @d0 @d1 @d2) ?_;refine WF.ce T.c144 (r144 T (o.i3.ext Xx) o.jd.2.1 (by have:=l.l3;omega) n) fun g1=>?_
 exact FO
def Ln{V:RV}(o:aC h V)(l:eC V)(n:By):ay P 86 [.agg V.row,.i 4,.str n] h (fun v _=>v= .bool (dG V.an 4 n)):=by
 refine .nH 47 T.mix T.c86 ?_;intro ts hlen t0 t1 t2;unfold fn86;have QU:=@aC.box _ _ o;have eh:dG V.an 4 n=decide (0≤cU (fun x=>decide (x.1.name=n)) V.aH):=by
  rw[fi (f:=fun x:kU×AV=>x.1.name),←gV];rfl
 rw[eh]
 skip
 have d0: ((4:Int)=0)=False:=ZB De;have d1: ((4:Int)=1)=False:=ZB De;have d2: ((4:Int)=2)=False:=ZB De;have d3: ((4:Int)=3)=False:=ZB De;refine Rs (nw t0 t1 t2 @QU @fZ @Yk @Yp @d0 @d1 @d2 @d3) ?_;refine WF.ce T.c145 (r145 T (o.i4.ext Xx) o.jd.2.2 (by have:=l.l4;omega) n) fun g1=>?_
 exact FO
def Lm{V}(o:aC h V)(l:eC V)(n:By):ay P 86 [.agg V.row,.i 5,.str n] h (fun v _=>v= .bool (dG V.an 5 n)):=by
 refine .nH 47 T.mix T.c86 ?_;intro ts hlen t0 t1 t2;unfold fn86;have QU:=@aC.box _ _ o;have eh:dG V.an 5 n=decide (0≤cU (fun x=>decide (x.name=n)) V.aQ):=(fi (f:=qk.name)).symm;rw[eh]
 skip
 have d0: ((5:Int)=0)=False:=ZB De;have d1: ((5:Int)=1)=False:=ZB De;have d2: ((5:Int)=2)=False:=ZB De;have d3: ((5:Int)=3)=False:=ZB De;have d4: ((5:Int)=4)=False:=ZB De;refine Rs (pJ t0 t1 t2 @QU @gT @Yk @Yp @d0 @d1 @d2 @d3 @d4) ?_;refine WF.ce T.c146 (r146 T (o.i5.ext Xx) (by have:=l.l5;omega) n) fun g1=>?_
 exact FO
def r86{V:RV}(o:aC h V)(l:eC V){t:Nat}(ht:t < 6)(n:By):ay P 86 [.agg V.row,.i t,.str n] h (fun v _=>v= .bool (dG V.an t n)):=by
 match t,ht with
 | 0,_=>exact Lt T o l n
 | 1,_=>exact Lq T o l n
 | 2,_=>exact Lp T o l n
 | 3,_=>exact Lo T o l n
 | 4,_=>exact Ln T o l n
 | 5,_=>exact Lm T o l n
def r135(x:rT)(t:Int):ay P 135 [.agg (dQ x),.i t] h (fun v _=>v= .bool (decide (t≤x.last))):=by
 refine .of T.mix T.c135 ?_;unfold fn135 dQ;exact Wn Tv
def r76{V}(o:aC h V)(l:eC V){x}(hx:aK h x.2 1 (x.1.aI.map ao))(hl:x.1.aI.length < 2^30)(hk:∀n∈x.1.aI,n∈jB V.an)(t:Int):
  ay P 76 [.agg V.row,.agg (bj x),.i t] h (fun v _=>v= .bool (iB V.an x.1 t)):=by
 refine .nH 24 T.mix T.c76 ?_;intro ts hlen t0 t1 t2;unfold fn76;have QU:=@aC.box _ _ o;have ox:=hx.one;unfold bj at t1;refine Rs (A6 t0 t1 t2 @QU @ox hx.aL) ?_;refine WL.inv T.mix (fun n ts h'=>∃k:Nat,k≤x.1.aI.length∧n=x.1.aI.length - k∧Ext (h++ [ak.b V.row]) h'∧iB V.an x.1 t= (x.1.aI.drop k).any (jo V.an t)∧
   ts.length=24∧slot ts 2= .i t∧slot ts 3= .ptr h.length 0∧slot ts 7= .bool false∧slot ts 11=x.2∧slot ts 12= .i x.1.aI.length∧slot ts 13= .i k) x.1.aI.length
  ⟨0,Om,rfl,Xx,rfl,Sn,(Sq t2),(Sq t0),(Sq t0),(Sq t0),(Sq t0),(QO t0)⟩ ?_
 rintro _ ts _ ⟨k,hk',rfl,⟨g,rfl⟩,hs,hlen,t2,t3,t7,t11,t12,t13⟩;by_cases hlt:k < x.1.aI.length
 ·have hd:x.1.aI.drop k=x.1.aI[k]::x.1.aI.drop (k+1):=Si
  have e3:=eT hlt;have ix:=hx.dI (kk:=.i64) hlt;have ld:∀{k':ah},Ext h k'→aq none (cV x.2 1 k) (fun b=>k'[b]?)=some (.str x.1.aI[k],.au):=fun {k'} e=>hx.ki hlt rfl e
  refine Rs (nv t2 t3 t7 t11 t12 t13 e3 ix @ld @aG) ?_;refine WF.ce T.c134 (r134 T (o.ext Xx) l (hk _ (Yi hlt))) fun g1=>?_
  refine Rs (A6 t2 t3 t7 t11 t12 t13) ?_;refine WF.ce T.c135 (r135 T _ t) fun g2=>?_
  have hr:decide (t≤(jn V.an x.1.aI[k]).last)=jo V.an t x.1.aI[k]:=rfl;rw[hr];rw[hd,aai]at hs;cases Se:jo V.an t x.1.aI[k]with
  | true=>
   rw[Se,Bool.true_or]at hs;rw[hs];exact Rs (A6 t2 t3 t7 t11 t12 t13) Tv
  | false=>
   rw[Se,aah]at hs;have e5:=wrapN (n:=k) Om;refine Rs (A7 t2 t3 t7 t11 t12 t13 e5) ?_;exact⟨_,Om,k+1,Om,rfl,hs,rfl⟩
 ·have e3:=fQ hlt;have e4:k=x.1.aI.length:=Om
  rw[e4,YZ]at hs;rw[hs];refine Rs (A7 t2 t3 t7 t11 t12 t13 e3) ?_;rfl
end
structure PA(V:RV):Prop where
 sh:∀x∈V.aj,(∀n∈x.1.aI,n∈jB V.an)∧x.1.aI.length < 2^30
def fk.y3{V}(w:fk V.an):PA V:=by
 refine⟨fun x hx=>?_⟩;have:=(w.sh x.1 (Yx hx)).2.2;have hle:=ri this.1 (fun t ht=>this.2 t ht);have h1:=w.l1;have VK: (jB V.an).length=V.an.aI.length:=by simp[jB]
 exact⟨this.2,Om⟩
section
variable {P:Program} (T:fy P) {h:ah}
include T
def r139{V}(o:aC h V)(l:eC V)(ir:PA V){x}(hm:x∈V.aj){t b c}(hb:h[b]? =some (.b V.row))(hc:h[c]? =some (.b [.i t])):
  ay P 139 [.agg (bj x),.ptr b 0,.ptr c 0] h (fun v _=>v= .bool (!iB V.an x.1 t)):=by
 refine .nH 10 T.mix T.c139 ?_;intro ts hlen t0 t1 t2;unfold fn139;have ox:=(o.e2 x hm).one;have lb:∀{k:ah} {n:Option Nat} {a:Nat},Ext h k→aq n (.ptr b a) (fun z=>k[z]?)=dE n a (.b V.row):=fun e=>az (e.some hb)
 have lc:∀{k:ah} {n:Option Nat} {a:Nat},Ext h k→aq n (.ptr c a) (fun z=>k[z]?)=dE n a (.b [.i t]):=fun e=>az (e.some hc)
 have hsf:=fun(k:ah) (e:Ext h k)=>r76 T (o.ext e) l ((o.e2 x hm).ext e) (ir.sh x hm).2 (ir.sh x hm).1 t
 unfold bj at t0 hsf;refine Rs (A7 t0 t1 t2 @ox @lb @lc @aG) ?_;refine WF.ce T.c76 (hsf _ Xx) fun g1=>?_
 exact FO
def r80{V}(o:aC h V)(l:eC V)(ir:PA V)(t:Int):ay P 80 [.agg V.row,.i t] h (fun v h'=>aK h' v 1 ((j6 V.an t).map ao)):=by
 refine .eD 10 T.mix T.c80 ?_;intro ts hlen t0 t1;unfold fn80;have QU:=@aC.box _ _ o;refine Rs (A4 t0 t1 @QU @fF) ?_;have hm:∀x,x∈V.aj→∀k,Ext (h++ [ak.b V.row]++ [ak.b [AV.i t]]) k→bF P (.func (.func 139) [] [.ptr h.length 0,.ptr (h++ [ak.b V.row]).length 0]) [.agg (bj x)] k (fun v _=>v= .bool (!iB V.an x.1 t)):=fun x hx k e=>
  bF.of (a:=[]) T.c139 (r139 T (o.ext (Ext.trans Xx e)) l ir hx (e.some uq) (e.some ba))
 refine WF.res T.c138 (r138 T (o.i2.ext Xx) o.jd.1 (by have:=l.l2;omega) (fun x=>!iB V.an x.1 t) hm) ?_;rintro s1 g1 hf;refine Rs (A2 t0 t1) ?_;have Ru: (V.aj.filter fun x=>!iB V.an x.1 t).length≤V.aj.length:=YK _ _;refine WF.res T.c137 (r137 T hf.aX (fun x hx=>o.jd.1 x ((Zk.1 hx).1)) (by have:=l.l2;omega) (fun x=>x.1.name) (fun x hx k e=>bF.of (a:=[]) (c:=[]) T.c140 (r140 T x (o.jd.1 x ((Zk.1 hx).1))))) ?_;rintro s2 g2 TE;have eu:j6 V.an t= (V.aj.filter fun x=>!iB V.an x.1 t).map fun x=>x.1.name:=by
  simp only[j6,RV.an,aaa,ZK];rfl
 rw[eu];have:=TE.aX;refine Rs (A2 t0 t1) ?_;exact this
def r255{x}(ox:x.2.one=true){n b}(hb:h[b]? =some (.b [.str n])):ay P 255 [.agg (bj x),.ptr b 0] h (fun v _=>v= .bool (decide (x.1.line=n))):=by
 refine .eD 8 T.mix T.c255 ?_;intro ts hlen t0 t1;unfold fn255 yy;have lb:∀{k:ah} {n':Option Nat} {a:Nat},Ext h k→aq n' (.ptr b a) (fun z=>k[z]?)=dE n' a (.b [.str n]):=fun e=>az (e.some hb)
 unfold bj at t0;exact Rs (A4 t0 t1 @ox @lb) Tv
def r206{V}(o:aC h V)(l:eC V)(n:By):ay P 206 [.agg V.row,.str n] h (fun v h'=>aK h' v 3 ((V.aj.filter fun x=>decide (x.1.line=n)).map bj)):=by
 refine .eD 9 T.mix T.c206 ?_;intro ts hlen t0 t1;unfold fn206;have QU:=@aC.box _ _ o;refine Rs (A4 t0 t1 @QU @fF) ?_;refine WF.res T.c138 (r138 T (o.i2.ext Xx) o.jd.1 (by have:=l.l2;omega) (fun x=>decide (x.1.line=n)) (fun x hx k e=>bF.of (a:=[]) (c:=[.ptr (h++ [ak.b V.row]).length 0]) T.c255 (r255 T (o.jd.1 x hx) (e.some ba)))) ?_;rintro s1 g1 hf;have:=hf.aX;refine Rs (A2 t0 t1) ?_;exact this
def r269{x n b}(hb:h[b]? =some (.b [.str n])):ay P 269 [.agg (c9 x),.ptr b 0] h (fun v _=>v= .bool (decide (x.Ce=n))):=by
 refine .eD 8 T.mix T.c269 ?_;intro ts hlen t0 t1;unfold fn269 yy;have lb:∀{k:ah} {n':Option Nat} {a:Nat},Ext h k→aq n' (.ptr b a) (fun z=>k[z]?)=dE n' a (.b [.str n]):=fun e=>az (e.some hb)
 unfold c9 at t0;exact Rs (A3 t0 t1 @lb) Tv
def r251{V}(o:aC h V)(l:eC V)(n:By):ay P 251 [.agg V.row,.str n] h (fun v _=>v= .bool (p9 V.an n)):=by
 refine .eD 9 T.mix T.c251 ?_;intro ts hlen t0 t1;unfold fn251;have QU:=@aC.box _ _ o;refine Rs (A4 t0 t1 @QU @gT) ?_;refine WF.ce T.c268 (r268 T (o.i5.ext Xx) (by have:=l.l5;omega) (fun x=>decide (x.Ce=n)) (fun x hx k e=>bF.of (a:=[]) (c:=[.ptr (h++ [ak.b V.row]).length 0]) T.c269 (r269 T (e.some ba)))) fun g1=>?_
 refine Rs (A2 t0 t1) ?_;rfl
end
end Go.Abs
namespace Go.Abs
def WF.J8{P ro ks ts h h' Q fv args d l v}(H:fg P fv args h v h')(K:WP P ro l ks (put ts d v) h' Q):WF P ro false fv args d l ks ts h Q:=
 ⟨v,h',H,fun hq=>absurd hq Si,K⟩
structure IterM(P:Program)(f:FuncId)(a c:List AV)(L:List (List AV))(pre:ah→Prop):Prop where
 run:∀ (l:Nat) (h:ah) (J:Nat→Nat→ah→Prop) (D:ah→Prop),(∀m i k,J m i k→pre k)→(∀m i k g,J m i k→J m i (k++g))→
  (∀m i (hi:i < L.length) k,J m i k→∃b k',fg P (.func (.yield l) [] []) L[i] k (.bool b) k'∧(∀x,l < x→x < m→k'[x]? =k[x]?)∧(if b=true then J m (i+1) k' else D k'))→
  (∀m k,J m L.length k→D k)→l+1=h.length→pre h→(∀g,J (h++g).length 0 (h++g))→da P f (a++ [.func (.yield l) [] []]++c) h (fun _ k=>D k)
section
variable {P:Program} {ks:List Kt} {ts:TS} {h:ah} {Q:Ex→TS→ah→Prop}
def WC.iterM(hmix:P.follows .mixedOrders=true){f A a c L pre g ps asg body}(hA:bQ P f=some A)
  (hg:val ts g= .func (.func f) a c) (hi:IterM P f a c L pre) (hps:∀x∈L,x.length=ps.length) (I:Nat→Nat→ah→ah→Prop) (Fin:Ex→ah→ah→Prop)
  (h0:∀g,I (h.length+1+g.length) 0 h g) (hcl:∀m i h' g g2,I m i h' g→I m i h' (g++g2)) (hp0:∀X,pre (h++ [X])) (hpre:∀m i h' g X,h'.length=h.length→I m i h' g→pre (h'++ [X]++g))
  (step:∀m i (hi:i < L.length) h' g (R B:ak),h'.length=h.length→I m i h' g→
   WC P Ch asg [] (setArgs ts ps L[i]) (h'++ [R]++g) fun e1 Uf h2=>e1= .normal∧∃h1 g1,h2=h1++ [R]++g1∧h1.length=h.length∧
    WC P Ch body [] Uf (h1++ [B]++g1) fun e2 _ h4=>∃h3 g3,h4=h3++ [B]++g3∧h3.length=h.length∧(∀x,x+h.length+1 < m→g3[x]? =g[x]?)∧(if e2= .normal then I m (i+1) h3 g3 else Fin e2 h3 g3))
  (done:∀e h' g,h'.length=h.length→(if e= .normal then ∃m,I m L.length h' g else Fin e h' g)→WE P bR e ks ts (h'++ [ak.dead]++g) Q):WC P bR (.eJ g ps asg body) ks ts h Q:=by
 let J:Nat→Nat→ah→Prop:=fun m i k=>∃h' g,k=h'++ [.loop .ready .normal ts ps asg body]++g∧h'.length=h.length∧I m i h' g
 let D:ah→Prop:=fun k=>∃e h' g st,k=h'++ [.loop st e ts ps asg body]++g∧h'.length=h.length∧st≠.busy∧(if e= .normal then ∃m,I m L.length h' g else Fin e h' g)
 obtain⟨v,h2,hs,e,h',g',st,rfl,hl,bS,Sv⟩:=hi.run h.length (h++ [.loop .ready .normal ts ps asg body]) J D
  (fun m i k hJ=>by obtain⟨h',g,rfl,h1,h2⟩:=hJ;exact hpre m i h' g _ h1 h2)
  (fun m i k g2 hJ=>by obtain⟨h',g,rfl,h1,h2⟩:=hJ;exact⟨h',g++g2,by rw[X4],h1,hcl _ _ _ _ _ h2⟩)
  (fun m i hi k hJ=>by
   obtain⟨h',g,rfl,h1,h2⟩:=hJ;obtain⟨e1,Uf,k2,q1,rfl,h3,g3,rfl,h4,q2⟩:=W.sound hmix (step m i hi h' g (.loop .ready .normal ts ps asg body) (.loop .busy .normal ts ps asg body) h1 h2);obtain⟨e2,ts3,k3,q3,h5,g5,rfl,h6,q5,q4⟩:=W.sound hmix q2;have hy:fg P (.func (.yield h.length) [] []) L[i] (h'++ [.loop .ready .normal ts ps asg body]++g) (.bool (decide (e2= .normal))) (List.set (h5++ [ak.loop .busy .normal ts ps asg body]++g5) h.length (ak.loop (if e2= .normal then .ready else .done) e2 ts ps asg body)):=
    fg.yield (mU h1) (hps _ (Yi hi)) (fun r=>q1 (some r) ⟨r,rfl⟩) (mU h4) (fun r=>by rw[rp h4];exact q3 (some r) ⟨r,rfl⟩) (mU h6)
   rw[rp h6]at hy;refine⟨decide (e2= .normal),_,hy,?_,?_⟩
   ·intro x hx RC;rw[Ye (by simp;omega),Ye (by simp;omega)];have:=q5 (x - h.length - 1) Om;simp only[X2,X8,X9,h6,h1,YR,Nat.sub_sub]at this ⊢;exact this
   by_cases he:e2= .normal
   ·exact JP
   ·rw[Yd he]at q4;simp only[he,Yp,YS,Yo];exact⟨e2,h5,g5,.done,rfl,h6,Si,by rw[Yd he];exact q4⟩)
  (fun m k hJ=>by obtain⟨h',g,rfl,h1,h2⟩:=hJ;exact⟨.normal,h',g,.ready,rfl,h1,Si,by rw[Yh rfl];exact⟨m,h2⟩⟩)
  Si (hp0 _) (fun g=>⟨h,g,rfl,rfl,by have:=h0 g;simpa only[X2,X8,X9,YR]using this⟩)
 exact PV
end
def WC.F7{P ro c ts h Q Q'}(H:WC P ro c [] ts h Q)(hq:∀e ts' h',Q e ts' h'→Q' e ts' h'):WC P ro c [] ts h Q':=W.mono H hq
def qv{A B:ah}{K K':ak}{b:Nat}(h:b≠A.length): (A++ [K]++B)[b]? = (A++ [K']++B)[b]? :=by
 by_cases h1:b < A.length
 ·rw[X4,X4,X5 h1,X5 h1]
 ·exact MK
def Iz{A B:ah}{K:ak}: (A++ [K]++B)[A.length]? =some K:=by
 exact JM
def dw(x:By×Bool):AV×AV:=(.str x.1,.bool x.2)
def gj:List (By×Bool)→By→Bool
 | [],_=>false
 | (a,b)::r,w=>if w=a then b else gj r w
def rI:List (By×Bool)→By→Bool→List (By×Bool)
 | [],w,b=>[(w,b)]
 | (a,c)::r,w,b=>if w=a then(w,b)::r else(a,c)::rI r w b
theorem rK:∀{M} {w w'} {b},gj (rI M w b) w' =if w' =w then b else gj M w'
 | [],w,w',b=>by rw[rI,gj];rfl
 | (a,c)::r,w,w',b=>by
  rw[rI];by_cases h1:w=a
  ·subst h1;rw[Yh rfl,gj,gj];by_cases h2:w' =w
   ·rw[Yh h2,Yh h2]
   ·rw[Yd h2,Yd h2,Yd h2]
  ·rw[Yd h1,gj,gj,rK];by_cases h2:w' =a
   ·subst h2;rw[Yh rfl,Yd (Zv h1),Yh rfl]
   ·rw[Yd h2,Yd h2]
theorem tz:∀{M} {w},∃o:Option AV,jg .s (.str w) (M.map dw)=some o∧(o=some (.bool (gj M w))∨(o=none∧gj M w=false))
 | [],w=>⟨none,rfl,.inr ⟨rfl,rfl⟩⟩
 | (a,c)::r,w=>by
  by_cases h1:w=a
  ·subst h1;refine⟨some (.bool c),?_,.inl ?_⟩
   ·simp only[YY,dw,jg,de,BEq.rfl]
   ·rw[gj,Yh rfl]
  ·obtain⟨o,h2,h3⟩:=tz (M:=r) (w:=w);have hb: (w==a)=false:=by simp[h1]
   refine⟨o,?_,?_⟩
   ·simp only[YY,dw,jg,de,hb];exact h2
   ·rw[gj,Yd h1];exact h3
theorem uN:∀{M} {w} {b},o7 .s (.str w) (.bool b) (M.map dw)=some ((rI M w b).map dw)
 | [],w,b=>rfl
 | (a,c)::r,w,b=>by
  by_cases h1:w=a
  ·subst h1;rw[rI,Yh rfl];simp only[YY,dw,o7,de,BEq.rfl]
  ·have hb: (w==a)=false:=by simp[h1]
   have:=uN (M:=r) (w:=w) (b:=b);rw[rI,Yd h1];show(match some (w==a)with| some true=>some ((AV.str w,AV.bool b)::r.map dw)| some false=>(o7 .s (.str w) (.bool b) (r.map dw)).map ((AV.str a,AV.bool c)::·)| none=>none)=_;rw[hb,this];rfl
def tZ(kk:CK)(m k x:AV)(G:Nat→Option ak):Option (AV×iA):=
 match m with
 | .map r=>
  match G r with
  | some (.bn es)=>
   match o7 kk k x es with
   | some es'=>some (aA,.set r (.bn es'))
   | none=>none
  | _=>none
 | _=>none
def tY{kk r k x G es es'}(hb:G r=some (.bn es))(hu:o7 kk k x es=some es'):tZ kk (.map r) k x G=some (aA,.set r (.bn es')):=by
 simp only[tZ,hb,hu]
def jc{kk m k x ρ G N}:stepT (.fj kk m k x) ρ G N=tZ kk (ρ m) (ρ k) (ρ x) G:=rfl
def gW(kk:CK)(z:AV)(ok:Bool)(m k:AV)(G:Nat→Option ak):Option (AV×iA):=
 match m with
 | .cQ=>some (if ok then .dL [z,.bool false]else z,.au)
 | .map r=>
  match G r with
  | some (.bn es)=>
   match jg kk k es with
   | some (some v)=>some (if ok then .dL [v,.bool true]else v,.au)
   | some none=>some (if ok then .dL [z,.bool false]else z,.au)
   | none=>none
  | _=>none
 | _=>none
def bT{kk z ok m k ρ G N}:stepT (.look kk z ok m k) ρ G N=gW kk z ok (ρ m) (ρ k) G:=rfl
def lF(z:AV)(ok:Bool):Option AV→Option (AV×iA)
 | some v=>some (if ok then .dL [v,.bool true]else v,.au)
 | none=>some (if ok then .dL [z,.bool false]else z,.au)
def rn{kk z ok r k G es o}(hb:G r=some (.bn es))(hu:jg kk k es=some o):
  gW kk z ok (.map r) k G=lF z ok o:=by
 simp only[gW,hb,hu];cases o<;>rfl
def pk{r w G M}(hb:G r=some (.bn (M.map dw))):gW .s (.bool false) false (.map r) (.str w) G=some (.bool (gj M w),.au):=by
 obtain⟨o,h1,h2⟩:=tz (M:=M) (w:=w);rw[rn hb h1];rcases h2 with rfl| ⟨rfl,h2⟩
 ·rfl
 ·rw[h2];rfl
def rj{r w b G M}(hb:G r=some (.bn (M.map dw))):tZ .s (.map r) (.str w) (.bool b) G=some (aA,.set r (.bn ((rI M w b).map dw))):=tY hb uN
def ai.tl:ai→ai
 | .seq _ b=>b
 | c=>c
def ai.hd:ai→ai
 | .seq a _=>a
 | c=>c
def ai.dr:Nat→ai→ai
 | 0,c=>c
 | n+1,c=>c.tl.dr n
def ai.HT:ai→ai
 | .block _ a=>a
 | .loop a=>a
 | c=>c
def ai.DT:ai→ai
 | .eJ _ _ a _=>a
 | c=>c
def ai.Dc:ai→ai
 | .eJ _ _ _ b=>b
 | c=>c
def Fr.swap'{N A B g s es cs}(hs:Fr N (A++g) s es cs)(hA:A.length=N)(hB:B.length=N):Fr N (B++g) s es cs:=by
 subst hA;exact hs.swap hB
set_option maxRecDepth 10000
attribute [local irreducible] WP WC WE WB WR WF WL WG fT
def KU:ai:=((fn214).body.tl).hd
def Hu:ai:=KU.tl.HT
def N3:ai:=(fn214).body.tl.tl
def KT: (fn214).body= .seq ((fn214).body.hd) (.seq (.seq KU.hd (.block 0 (.eJ (.t 16) [17,18] Hu.DT Hu.Dc))) N3):=rfl
section
variable {P:Program} (T:fy P) {h:ah}
include T
def B4{x:gS×AV}{Hm:List (By×Bool)→ah}{mb bb xb:Nat}(a1:∀M,(Hm M)[mb]? =some (.bn (M.map dw)))(a2:∀M,(Hm M)[bb]? =some (.b [.map mb]))(a3:∀M,(Hm M)[xb]? =some (.b (aV x)))
  (a4:∀M K:List (By×Bool),(Hm M).set mb (.bn (K.map dw))=Hm K) (a5:∀M,aK (Hm M) x.2 1 (x.1.bw.map ao)) (hl:x.1.bw.length < 2^30) {ts:TS} (hlen:ts.length=56) (t4:slot ts 4= .ptr bb 0) (t6:slot ts 6= .ptr xb 0)
  {M:List (By×Bool)} {S:List (By)} (hM:∀w,gj M w=decide (w∈S)):
  WC P Ch Hu.Dc [] ts (Hm M) fun e _ h4=>e= .normal∧∃M',h4=Hm M'∧∀w,gj M' w=decide (w∈(if x.1.name∈S then S++x.1.bw else S)):=by
 have l2:∀{M n o},aq n (.ptr bb o) (fun z=>(Hm M)[z]?)=dE n o (.b [.map mb]):=fun {M _ _}=>az (a2 M)
 have l3:∀{M n o},aq n (.ptr xb o) (fun z=>(Hm M)[z]?)=dE n o (.b [.str x.1.name,.str x.1.gives,.str x.1.line,x.2]):=fun {M _ _}=>az (a3 M)
 have lk:∀{M w},gW .s (.bool false) false (.map mb) (.str w) (fun z=>(Hm M)[z]?)=some (.bool (gj M w),.au):=fun {M _}=>pk (a1 M)
 have mp:∀{M w b},tZ .s (.map mb) (.str w) (.bool b) (fun z=>(Hm M)[z]?)=some (aA,.set mb (.bn ((rI M w b).map dw))):=fun {M _ _}=>rj (a1 M)
 have TB:=fun M G=>(a5 M).aL G
 unfold Hu KU fn214;simp only[ai.tl,ai.hd,ai.HT,ai.Dc]
 repeat (first| simp (config:={ maxSteps:=1000000 }) only[aW,bd,bC,bD,reduceAdd,reduceMul,reduceLeDiff,reduceEqDiff,bE,hlen,Yo,Ys,t4,t6,l2,l3,TB M]| simp (config:={ maxSteps:=1000000 }) (disch:=first| (simp only[X2,X8,X9]<;>omega)| rfl| omega| fail) only[fU,aW,bd,bC,bD,reduceAdd,reduceMul,reduceLeDiff,reduceEqDiff,bE,hlen,Yo,Ys,t4,t6,l2,l3,TB M])
 refine WL.inv T.mix (fun n ts h'=>∃ (k:Nat) (M':List (By×Bool)),k≤x.1.bw.length∧n=x.1.bw.length - k∧h' =Hm M'∧(∀w,gj M' w=decide (w∈S∨(x.1.name∈S∧w∈x.1.bw.take k)))∧
   ts.length=56∧slot ts 4= .ptr bb 0∧slot ts 6= .ptr xb 0∧slot ts 20=x.2∧slot ts 21= .i x.1.bw.length∧slot ts 22= .i k) x.1.bw.length
  ⟨0,M,Om,rfl,rfl,fun w=>by rw[hM];simp,Sn,(Sq t4),(Sq t6),(Sq t6),(Sq t6),hP⟩ ?_
 clear t4 t6 hlen hM;clear M ts;rintro _ ts _ ⟨k,M,hk',rfl,rfl,hM,hlen,t4,t6,t20,t21,t22⟩;by_cases hlt:k < x.1.bw.length
 ·have e3:=eT hlt;have ix:=(a5 M).dI (kk:=.i64) hlt;have ld:aq none (cV x.2 1 k) (fun b=>(Hm M)[b]?)=some (.str x.1.bw[k],.au):=(a5 M).ki hlt rfl (Ext.refl _);have e5:=wrapN (n:=k) Om;have hnew:∀w,gj (rI M x.1.bw[k] (gj M x.1.bw[k]|| gj M x.1.name)) w=decide (w∈S∨(x.1.name∈S∧w∈x.1.bw.take (k+1))):=by
   intro w;rw[rK];have ht:x.1.bw.take (k+1)=x.1.bw.take k++ [x.1.bw[k]]:=by rw[YM,X6 hlt];rfl
   rw[ht];by_cases hw:w=x.1.bw[k]
   ·rw[Yh hw,hM,hM,hw,←Bool.decide_or,ZS,Yb,Yt];constructor
    ·rintro((h1| h1)| (h1| h1))
     ·exact .inl h1
     ·exact .inr ⟨h1.1,.inl h1.2⟩
     ·exact .inr ⟨h1,.inr rfl⟩
     ·exact .inr ⟨h1.1,.inr rfl⟩
    ·rintro(h1| h1)
     ·exact .inl (.inl h1)
     ·exact .inr (.inl h1.1)
   ·rw[Yd hw,hM,ZS,Yb,Yt];simp only[hw,ZI]
  cases hb:gj M x.1.bw[k]with
  | true=>
   rw[hb,Bool.true_or]at hnew;exact PL
  | false=>
   rw[hb,aah]at hnew;exact PL
 ·have e3:=fQ hlt;have e4:k=x.1.bw.length:=Om
  rw[e4,YF]at hM;refine Rs (A6 t4 t6 t20 t21 t22 e3) ?_;refine⟨M,rfl,fun w=>?_⟩;rw[hM,ZS];by_cases hx:x.1.name∈S<;>simp[hx]
end
def N1:gS×AV:=(B0,.af)
def tE(X:List (gS×AV)):List (List AV):=(List.range X.length).map fun j=>[.i ((X.length - 1 - j:Nat):Int),.agg (aV (X.getD (X.length - 1 - j) N1))]
def iZ{X}: (tE X).length=X.length:=by simp[tE]
def tD{X j}(hj:j < (tE X).length): (tE X)[j]= [.i ((X.length - 1 - j:Nat):Int),.agg (aV (X[X.length - 1 - j]'(by rw[iZ]at hj;omega)))]:=by
 have h1:X.length - 1 - j < X.length:=by rw[iZ]at hj;omega
 simp only[tE,Zf,List.getElem_range,YJ,X6 h1,aaj]
structure qd(V:RV)(m:By)(cm cr:Nat)(k:ah):Prop where
 m:k[cm]? =some (.b [.str m])
 r:k[cr]? =some (.b V.row)
 o:aC k V
theorem qd.ext{V m cm cr k k'}(p:qd V m cm cr k)(e:Ext k k'):qd V m cm cr k':=⟨e.some p.m,e.some p.r,p.o.ext e⟩
def iC(V:RV)(m:By):List (gS×AV):=V.aD.filter fun x=>decide (x.1.name∈cN m V.an.aD.reverse)
def zT{m:By}{l:List gS}{i:Nat}(hi:i < l.length):cN m (l.take (i+1))= (if l[i].name∈cN m (l.take i)then cN m (l.take i)++l[i].bw else cN m (l.take i)):=by
 rw[YM,X6 hi,cN,List.foldl_append];rfl
def Ad{α:Type}{p:α→Bool}{l:List α}{k:Nat}(hk:k < l.length)(hp:p l[k]=true):∃h: ((l.take k).filter p).length < (l.filter p).length,(l.filter p)[((l.take k).filter p).length]=l[k]:=by
 have e:l.filter p= (l.take k).filter p++ (l[k]:: (l.drop (k+1)).filter p):=by
  conv=>lhs;rw[←Zx k l,Z4 hk,Zw,ZR,Yh hp]
 have h: ((l.take k).filter p).length < (l.filter p).length:=by rw[e];simp
 refine⟨h,?_⟩;have: (l.filter p)[((l.take k).filter p).length]? =some l[k]:=by rw[e,Ye (Yg _)];simp
 exact(X1.1 this).2
def Cm{α:Type}{p:α→Bool}{l:List α}{k:Nat}(hk:k < l.length): ((l.take (k+1)).filter p).length=if p l[k]=true then((l.take k).filter p).length+1 else((l.take k).filter p).length:=by
 rw[YM,X6 hk,Zw,X2];cases h:p l[k]<;>simp[h]
def CF{N}:pv .cQ N=some (.ptr N 0,.push (.b [.cQ])):=rfl
def Ke{r N}:kV 1 0 (.map r) N (.b [.cQ])=some (aA,.set N (.b [.map r])):=rfl
section
variable {P:Program} (T:fy P) {h:ah}
include T
def r215{s}(o:s.one=true):ay P 215 [s] h (fun v h'=>v= .func (.func 259) [] [.ptr h.length 0]∧h' =h++ [.b [s]]):=by
 refine .of T.mix T.c215 ?_;unfold fn215 yC;exact Ws @o Tv
def zZ{b s X}(hl:X.length < 2^30):
  Iter P 259 [] [.ptr b 0] (tE X) (fun k=>k[b]? =some (.b [s])∧aK k s 4 (X.map aV)):=by
 refine⟨fun l h1 J Dn hpre happ RF SV h0=>da.of T.mix T.c259 ?_⟩;obtain⟨ts,QV⟩:∃ts,ts=aU 19 ([]++ [.func (.yield l) [] []]++ [.ptr b 0]):=⟨_,rfl⟩;have hlen:ts.length=19:=by rw[QV];rfl
 have t0:slot ts 0= .func (.yield l) [] []:=by rw[QV];rfl
 have t1:slot ts 1= .ptr b 0:=by rw[QV];rfl
 unfold fn259;show WC P bR _ [] (aU 19 ([]++ [.func (.yield l) [] []]++ [.ptr b 0])) h1 _;rw[←QV];clear QV;have p0:=hpre 0 h1 h0;have l0:∀{n o},aq n (.ptr b o) (fun z=>h1[z]?)=dE n o (.b [s]):=fun {_ _}=>az p0.1
 have e0:IntKind.i64.wrap ((X.length:Int) - 1)= (X.length:Int) - 1 - (0:Nat):=by rw[bo Om Om];omega
 refine Rs (A5 t0 t1 @l0 p0.2.aL e0) ?_;refine WL.inv T.mix (fun n ts h'=>∃k:Nat,k≤X.length∧n=X.length - k∧J k h'∧ts.length=19∧slot ts 0= .func (.yield l) [] []∧slot ts 1= .ptr b 0∧slot ts 3= .i ((X.length:Int) - 1 - k)) X.length
  ⟨0,Om,rfl,h0,Sn,(Sq t0),(Sq t1),(Sq t0)⟩ ?_
 clear t0 t1 hlen l0 p0;clear ts;rintro _ ts h' ⟨k,hk,rfl,hJ,hlen,t0,t1,t3⟩;obtain⟨p1,p2⟩:=hpre _ _ hJ;have l0:∀{n o},aq n (.ptr b o) (fun z=>h'[z]?)=dE n o (.b [s]):=fun {_ _}=>az p1
 by_cases hlt:k < X.length
 ·have hj:X.length - 1 - k < X.length:=Om
  have ei: (X.length:Int) - 1 - k= ((X.length - 1 - k:Nat):Int):=Om
  have e3:decide ((0:Int)≤((X.length - 1 - k:Nat):Int))=true:=X7 Om;have ix:=p2.dI (kk:=.i64) hj;have ld:aq (some 4) (cV s 4 (X.length - 1 - k)) (fun b=>h'[b]?)=some (.agg (aV X[X.length - 1 - k]),.au):=p2.kR hj (Ext.refl _);have hwk:IntKind.i64.wrap (((X.length - 1 - k:Nat):Int) - 1)= (X.length:Int) - 1 - ((k+1:Nat):Int):=by rw[bo Om Om];omega
  rw[ei]at t3;refine Rs (A7 t0 t1 t3 @l0 e3 ix @ld) ?_;obtain⟨bb,k',q1,q2⟩:=RF k (by rw[iZ];exact hlt) h' hJ;rw[tD]at q1;refine WF.J8 q1 ?_;cases bb with
  | true=>
   refine Rs (A5 t0 t1 t3 @Yw @hwk) ?_;exact⟨_,Om,k+1,Om,rfl,q2,rfl⟩
  | false=>
   refine Rs (A4 t0 t1 t3 @Yz) ?_;exact q2
 ·have e3:decide ((0:Int)≤(X.length:Int) - 1 - k)=false:=X3 Om;have e4:k=X.length:=Om
  refine Rs (A4 t0 t1 t3 e3) ?_;refine SV h' ?_;rw[iZ,←e4];exact hJ
def r119{V}(o:aC h V)(m:By):ay P 119 [.agg V.row,.str m] h (fun v h'=>v= .func (.func 214) [] [.ptr (h.length+1) 0,.ptr h.length 0]∧qd V m (h.length+1) h.length h'):=by
 refine .eD 6 T.mix T.c119 ?_;intro ts hlen t0 t1;unfold fn119;have QU:=@aC.box _ _ o;have hl2: (h++ [ak.b V.row]).length=h.length+1:=Si
 refine Rs (A3 t0 t1 @QU) ?_;rw[hl2];refine⟨rfl,?_,uq,o.ext Xx⟩;rw[←hl2];exact ba
def rv{V:RV}(l:eC V)(hin:∀x∈V.aD,x.1.bw.length < 2^30)(m:By)(cm cr:Nat):
  IterM P 214 [] [.ptr cm 0,.ptr cr 0] ((iC V m).map fun x=>[.agg (aV x)]) (qd V m cm cr):=by
 refine⟨fun lp h J Dn hpre happ RF SV hlp p0 h0=>da.of T.mix T.c214 ?_⟩;obtain⟨ts,QV⟩:∃ts,ts=aU 56 ([]++ [.func (.yield lp) [] []]++ [.ptr cm 0,.ptr cr 0]):=⟨_,rfl⟩;have hlen:ts.length=56:=by rw[QV];rfl
 have t0:slot ts 0= .func (.yield lp) [] []:=by rw[QV];rfl
 have t1:slot ts 1= .ptr cm 0:=by rw[QV];rfl
 have t2:slot ts 2= .ptr cr 0:=by rw[QV];rfl
 show WC P bR (fn214).body [] (aU 56 ([]++ [.func (.yield lp) [] []]++ [.ptr cm 0,.ptr cr 0])) h _;rw[←QV,KT];clear QV;obtain⟨RR,RT⟩:∃RR,RR=N3:=⟨_,rfl⟩;obtain⟨RA,Wy⟩:∃RA,RA=Hu.DT:=⟨_,rfl⟩;obtain⟨RB,Wx⟩:∃RB,RB=Hu.Dc:=⟨_,rfl⟩;rw[←RT,←Wy,←Wx];unfold KU fn214;simp only[ai.tl,ai.hd];have lm:=@fH _ _ _ p0.m;have lr:=@fH _ _ _ p0.r;have u0:tZ .s (.map h.length) (.str m) (.bool true) (fun z=>(h++ [ak.bn []])[z]?)=some (aA,.set h.length (.bn ([(m,true)].map dw))):=rj (M:=[]) ba;refine Rs (nv t0 t1 t2 @lm @lr @jc @u0 @fN @CF @Ke) ?_;refine WF.res T.c215 (r215 T p0.o.i3.one) ?_;rintro _ g1 ⟨rfl,hg⟩;have hg:=ZU hg
 subst hg;refine Rs (A3 t0 t1 t2) ?_;have hlV:V.an.aD.length=V.aD.length:=by simp[RV.an]
 refine WC.iter T.mix T.c259 (a:=[]) (c:=[.ptr (h++ [ak.bn (List.map dw [(m,true)])]++ [ak.b [AV.map h.length]]).length 0]) (Sq t0) (zZ T (s:=V.s3) (X:=V.aD) (by have:=l.l3;omega)) (fun y hy=>by obtain⟨z,_,rfl⟩:=YA.1 hy;rfl)
  (fun i h' g=>∃M:List (By×Bool),h' =h++ [ak.bn (M.map dw)]++ [ak.b [AV.map h.length]]++ [ak.b [V.s3]]∧∀w,gj M w=decide (w∈cN m (V.an.aD.reverse.take i))) (fun _ _ _=>False)
  ⟨[(m,true)],rfl,fun w=>?_⟩ (fun i h' g g' hI=>hI) (fun i h' g X hl hI=>?_) (fun i hi h' g R B Q7 hI=>?_) (fun e h' g hl hI=>?_)
 ·show(if w=m then true else false)=decide (w∈[m]);by_cases hw:w=m<;>simp[hw]
 ·obtain⟨M,rfl,_⟩:=hI;refine⟨?_,p0.o.i3.ext Xx⟩;have e: (h++ [ak.bn (List.map dw [(m,true)])]++ [ak.b [AV.map h.length]]).length= (h++ [ak.bn (M.map dw)]++ [ak.b [AV.map h.length]]).length:=Si
  rw[e];exact Ar
 ·obtain⟨M,rfl,hM⟩:=hI;have hi':i < V.aD.length:=by rw[←iZ];exact hi
  have hj:V.aD.length - 1 - i < V.aD.length:=Om
  rw[tD,Wy];have RC:V.aD[V.aD.length - 1 - i]∈V.aD:=Yi _;have hxr:V.an.aD.reverse[i]'(by rw[ZZ];omega)= (V.aD[V.aD.length - 1 - i]).1:=by
   rw[List.getElem_reverse];simp only[RV.an,Zf,Ya]
  have hns:=zT (m:=m) (l:=V.an.aD.reverse) (i:=i) (by rw[ZZ];omega);rw[hxr]at hns;generalize V.aD[V.aD.length - 1 - i]=x at *;have ox:=p0.o.jd.2.1 x RC;unfold Hu KU fn214;simp only[ai.tl,ai.hd,ai.HT,ai.DT,setArgs,aV];refine Rs (A4 t0 t1 t2 @ox) ?_;refine⟨_,g++ [ak.b [AV.str x.1.name,.str x.1.gives,.str x.1.line,x.2]],by rw[←X4],Q7,?_⟩;have xin:=p0.o.e3 x RC;rw[Wx];refine WC.F7 (B4 T (x:=x) (mb:=h.length) (bb:=(h++ [ak.bn (List.map dw [(m,true)])]).length) (xb:=(h++ [ak.bn (List.map dw M)]++ [ak.b [AV.map h.length]]++ [ak.b [V.s3]]++ [R]++g).length)
   (Hm:=fun M=>h++ [ak.bn (List.map dw M)]++ [ak.b [AV.map h.length]]++ [ak.b [V.s3]]++ [B]++ (g++ [ak.b (aV x)]))
   (fun M=>uo) (fun M=>?_) (fun M'=>?_) (fun M K=>?_) (fun M=>xin.ext Xx) (hin x RC) ?_ (Sq t0) (Sq t0) hM) ?_
  ·have eL: (h++ [ak.bn (List.map dw [(m,true)])]).length= (h++ [ak.bn (List.map dw M)]).length:=Si
   rw[eL];exact sE
  ·have eL: (h++ [ak.bn (List.map dw M)]++ [ak.b [AV.map h.length]]++ [ak.b [V.s3]]++ [B]++g).length= (h++ [ak.bn (List.map dw M')]++ [ak.b [AV.map h.length]]++ [ak.b [V.s3]]++ [B]++g).length:=Si
   rw[←X4];have eR: (h++ [ak.bn (List.map dw M)]++ [ak.b [AV.map h.length]]++ [ak.b [V.s3]]++ [R]++g).length= (h++ [ak.bn (List.map dw M')]++ [ak.b [AV.map h.length]]++ [ak.b [V.s3]]++ [B]++g).length:=Si
   rw[eR];exact ba
  ·exact Bk
  ·simp only[bE,hlen]
  ·rintro e _ _ ⟨rfl,M',rfl,hM'⟩;refine⟨_,_,rfl,Si,?_⟩;rw[Yh rfl];exact⟨M',rfl,fun w=>by rw[hM',hns]⟩
 ·by_cases Ry:e= .normal
  case neg=>rw[Yd Ry]at hI;exact hI.elim
  subst Ry;rw[Yh rfl]at hI;obtain⟨M,rfl,hM⟩:=hI;have hM:∀w,gj M w=decide (w∈cN m V.an.aD.reverse):=fun w=>by
   rw[hM,YN (by rw[ZZ,iZ,hlV];exact Yg _)]
  rw[RT];obtain⟨K0,Vr⟩:∃K0,K0=h++ [ak.bn (M.map dw)]++ [ak.b [AV.map h.length]]++ [ak.b [V.s3]]++ [ak.dead]++g:=⟨_,rfl⟩;have eK:Ext h K0:=by rw[Vr];exact Xx
  have k1:K0[h.length]? =some (.bn (M.map dw)):=by rw[Vr];exact uo
  have k2:K0[(h++ [ak.bn (List.map dw [(m,true)])]).length]? =some (.b [AV.map h.length]):=by
   have eL: (h++ [ak.bn (List.map dw [(m,true)])]).length= (h++ [ak.bn (List.map dw M)]).length:=Si
   rw[Vr,eL];exact sE
  have hJ0:J K0.length 0 K0:=by
   obtain⟨g',Rj⟩:=eK;have:=h0 g'
   rwa [←Rj]at this
  have VF: (h++ [ak.bn (List.map dw [(m,true)])]).length < K0.length:=by rw[Vr];simp only[X2,X8,X9];omega
  have hbb: (h++ [ak.bn (List.map dw [(m,true)])]).length=h.length+1:=Si
  rw[←Vr];generalize K0.length=mm at hJ0 VF;have lr0:∀{n o},aq n (.ptr cr o) (fun z=>K0[z]?)=dE n o (.b V.row):=fun {_ _}=>az (eK.some p0.r)
  have hlm3:=fun G=>p0.o.i3.aL G
  unfold N3 fn214;simp only[ai.tl];refine Rs (A6 t0 t1 t2 @lr0 @fN @hlm3) ?_;rw[hbb]at k2 VF;refine WL.inv T.mix (fun n ts h'=>∃k:Nat,k≤V.aD.length∧n=V.aD.length - k∧J mm ((V.aD.take k).filter fun x=>decide (x.1.name∈cN m V.an.aD.reverse)).length h'∧h'[h.length]? =some (.bn (M.map dw))∧h'[h.length+1]? =some (.b [AV.map h.length])∧
    ts.length=56∧slot ts 0= .func (.yield lp) [] []∧slot ts 4= .ptr (h.length+1) 0∧slot ts 39=V.s3∧slot ts 40= .i V.aD.length∧slot ts 41= .i k) V.aD.length
   ⟨0,Om,rfl,hJ0,k1,k2,Sn,(Sq t0),(Sq (A2 t0 @hbb)),(Sq t0),(Sq t0),hP⟩ ?_
  clear t0 t1 t2 hlen lr lm u0 lr0 hJ0 k1 k2 hlm3;clear ts;rintro _ ts h' ⟨k,hk,rfl,hJ,k1,k2,hlen,t0,t4,t39,t40,t41⟩;by_cases hlt:k < V.aD.length
  ·have p1:=hpre _ _ _ hJ;have RC:V.aD[k]∈V.aD:=Yi _;have ix:=p1.o.i3.dI (kk:=.i64) hlt;have ld:aq (some 4) (cV V.s3 4 k) (fun b=>h'[b]?)=some (.agg (aV V.aD[k]),.au):=p1.o.i3.kR hlt (Ext.refl _);have ox:=p1.o.jd.2.1 _ RC;have e3:=eT hlt;have e5:IntKind.i64.wrap ((k:Int)+1)= ((k+1:Nat):Int):=wrapN (by have:=l.l3;omega);have l2:∀{z n o},Ext h' z→aq n (.ptr (h.length+1) o) (fun b=>z[b]?)=dE n o (.b [AV.map h.length]):=fun {_ _ _} e=>az (e.some k2)
   have lk:∀{C w},gW .s (.bool false) false (.map h.length) (.str w) (fun z=>(h'++ [C])[z]?)=some (.bool (gj M w),.au):=fun {C _}=>pk ((Ext.app [C] (Ext.refl h')).some k1)
   have hf:=Ad (p:=fun x:gS×AV=>decide (x.1.name∈cN m V.an.aD.reverse)) hlt;have hs:=Cm (p:=fun x:gS×AV=>decide (x.1.name∈cN m V.an.aD.reverse)) hlt;have hMx:=hM V.aD[k].1.name;generalize V.aD[k]=x at *;unfold aV at ld;cases hb:gj M x.1.name with
   | true=>
    rw[hb]at hMx;obtain⟨Um,TE⟩:=hf hMx.symm;refine Rs (GH t0 t4 t39 t40 t41 ix @ld @ox e3 @l2 @bT @lk @hb) ?_;obtain⟨bb,k',q1,q2,q3⟩:=RF mm _ (by rw[Ya];exact Um) _ (happ _ _ _ [ak.b [AV.str x.1.name,.str x.1.gives,.str x.1.line,x.2]] hJ);rw[Zf]at q1;have hf2': (iC V m)[((V.aD.take k).filter fun x=>decide (x.1.name∈cN m V.an.aD.reverse)).length]'Um=x:=TE;have q1:fg P (.func (.yield lp) [] []) [AV.agg (aV x)] (h'++ [ak.b [AV.str x.1.name,.str x.1.gives,.str x.1.line,x.2]]) (.bool bb) k':=by
     refine Eq.mp ?_ q1;congr 1;exact YC (fun y=>[AV.agg (aV y)]) hf2'
    unfold aV at q1;refine WF.J8 q1 ?_;cases bb with
    | true=>
     refine Rs (A7 t0 t4 t39 t40 t41 @Yw e5) ?_;have hlt1:=(X1.1 k1).1;have R1:=(X1.1 k2).1;refine⟨_,Om,k+1,Om,rfl,?_,?_,?_,rfl⟩
     ·rw[hs,←hMx,Yh rfl];exact q3
     ·rw[q2 _ Om Om,X5 hlt1];exact k1
     ·rw[q2 _ Om Om,X5 R1];exact k2
    | false=>
     refine Rs (A6 t0 t4 t39 t40 t41 @Yz) ?_;exact q3
   | false=>
    rw[hb]at hMx;refine Rs (AF t0 t4 t39 t40 t41 ix @ld @ox e3 @l2 @bT @lk @hb e5) ?_;have hlt1:=(X1.1 k1).1;have R1:=(X1.1 k2).1;refine⟨_,Om,k+1,Om,rfl,?_,?_,?_,rfl⟩
    ·rw[hs,←hMx,Yd De];exact happ _ _ _ _ hJ
    ·rw[X5 hlt1];exact k1
    ·rw[X5 R1];exact k2
  ·have e3:=fQ hlt;have e4:k=V.aD.length:=Om
   rw[e4,YF]at hJ;refine Rs (A6 t0 t4 t39 t40 t41 e3) ?_;refine SV mm h' ?_;rw[Ya];exact hJ
end
def Dy:ai:=((fn122).body.tl.tl).hd
def Kl:ai:=Dy.tl.HT
def Nd:ai:=(fn122).body.tl.tl.tl
def Kk: (fn122).body= .seq ((fn122).body.hd) (.seq ((fn122).body.tl.hd) (.seq (.seq Dy.hd (.block 0 (.eJ (.t 10) [11] Kl.DT Kl.Dc))) Nd)):=rfl
def G1{r N}:kV 1 0 (.map r) N (.b [.cQ])=some (aA,.set N (.b [.map r])):=rfl
def ph{V m}: (iC V m).map Prod.fst=mC V.an m:=by
 rw[iC,mC];show _=List.filter _ (List.map Prod.fst V.aD);rw[aaa];rfl
section
variable {P:Program} (T:fy P) {h:ah}
include T
def r217{x b c M}(hb:h[b]? =some (.b [.map c]))(hc:h[c]? =some (.bn (M.map dw))):ay P 217 [.agg (cp x),.ptr b 0] h (fun v _=>v= .bool (gj M x.name)):=by
 refine .eD 8 T.mix T.c217 ?_;intro ts hlen t0 t1;unfold fn217;have lb:∀{k:ah} {n':Option Nat} {a:Nat},Ext h k→aq n' (.ptr b a) (fun z=>k[z]?)=dE n' a (.b [.map c]):=fun e=>az (e.some hb)
 have lk:∀{C w},gW .s (.bool false) false (.map c) (.str w) (fun z=>(h++ [C])[z]?)=some (.bool (gj M w),.au):=fun {C _}=>pk ((Ext.app [C] (Ext.refl h)).some hc)
 unfold cp at t0;exact Rs (A5 t0 t1 @lb @bT @lk) Tv
def r122{V}(o:aC h V)(l:eC V)(hin:∀x∈V.aD,x.1.bw.length < 2^30)(m:By):ay P 122 [.agg V.row,.str m] h (fun v h'=>aK h' v 3 ((iJ V.an m).map cp)):=by
 refine .of T.mix T.c122 ?_;obtain⟨ts,QV⟩:∃ts,ts=aU 19 [.agg V.row,.str m]:=⟨_,rfl⟩;have hlen:ts.length=19:=by rw[QV];rfl
 have t0:slot ts 0= .agg V.row:=by rw[QV];rfl
 have t1:slot ts 1= .str m:=by rw[QV];rfl
 show WC P bR (fn122).body [] (aU 19 [.agg V.row,.str m]) h _;rw[←QV,Kk];clear QV;obtain⟨RR,RT⟩:∃RR,RR=Nd:=⟨_,rfl⟩;obtain⟨RA,Wy⟩:∃RA,RA=Kl.DT:=⟨_,rfl⟩;obtain⟨RB,Wx⟩:∃RB,RB=Kl.Dc:=⟨_,rfl⟩;rw[←RT,←Wy,←Wx];unfold Dy fn122;simp only[ai.tl,ai.hd];have QU:=@aC.box _ _ o;refine Rs (A6 t0 t1 @QU @CF @G1 @aG) ?_;obtain⟨H0,U5⟩:∃H0,H0=h++ [ak.b V.row]:=⟨_,rfl⟩;have e0:Ext h H0:=by rw[U5];exact Xx
 rw[←U5];refine WF.res T.c119 (r119 T (o.ext (e0.trans Xx)) m) ?_;rintro _ g1 ⟨rfl,hp⟩;refine Rs (A2 t0 t1) ?_;obtain⟨cm,Vp⟩:∃cm,cm= (H0++ [ak.bn []]++ [ak.b [AV.map H0.length]]).length:=⟨_,rfl⟩;rw[←Vp]at hp ⊢;have pmap:∀ (M:List (By×Bool)) (Z:ah),qd V m (cm+1) cm (H0++ [ak.bn (M.map dw)]++ [ak.b [AV.map H0.length]]++g1++Z):=by
  intro M Z;have hne:∀b,b≠H0.length→(H0++ [ak.bn (M.map dw)]++ [ak.b [AV.map H0.length]]++g1)[b]? = (H0++ [ak.bn []]++ [ak.b [AV.map H0.length]]++g1)[b]? :=fun b hb=>by
   have:=qv (A:=H0) (B:=[ak.b [AV.map H0.length]]++g1) (K:=ak.bn (M.map dw)) (K':=ak.bn []) (b:=b) hb
   simpa only[X4]using this
  have hcl:cm=H0.length+2:=by rw[Vp];simp
  refine qd.ext ⟨(hne _ Om).trans hp.m,(hne _ Om).trans hp.r,(o.ext e0).ext Xx⟩ (Ext.app Z (Ext.refl _))
 refine WC.iterM T.mix T.c214 (a:=[]) (c:=[.ptr (cm+1) 0,.ptr cm 0]) (Sq t0) (rv T l hin m (cm+1) cm) (fun y hy=>by obtain⟨z,_,rfl⟩:=YA.1 hy;rfl)
  (fun mm i h' g=>∃M:List (By×Bool),h' =H0++ [ak.bn (M.map dw)]++ [ak.b [AV.map H0.length]]++g1∧mm≤h'.length+1+g.length∧∀w,gj M w=decide (w∈((iC V m).take i).map fun x=>x.1.line)) (fun _ _ _=>False)
  (fun g=>⟨[],rfl,Yg _,fun w=>rfl⟩) (fun mm i h' g g' hI=>by obtain⟨M,a1,a2,a3⟩:=hI;exact⟨M,a1,by rw[X2];omega,a3⟩) (fun X=>pmap [] [X]) (fun mm i h' g X hl hI=>?_) (fun mm i hi h' g R B Q7 hI=>?_) (fun e h' g hl hI=>?_)
 ·obtain⟨M,rfl,_⟩:=hI;rw[X4 (H0++ [ak.bn (M.map dw)]++ [ak.b [AV.map H0.length]]++g1)];exact pmap M _
 ·obtain⟨M,rfl,VF,hM⟩:=hI;have hi':i < (iC V m).length:=by simpa using hi
  rw[Zf,Wy,Wx];have RC: (iC V m)[i]∈V.aD:=(Zk.1 (Yi hi')).1;have Rh: ((iC V m).take (i+1)).map (fun x=>x.1.line)= ((iC V m).take i).map (fun x=>x.1.line)++ [(iC V m)[i].1.line]:=by
   rw[YM,X6 hi',Yc];rfl
  generalize (iC V m)[i]=x at *;have ox:=o.jd.2.1 x RC;have eL:∀K:List (By×Bool),(H0++ [ak.bn (K.map dw)]).length= (H0++ [ak.bn []]).length:=fun K=>by simp
  have u0:∀{Z Y:ah},tZ .s (.map H0.length) (.str x.1.line) (.bool true) (fun z=>(H0++ [ak.bn (M.map dw)]++ [ak.b [AV.map H0.length]]++g1++ [B]++Z++Y)[z]?)=some (aA,.set H0.length (.bn ((rI M x.1.line true).map dw))):=fun {Z Y}=>rj CR
  have lb:∀{Z Y:ah} {n a},aq n (.ptr (H0++ [ak.bn []]).length a) (fun z=>(H0++ [ak.bn (M.map dw)]++ [ak.b [AV.map H0.length]]++g1++ [B]++Z++Y)[z]?)=dE n a (.b [.map H0.length]):=fun {Z Y _ _}=>by
   rw[←eL M];exact az uo
  have lx:∀{n a},aq n (.ptr (H0++ [ak.bn (M.map dw)]++ [ak.b [AV.map H0.length]]++g1++ [R]++g).length a) (fun z=>(H0++ [ak.bn (M.map dw)]++ [ak.b [AV.map H0.length]]++g1++ [B]++g++ [ak.b [AV.str x.1.name,.str x.1.gives,.str x.1.line,x.2]])[z]?)=dE n a (.b [AV.str x.1.name,.str x.1.gives,.str x.1.line,x.2]):=fun {_ _}=>by
   have: (H0++ [ak.bn (M.map dw)]++ [ak.b [AV.map H0.length]]++g1++ [R]++g).length= (H0++ [ak.bn (M.map dw)]++ [ak.b [AV.map H0.length]]++g1++ [B]++g).length:=Si
   rw[this];exact az ba
  unfold Kl Dy fn122;simp only[ai.tl,ai.hd,ai.HT,ai.DT,ai.Dc,setArgs,aV];refine Rs (A3 t0 t1 @ox) ?_;refine⟨_,g++ [ak.b [AV.str x.1.name,.str x.1.gives,.str x.1.line,x.2]],by rw[←X4],Q7,?_⟩;rw[←X4];refine Rs (A7 t0 t1 @ox @lb @lx @jc @u0) ?_;refine⟨_,g++ [ak.b [AV.str x.1.name,.str x.1.gives,.str x.1.line,x.2]],by rw[←X4],Si,fun y hy=>X5 ?_,_,rfl,?_,fun w=>?_⟩
  ·simp only[X2,X8,X9]at hy VF;omega
  ·simp only[X2,X8,X9]at VF ⊢;omega
  ·rw[rK,Rh];by_cases hw:w=x.1.line
   ·rw[Yh hw];simp[hw]
   ·rw[Yd hw,hM];simp[hw]
 ·by_cases Ry:e= .normal
  case neg=>rw[Yd Ry]at hI;exact hI.elim
  subst Ry;rw[Yh rfl]at hI;obtain⟨mm,M,rfl,_,hM⟩:=hI;rw[Ya,YF]at hM;rw[RT];have eL: (H0++ [ak.bn (M.map dw)]).length= (H0++ [ak.bn []]).length:=Si
  obtain⟨K0,Vr⟩:∃K0,K0=H0++ [ak.bn (M.map dw)]++ [ak.b [AV.map H0.length]]++g1++ [ak.dead]++g:=⟨_,rfl⟩;have eK:Ext H0 K0:=by rw[Vr];exact Xx
  have k1:K0[H0.length]? =some (.bn (M.map dw)):=by rw[Vr];exact uo
  have k2:K0[(H0++ [ak.bn []]).length]? =some (.b [AV.map H0.length]):=by
   rw[Vr,←eL];exact sE
  rw[←Vr];have lr:∀{k n a},Ext K0 k→aq n (.ptr h.length a) (fun z=>k[z]?)=dE n a (.b V.row):=fun {_ _ _} e=>az ((eK.trans e).some (by rw[U5];exact ba))
  unfold Nd fn122;simp only[ai.tl];refine Rs (A4 t0 t1 @lr @ga) ?_;refine WF.res T.c216 (r216 T (o.i0.ext (e0.trans (eK.trans Xx))) (by have:=l.l0;omega) (fun x=>gj M x.name) (fun x hx k e=>bF.of (a:=[]) (c:=[.ptr (H0++ [ak.bn []]).length 0]) T.c217 (r217 T (e.some k2) (e.some k1)))) ?_;rintro s1 g2 hf;have eh:=e0.trans eK;have es:V.lines.filter (fun x=>gj M x.name)=iJ V.an m:=by
   refine List.filter_congr fun x _=>?_
   rw[hM,←ph,ZK];rfl
  rw[es]at hf;have:=hf.aX;refine Rs (A2 t0 t1) ?_;exact⟨Ext.app _ eh,this⟩
end
def fO(x:Nat×Bool):List AV:=[.i (x.1:Int),.bool x.2]
def jS:Kd→AV
 | .ee=>.nilFunc
 | .line=>.func (.func 148) [] []
 | .tape=>.func (.func 151) [] []
 | .gg=>.func (.func 155) [] []
 | .copy=>.func (.func 157) [] []
 | .accept=>.func (.func 159) [] []
 | .source=>.func (.func 161) [] []
 | .fP=>.func (.func 163) [] []
 | .merge=>.func (.func 165) [] []
 | .run=>.func (.func 167) [] []
 | .fM=>.func (.func 169) [] []
 | .fail=>.func (.func 171) [] []
 | .gh=>.func (.func 173) [] []
 | .rel=>.func (.func 175) [] []
def pn:Kd→AV
 | .ee=>.nilFunc
 | .line=>.func (.func 149) [] []
 | .tape=>.func (.func 152) [] []
 | .gg=>.func (.func 156) [] []
 | .copy=>.func (.func 158) [] []
 | .accept=>.func (.func 160) [] []
 | .source=>.func (.func 162) [] []
 | .fP=>.func (.func 164) [] []
 | .merge=>.func (.func 166) [] []
 | .run=>.func (.func 168) [] []
 | .fM=>.func (.func 170) [] []
 | .fail=>.func (.func 172) [] []
 | .gh=>.func (.func 174) [] []
 | .rel=>.func (.func 176) [] []
def Eg:Kd→Option Nat
 | .ee=>none
 | .line=>some 0
 | .tape=>some 3
 | .gg=>some 1
 | .copy=>some 3
 | .accept=>some 0
 | .source=>some 1
 | .fP=>none
 | .merge=>none
 | .run=>none
 | .fM=>none
 | .fail=>none
 | .gh=>none
 | .rel=>none
def yq(h:ah)(d:Kd)(v:AV):Prop:=
 match Eg d with
 | none=>v= .nilFunc
 | some 3=>v= .func (.func 153) [] []
 | some i=>∃b,v= .func (.func 240) [] [.ptr b 0]∧h[b]? =some (.b [.i (i:Int)])
structure AD(h:ah)(d:Kd)(v:AV):Prop where
 ex:∃rs a,v= .agg [rs,.i (cB d:Int),jS d,pn d,a]∧aK h rs 2 ((bL d).map fO)∧a.one=true∧yq h d a
def Oh(vf:Kd→AV):List (AV×AV):=Ga.map fun d=>(.str (bu d),vf d)
structure uG(h:ah)(r:Nat)(vf:Kd→AV):Prop where
 m:h[r]? =some (.bn (Oh vf))
 k:∀d,AD h d (vf d)
theorem y6{vf:Kd→AV}{k:By}:∀{L:List Kd},jg .s (.str k) (L.map fun d=>(AV.str (bu d),vf d))=some ((L.find? fun d=>bu d==k).map vf)
 | []=>rfl
 | d::L=>by
  rw[YY,List.find?_cons];by_cases hk:k=bu d
  ·subst hk;simp only[jg,de,BEq.rfl,ZY]
  ·have h1: (k==bu d)=false:=by simp[hk]
   have h2: (bu d==k)=false:=by simp[Zv hk]
   simp only[jg,de,h1,h2];exact y6
def uG.look{h:ah}{r:Nat}{vf:Kd→AV}(o:uG h r vf){z:AV}{ok:Bool}{k:By}:gW .s z ok (.map r) (.str k) (fun b=>h[b]?)=lF z ok ((gJ k).map vf):=rn o.m y6
def GF(h g:ah)(s:AV)(rs:List (Nat×Bool)):Prop:=∀X,aK (h++ [X]++g) s 2 (rs.map fO)
theorem GF.app{h g s rs}(o:GF h g s rs)(g':ah):GF h (g++g') s rs:=fun X=>by rw[←X4];exact(o X).app g'
def QT(h g:ah)(b:Nat)(i:Int):Prop:=∀X,(h++ [X]++g)[b]? =some (ak.b [.i i])
theorem yq.app{h d v}(o:yq h d v)(g:ah):yq (h++g) d v:=by
 unfold yq at *;split at o
 ·exact o
 ·exact o
 ·obtain⟨b,h1,h2⟩:=o;exact⟨b,h1,(Ext.app g (Ext.refl _)).some h2⟩
theorem AD.app{h d v}(o:AD h d v)(g:ah):AD (h++g) d v:=by
 obtain⟨rs,a,e,hs,ha,hb⟩:=o.ex;exact⟨rs,a,e,hs.app g,ha,hb.app g⟩
def lH(ds:List Kd)(vf:Kd→AV):List (AV×AV):=ds.map fun d=>(.str (bu d),vf d)
def Ef(vf:Kd→AV)(d:Kd)(v:AV):Kd→AV:=fun x=>if x=d then v else vf x
def AI(a:Nat)(F:List (Nat×AV)):Bool:=decide (a < 56) && decide (a≠1) && F.all fun p=>decide (p.1≠a)
structure rS(h:ah)(ts:TS)(g:ah)(ds:List Kd)(vf:Kd→AV)(F:List (Nat×AV)):Prop where
 l:ts.length=56
 m:slot ts 1= .map h.length
 f:∀p∈F,slot ts p.1=p.2
 e:∀d∈ds,∀X,AD (h++ [X]++g) d (vf d)
def rS.put{h ts g ds vf F}(s:rS h ts g ds vf F){a v}(g':ah)(hc:AI a F=true):rS h (ts.set a v) (g++g') ds vf ((a,v)::F):=by
 simp only[AI,YD,YO,YE]at hc;have hl:a+1≤ts.length:=by rw[s.l];omega
 refine⟨by simp only[bE,s.l],by simp only[bE,ZB hc.1.2,s.m],fun p hp=>?_,fun d hd X=>?_⟩
 ·rcases YH.1 hp with rfl| hp
  ·simp only[bE,hl]
  ·simp only[bE,ZB (fun e=>hc.2 p hp (Eq.symm e)),s.f p hp]
 ·rw[←X4];exact(s.e d hd X).app g'
theorem AQ{vf k v}:∀{ds},ds.all (fun x=>!(bu x==k))=true→o7 .s (.str k) v (lH ds vf)=some (lH ds vf++ [(.str k,v)])
 | [],_=>rfl
 | d::ds,hd=>by
  rw[ZF,YD]at hd;have h2: (bu d==k)=false:=by simpa using hd.1
  have h3:¬bu d=k:=by simpa using hd.1
  have h1: (k==bu d)=false:=by simp[Zv h3]
  have:=AQ (vf:=vf) (v:=v) hd.2;unfold lH at *;simp only[YY,o7,de,h1,h2,this,ZY,Zj]
def iw:AV.one .nilFunc=true:=rfl
section
variable {P:Program} (T:fy P) {h:ah}
include T
def r147(t:Int):ay P 147 [.i t] h (fun v _=>v= .agg [.i t,.bool false]):=by
 refine .of T.mix T.c147 ?_;unfold fn147;exact Wn Tv
def r154(t:Int):ay P 154 [.i t] h (fun v _=>v= .agg [.i t,.bool true]):=by
 refine .of T.mix T.c154 ?_;unfold fn154;exact Wn Tv
def r150(i:Int):ay P 150 [.i i] h (fun v h'=>v= .func (.func 240) [] [.ptr h.length 0]∧h' =h++ [.b [.i i]]):=by
 refine .of T.mix T.c150 ?_;unfold fn150 yC;exact Wn Tv
section
variable {ks:List Kt} {ts:TS} {Q:Ex→TS→ah→Prop} {g:ah} {ds:List Kd} {vf:Kd→AV} {F:List (Nat×AV)} {a:Nat} {l:List bJ}
def jt{t}(s:rS h ts g ds vf F)(hc:AI a F=true)(K:∀ts' g',rS h ts' (g++g') ds vf ((a,.agg [.i t,.bool false])::F)→WP P bR l ks ts' (h++ [.bn (lH ds vf)]++ (g++g')) Q):
  WP P bR (.c a 147 [.c (.i t)]::l) ks ts (h++ [.bn (lH ds vf)]++g) Q:=by
 refine Wn ?_;refine WF.ce T.c147 (r147 T t) fun g1=>?_
 exact z160
def js{t}(s:rS h ts g ds vf F)(hc:AI a F=true)(K:∀ts' g',rS h ts' (g++g') ds vf ((a,.agg [.i t,.bool true])::F)→WP P bR l ks ts' (h++ [.bn (lH ds vf)]++ (g++g')) Q):
  WP P bR (.c a 154 [.c (.i t)]::l) ks ts (h++ [.bn (lH ds vf)]++g) Q:=by
 refine Wn ?_;refine WF.ce T.c154 (r154 T t) fun g1=>?_
 exact z160
def Eh{t}(s:rS h ts g ds vf F)(hc:AI a F=true)(K:∀ts' g' b,rS h ts' (g++g') ds vf ((a,.func (.func 240) [] [.ptr b 0])::F)→QT h (g++g') b t→WP P bR l ks ts' (h++ [.bn (lH ds vf)]++ (g++g')) Q):
  WP P bR (.c a 150 [.c (.i t)]::l) ks ts (h++ [.bn (lH ds vf)]++g) Q:=by
 refine Wn ?_;refine WF.res T.c150 (r150 T t) ?_;rintro _ g1 ⟨rfl,hg⟩;have hg:=ZU hg;subst hg;rw[X4 (h++ [ak.bn (lH ds vf)]) g];refine K _ _ _ (s.put _ hc) fun X=>?_
 have e: (h++ [ak.bn (lH ds vf)]++g).length= (h++ [X]++g).length:=Si
 rw[e,←X4];exact ba
theorem Cc{N}(s:rS h ts g ds vf F)(hc:AI a []=true){n xs}(hN:N= (h++ [ak.bn (lH ds vf)]++g).length)(hn:xs.length=n)(K:∀ts' g' s,rS h ts' (g++g') ds vf [(a,s)]→GF h (g++g') s xs→WP P bR l ks ts' (h++ [.bn (lH ds vf)]++ (g++g')) Q):
  WP P bR l ks (ts.set a (.slice N 0 n 2)) (h++ [.bn (lH ds vf)]++g++ [.cells (xs.map fO).flatten true true]) Q:=by
 subst hN;subst hn;rw[X4 (h++ [ak.bn (lH ds vf)]) g];have s0:rS h ts g ds vf []:=⟨s.l,s.m,fun _ hp=>(by cases hp),s.e⟩;refine K _ _ _ (s0.put _ hc) fun X=>?_
 have e: (h++ [ak.bn (lH ds vf)]++g).length= (h++ [X]++g).length:=Si
 rw[e,←X4];have:=(Fr.push (N:=0) (h:=h++ [X]++g) (YB _) (xs.map fO) (es:=2) (by intro c hc;obtain⟨x,_,rfl⟩:=YA.1 hc;rfl)).aX
 rwa [Ya]at this
def tr{a0 x0}(s:rS h ts g ds vf [(a0,.agg (fO x0))])(hc:AI a []=true)(K:∀ts' g' s,rS h ts' (g++g') ds vf [(a,s)]→GF h (g++g') s [x0]→WP P bR l ks ts' (h++ [.bn (lH ds vf)]++ (g++g')) Q):
  WP P bR (.o a (.aE 2 1 [.i 0,.bool false] [(0,.t a0)])::l) ks ts (h++ [.bn (lH ds vf)]++g) Q:=by
 have s0:slot ts a0= .agg [.i (x0.1:Int),.bool x0.2]:=s.f (a0,.agg (fO x0)) Si;refine Ws @s0 ?_;exact Cc T s hc rfl rfl K
def vJ{a0 a1 x0 x1}(s:rS h ts g ds vf [(a1,.agg (fO x1)),(a0,.agg (fO x0))])(hc:AI a []=true)(K:∀ts' g' s,rS h ts' (g++g') ds vf [(a,s)]→GF h (g++g') s [x0,x1]→WP P bR l ks ts' (h++ [.bn (lH ds vf)]++ (g++g')) Q):
  WP P bR (.o a (.aE 2 2 [.i 0,.bool false] [(0,.t a0),(2,.t a1)])::l) ks ts (h++ [.bn (lH ds vf)]++g) Q:=by
 have s0:slot ts a0= .agg [.i (x0.1:Int),.bool x0.2]:=s.f (a0,.agg (fO x0)) Si;have s1:slot ts a1= .agg [.i (x1.1:Int),.bool x1.2]:=s.f (a1,.agg (fO x1)) Si;refine Ws (A2 @s0 @s1) ?_;exact Cc T s hc rfl rfl K
def Gc{a0 a1 a2 x0 x1 x2}(s:rS h ts g ds vf [(a2,.agg (fO x2)),(a1,.agg (fO x1)),(a0,.agg (fO x0))])(hc:AI a []=true)(K:∀ts' g' s,rS h ts' (g++g') ds vf [(a,s)]→GF h (g++g') s [x0,x1,x2]→WP P bR l ks ts' (h++ [.bn (lH ds vf)]++ (g++g')) Q):
  WP P bR (.o a (.aE 2 3 [.i 0,.bool false] [(0,.t a0),(2,.t a1),(4,.t a2)])::l) ks ts (h++ [.bn (lH ds vf)]++g) Q:=by
 have s0:slot ts a0= .agg [.i (x0.1:Int),.bool x0.2]:=s.f (a0,.agg (fO x0)) Si;have s1:slot ts a1= .agg [.i (x1.1:Int),.bool x1.2]:=s.f (a1,.agg (fO x1)) Si;have s2:slot ts a2= .agg [.i (x2.1:Int),.bool x2.2]:=s.f (a2,.agg (fO x2)) Si;refine Ws (A3 @s0 @s1 @s2) ?_;exact Cc T s hc rfl rfl K
theorem Lg{v}:WP P bR [.o a (.aF (.c v))] ks ts h Q=WE P bR .normal ks (ts.set a v) h Q:=by
 unfold bJ.o;rw[C7,C5,yv,pP]
theorem Lh:WP P bR (.o a .lE::l) ks ts h Q=WP P bR l ks (ts.set a (.map h.length)) (h++ [.bn []]) Q:=wB
theorem Gb{z ps v}(d:Kd)(s:rS h ts g ds vf F)(hc:AI a []=true)(hd:ds.all (fun x=>!(bu x==bu d))=true)
  (hv:rH (eF z (ps.map fun p=>(p.1,p.2.1,val ts p.2.2)))=some v) (ok:∀X,AD (h++ [X]++g) d v)
  (K:∀ts',rS h ts' g (ds++ [d]) (Ef vf d v) []→WP P bR l ks ts' (h++ [.bn (lH (ds++ [d]) (Ef vf d v))]++g) Q):
  WP P bR (.o a (.build z ps):: .x (.fj .s (.t 1) (.c (.str (bu d))) (.t a))::l) ks ts (h++ [.bn (lH ds vf)]++g) Q:=by
 have e1:tZ .s (.map h.length) (.str (bu d)) v (fun b=>(h++ [ak.bn (lH ds vf)]++g)[b]?)=some (aA,.set h.length (.bn (lH ds vf++ [(.str (bu d),v)]))):=tY uq (AQ hd);have hn:∀x∈ds,x≠d:=fun x hx e=>by
  have:=YE.1 hd x hx;rw[e]at this;simp at this
 have eL:lH ds vf++ [(.str (bu d),v)]=lH (ds++ [d]) (Ef vf d v):=by
  unfold lH;rw[Yc,List.map_singleton,Ef,Yh rfl];exact YC (· ++_) (List.map_congr_left fun x hx=>by rw[Ef,Yd (hn x hx)])
 unfold bJ.o bJ.x;rw[rO,hv,ux,uC];simp only[AI,YD,YO]at hc;have hl:a+1≤ts.length:=by rw[s.l];omega
 have e2:val (put ts (some a) v) (.t 1)= .map h.length:=by
  simp only[pP,uM,bE,ZB hc.1.2,s.m]
 have e3:val (put ts (some a) v) (.t a)=v:=by simp only[pP,uM,bE,hl]
 rw[jc,e2,e3,yv,e1,rN,BT,pP];have e4: (h++ [ak.bn (lH ds vf)]++g).set h.length (.bn (lH ds vf++ [(.str (bu d),v)]))=h++ [.bn (lH ds vf++ [(.str (bu d),v)])]++g:=yK;rw[e4,eL];refine K _ ⟨by simp only[bE,s.l],by simp only[bE,ZB hc.1.2,s.m],fun _ hp=>(by cases hp),fun x hx X=>?_⟩;rcases Yb.1 hx with hx| hx
 ·rw[Ef,Yd (hn x hx)];exact s.e x hx X
 ·rw[Yt.1 hx,Ef,Yh rfl];exact ok X
def po{i f2 f3 n x4 r a4}(d:Kd)(s:rS h ts g ds vf F)(hc:AI a []=true)(hd:ds.all (fun x=>!(bu x==bu d))=true)(hi: (i,r)∈F)(hb:GF h g r (bL d))(h4:val ts x4=a4)(o4:a4.one=true)(b4:∀X,yq (h++ [X]++g) d a4)
  (hn: (cB d:Int)=n) (h2:jS d= .func (.func f2) [] []) (h3:pn d= .func (.func f3) [] [])
  (K:∀ts',rS h ts' g (ds++ [d]) (Ef vf d (.agg [r,.i n,jS d,pn d,a4])) []→WP P bR l ks ts' (h++ [.bn (lH (ds++ [d]) (Ef vf d (.agg [r,.i n,jS d,pn d,a4])))]++g) Q):
  WP P bR (.o a (.build [.af,.i 0,.nilFunc,.nilFunc,.nilFunc] [(0,1,.t i),(1,1,.c (.i n)),(2,1,.f f2),(3,1,.f f3),(4,1,x4)]):: .x (.fj .s (.t 1) (.c (.str (bu d))) (.t a))::l) ks ts (h++ [.bn (lH ds vf)]++g) Q:=by
 have s0:slot ts i=r:=s.f (i,r) hi;have o0:r.one=true:=(hb (.bn [])).one;refine Gb T d s hc hd ?_ (fun X=>⟨r,a4,by rw[hn],hb X,o4,b4 X⟩) K;exact Ws (A6 @s0 @h4 @o0 @o4 @h2 @h3) Tv
end
def r90:ay P 90 [] h (fun v h'=>∃vf,v= .map h.length∧uG h' h.length vf):=by
 refine .Qz 56 T.mix T.c90 ?_;intro ts hlen;unfold fn90;have m0:slot ((ts.set 0 AV.cQ).set 1 (.map h.length)) 1= .map h.length:=by simp only[bE,hlen,reduceAdd,reduceLeDiff]
 have l0: ((ts.set 0 AV.cQ).set 1 (.map h.length)).length=56:=by simp only[bE,hlen]
 dsimp only[ai.j,ai.s,ai.r];rw[rP,rQ,Lg T,uE,rP,rQ,Lh T];rw[←Yu (h++ [ak.bn []])];generalize (ts.set 0 AV.cQ).set 1 (.map h.length)=ts at *;clear hlen;have s:rS h ts [] [] (fun _=>aA) []:=⟨l0,m0,fun _ hp=>(by cases hp),fun _ hd=>(by cases hd)⟩;clear l0 m0;refine Gb T .ee s rfl rfl (v:=.agg [.af,.i 0,.nilFunc,.nilFunc,.nilFunc]) rfl (fun X=>⟨_,_,rfl,.nil,rfl,rfl⟩) ?_;intro ts s;refine jt T (t:=0) s rfl ?_;intro ts g s;refine tr T (x0:=(0,false)) s rfl ?_;intro ts g r s b;refine Eh T (t:=0) s rfl ?_;intro ts g p s c;refine po T .line s rfl rfl (by simp only[YH,true_or,or_true]) (b.app g) (s.f (_,_) (YV ..)) rfl (fun X=>⟨p,rfl,c X⟩) rfl rfl rfl ?_
 intro ts s;refine jt T (t:=1) s rfl ?_;intro ts g s;refine tr T (x0:=(1,false)) s rfl ?_;intro ts g r s b;refine po T .tape s rfl rfl (YV ..) b rfl rfl (fun _=>rfl) rfl rfl rfl ?_;intro ts s;refine jt T (t:=2) s rfl ?_;intro ts g s;refine js T (t:=0) s rfl ?_;intro ts g s;refine js T (t:=1) s rfl ?_;intro ts g s;refine Gc T (x0:=(2,false)) (x1:=(0,true)) (x2:=(1,true)) s rfl ?_;intro ts g r s b;refine Eh T (t:=1) s rfl ?_;intro ts g p s c;refine po T .gg s rfl rfl (by simp only[YH,true_or,or_true]) (b.app g) (s.f (_,_) (YV ..)) rfl (fun X=>⟨p,rfl,c X⟩) rfl rfl rfl ?_;intro ts s;refine js T (t:=1) s rfl ?_
 intro ts g s;refine js T (t:=1) s rfl ?_;intro ts g s;refine vJ T (x0:=(1,true)) (x1:=(1,true)) s rfl ?_;intro ts g r s b;refine po T .copy s rfl rfl (YV ..) b rfl rfl (fun _=>rfl) rfl rfl rfl ?_;intro ts s;refine js T (t:=0) s rfl ?_;intro ts g s;refine tr T (x0:=(0,true)) s rfl ?_;intro ts g r s b;refine Eh T (t:=0) s rfl ?_;intro ts g p s c;refine po T .accept s rfl rfl (by simp only[YH,true_or,or_true]) (b.app g) (s.f (_,_) (YV ..)) rfl (fun X=>⟨p,rfl,c X⟩) rfl rfl rfl ?_;intro ts s;refine jt T (t:=3) s rfl ?_;intro ts g s;refine js T (t:=0) s rfl ?_;intro ts g s;refine vJ T (x0:=(3,false)) (x1:=(0,true)) s rfl ?_
 intro ts g r s b;refine Eh T (t:=1) s rfl ?_;intro ts g p s c;refine po T .source s rfl rfl (by simp only[YH,true_or,or_true]) (b.app g) (s.f (_,_) (YV ..)) rfl (fun X=>⟨p,rfl,c X⟩) rfl rfl rfl ?_;intro ts s;refine jt T (t:=3) s rfl ?_;intro ts g s;refine js T (t:=3) s rfl ?_;intro ts g s;refine vJ T (x0:=(3,false)) (x1:=(3,true)) s rfl ?_;intro ts g r s b;refine po T .fP s rfl rfl (YV ..) b rfl rfl (fun _=>rfl) rfl rfl rfl ?_;intro ts s;refine jt T (t:=3) s rfl ?_;intro ts g s;refine js T (t:=3) s rfl ?_;intro ts g s;refine js T (t:=3) s rfl ?_;intro ts g s;refine Gc T (x0:=(3,false)) (x1:=(3,true)) (x2:=(3,true)) s rfl ?_
 intro ts g r s b;refine po T .merge s rfl rfl (YV ..) b rfl rfl (fun _=>rfl) rfl rfl rfl ?_;intro ts s;refine jt T (t:=4) s rfl ?_;intro ts g s;refine js T (t:=3) s rfl ?_;intro ts g s;refine vJ T (x0:=(4,false)) (x1:=(3,true)) s rfl ?_;intro ts g r s b;refine po T .run s rfl rfl (YV ..) b rfl rfl (fun _=>rfl) rfl rfl rfl ?_;intro ts s;refine js T (t:=4) s rfl ?_;intro ts g s;refine tr T (x0:=(4,true)) s rfl ?_;intro ts g r s b;refine po T .fM s rfl rfl (YV ..) b rfl rfl (fun _=>rfl) rfl rfl rfl ?_;intro ts s;refine js T (t:=4) s rfl ?_;intro ts g s;refine tr T (x0:=(4,true)) s rfl ?_;intro ts g r s b
 refine po T .fail s rfl rfl (YV ..) b rfl rfl (fun _=>rfl) rfl rfl rfl ?_;intro ts s;refine jt T (t:=5) s rfl ?_;intro ts g s;refine js T (t:=4) s rfl ?_;intro ts g s;refine vJ T (x0:=(5,false)) (x1:=(4,true)) s rfl ?_;intro ts g r s b;refine po T .gh s rfl rfl (YV ..) b rfl rfl (fun _=>rfl) rfl rfl rfl ?_;intro ts s;refine js T (t:=5) s rfl ?_;intro ts g s;refine tr T (x0:=(5,true)) s rfl ?_;intro ts g r s b;refine po T .rel s rfl rfl (YV ..) b rfl rfl (fun _=>rfl) rfl rfl rfl ?_;intro ts s;have hlen:=s.l;have t1:=s.m;refine Rs t1 ?_;exact⟨_,uq,fun d=>s.e d (by cases d<;>decide) _⟩
end
end Go.Abs
