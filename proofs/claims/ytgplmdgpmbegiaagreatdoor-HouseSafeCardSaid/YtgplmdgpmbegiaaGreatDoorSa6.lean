/- A part of the proof that HouseSafe holds. No condition. -/
import Derived.Test.YtgplmdgpmbegiaaGreatDoorSa4
import Derived.Test.YtgplmdgpmbegiaaGreatDoorSa0
set_option maxHeartbeats 4000000
set_option linter.all false
open Nat (reduceAdd reduceMul reduceLeDiff reduceEqDiff)
namespace Go.Abs
def fM:
  (∀{b o:Nat} {n:Option Nat} {X:ah} {K:aq} (_:b=X.length),ao n (.ptr b o) (fun z=>(X++ [K])[z]?)=cp n o K)∧
  (∀{b o:Nat} {n:Option Nat} {X a:ah} (_:b < X.length),ao n (.ptr b o) (fun z=>(X++a)[z]?)=ao n (.ptr b o) (fun z=>X[z]?))∧
  (∀{b o y:Nat} {v:AV} {X:ah} {K:aq} (_:b=X.length),aW y (.ptr b o) v (fun z=>(X++ [K])[z]?)=kL y o v b K)∧
  (∀{b o y:Nat} {v:AV} {X a:ah} (_:b < X.length),aW y (.ptr b o) v (fun z=>(X++a)[z]?)=aW y (.ptr b o) v (fun z=>X[z]?))∧
  (∀{b:Nat} {X:ah} {K K':aq} (_:b=X.length),(X++ [K]).set b K' =X++ [K'])∧
  (∀{b:Nat} {X a:ah} {K':aq} (_:b < X.length),(X++a).set b K' =X.set b K'++a)∧
  (∀{b pos:Nat} {s:By} {X:ah} (_:b=X.length),fi (.ptr b 0) (fun z=>(X++ [.iter s pos])[z]?)=dS b s pos)∧
  (∀{b:Nat} {X a:ah} (_:b < X.length),fi (.ptr b 0) (fun z=>(X++a)[z]?)=fi (.ptr b 0) (fun z=>X[z]?)):=by
 refine⟨fun h=>?_,fun h=>?_,fun h=>?_,fun h=>?_,fun h=>?_,fun h=>?_,fun h=>?_,fun h=>?_⟩
 ·subst h;exact an bf
 ·simp only[ao,c6 _ h]
 ·subst h;exact aM bf
 ·simp only[aW,c6 _ h]
 ·subst h;exact x6
 ·exact ez _ _ h
 ·subst h;exact dE bf
 ·simp only[fi,c6 _ h]
end Go.Abs
namespace Go.Abs
def mJ{h':ah}{X:aq}{g:ah}{n:Nat}(hn:h'.length=n): (h'++ [X]++g)[n]? =some X:=by
 subst hn;exact Jd
def qR{h':ah}{X Y:aq}{g:ah}{n:Nat}(hn:h'.length=n): (h'++ [X]++g).set n Y=h'++ [Y]++g:=by
 subst hn;rw[Xt,Yp _ _ (XH _),Yy,Xt];rfl
structure Iter(P:Program)(f:FuncId)(a c:List AV)(L:List (List AV))(pre:ah→Prop):Prop where
 run:∀ (l:Nat) (h:ah) (J:Nat→ah→Prop) (D:ah→Prop),(∀i k,J i k→pre k)→(∀i k g,J i k→J i (k++g))→
  (∀i (hi:i < L.length) k,J i k→∃b k',eU P (.func (.yield l) [] []) L[i] k (.bool b) k'∧(if b=true then J (i+1) k' else D k'))→
  (∀k,J L.length k→D k)→J 0 h→db P f (a++ [.func (.yield l) [] []]++c) h (fun _ k=>D k)
section
variable {P:Program} {ks:List Kt} {ts:TS} {h:ah} {Q:Ex→TS→ah→Prop}
def WC.iter(hmix:P.follows .mixedOrders=true){f A a c L pre g ps asg body}(hA:ai P f=some A)
  (hg:val ts g= .func (.func f) a c) (hi:Iter P f a c L pre) (hps:∀x∈L,x.length=ps.length) (I:Nat→ah→ah→Prop) (Fin:Ex→ah→ah→Prop)
  (h0:I 0 h []) (hcl:∀i h' g g2,I i h' g→I i h' (g++g2)) (hpre:∀i h' g X,h'.length=h.length→I i h' g→pre (h'++ [X]++g))
  (step:∀i (hi:i < L.length) h' g (R B:aq),h'.length=h.length→I i h' g→
   WC P BG asg [] (setArgs ts ps L[i]) (h'++ [R]++g) fun e1 TD h2=>e1= .normal∧∃h1 g1,h2=h1++ [R]++g1∧h1.length=h.length∧
    WC P BG body [] TD (h1++ [B]++g1) fun e2 _ h4=>∃h3 g3,h4=h3++ [B]++g3∧h3.length=h.length∧(if e2= .normal then I (i+1) h3 g3 else Fin e2 h3 g3))
  (done:∀e h' g,h'.length=h.length→(if e= .normal then I L.length h' g else Fin e h' g)→WE P bR e ks ts (h'++ [aq.dead]++g) Q):WC P bR (.eA g ps asg body) ks ts h Q:=by
 let J:Nat→ah→Prop:=fun i k=>∃h' g,k=h'++ [.loop .ready .normal ts ps asg body]++g∧h'.length=h.length∧I i h' g
 let D:ah→Prop:=fun k=>∃e h' g st,k=h'++ [.loop st e ts ps asg body]++g∧h'.length=h.length∧st≠.busy∧(if e= .normal then I L.length h' g else Fin e h' g)
 obtain⟨v,h2,hs,e,h',g',st,rfl,hl,bS,RT⟩:=hi.run h.length (h++ [.loop .ready .normal ts ps asg body]) J D
  (fun i k hJ=>by obtain⟨h',g,rfl,h1,h2⟩:=hJ;exact hpre i h' g _ h1 h2)
  (fun i k g2 hJ=>by obtain⟨h',g,rfl,h1,h2⟩:=hJ;exact⟨h',g++g2,by rw[Xt],h1,hcl _ _ _ _ h2⟩)
  (fun i hi k hJ=>by
   obtain⟨h',g,rfl,h1,h2⟩:=hJ;obtain⟨e1,TD,k2,q1,rfl,h3,g3,rfl,h4,q2⟩:=W.sound hmix (step i hi h' g (.loop .ready .normal ts ps asg body) (.loop .busy .normal ts ps asg body) h1 h2);obtain⟨e2,ts3,k3,q3,h5,g5,rfl,h6,q4⟩:=W.sound hmix q2;have hy:eU P (.func (.yield h.length) [] []) L[i] (h'++ [.loop .ready .normal ts ps asg body]++g) (.bool (decide (e2= .normal))) (List.set (h5++ [aq.loop .busy .normal ts ps asg body]++g5) h.length (aq.loop (if e2= .normal then .ready else .done) e2 ts ps asg body)):=
    eU.yield (mJ h1) (hps _ (XJ hi)) (fun r=>q1 (some r) ⟨r,rfl⟩) (mJ h4) (fun r=>by rw[qR h4];exact q3 (some r) ⟨r,rfl⟩) (mJ h6)
   rw[qR h6]at hy;refine⟨decide (e2= .normal),_,hy,?_⟩;by_cases he:e2= .normal
   ·exact Ji
   ·rw[XG he]at q4;simp only[he,XX,Yj,XO];exact⟨e2,h5,g5,.done,rfl,h6,Si,by rw[XG he];exact q4⟩)
  (fun k hJ=>by obtain⟨h',g,rfl,h1,h2⟩:=hJ;exact⟨.normal,h',g,.ready,rfl,h1,Si,by rw[XI rfl];exact h2⟩)
  ⟨h,[],by rw[XU],rfl,h0⟩
 exact Po
end
end Go.Abs
namespace Go.Abs
theorem uv:∀ (l c pre:List AV),c.length=l.length→fB (pre++c) pre.length l=pre++l
 | [],c,pre,h=>by
  exact ID
 | x::l,[],pre,h=>by simp at h
 | x::l,y::c,pre,h=>by
  have e1: (pre++y::c).set pre.length x= (pre++ [x])++c:=by
   exact z146
  have e2:pre.length+1= (pre++ [x]).length:=Si
  rw[oM,e1,e2,uv l c (pre++ [x]) (by simpa using h),Xt];rfl
theorem pM{es:Nat}{v:AV}:∀{cs:List (List AV)},(∀x∈cs,x.length=es)→∀{i off:Nat} (hi:i < cs.length),off < es→cs.flatten.set (i * es+off) v= (cs.set i (cs[i].set off v)).flatten
 | [],_,i,off,hi,_=>absurd hi (Nat.not_lt_zero _)
 | c::cs,h,0,off,hi,ho=>by
  have hc:c.length=es:=h c (Yn ..);rw[YF,ZC,Yk,List.set_append_left _ _ Om];rfl
 | c::cs,h,i+1,off,hi,ho=>by
  have hc:c.length=es:=h c (Yn ..);have h1:=pM (v:=v) (cs:=cs) (fun x hx=>h x (Yb _ hx)) (i:=i) (off:=off) (by simpa using hi) ho;rw[YF,Yp _ _ (by rw[YK];omega),show(i+1) * es+off - c.length=i * es+off by rw[YK];omega,h1];rfl
def nG{es w N0 n:Nat}{z:List AV}{k k':IntKind}(h1:w * n≤2^48)(h2:n < 2^63):sG es w z (.int k n) (.int k' n) N0=some (.slice N0 0 n es,.push (.cells (dI n z) true true)):=by
 simp only[sG];rw[XI ⟨Om,Om,by exact_mod_cast h1,by exact_mod_cast h2⟩];rfl
def Fr.Ae{N n es h z}(hN:N≤h.length)(hz:z.length=es):Fr N (h++ [.cells (dI n z) true true]) (.slice h.length 0 n es) es (List.replicate n z):=by
 have:=Fr.push (h:=h) (es:=es) hN (List.replicate n z) (fun x hx=>by rw[(List.mem_replicate.1 hx).2];exact hz);rw[YB]at this;exact this
section
variable {P:Program} {ro:Option Nat→Prop} {ks:List Kt} {ts:TS} {Q:Ex→TS→ah→Prop} {d:Option Nat} {l:List bJ}
def WR.pX{q N b es w h y ys}(hb:h[b]? =some (.cells [] true false))(hN:N≤b)(hy:aK h y es ys)(dX:ys.length * w≤2^46)
  (K:∀s' g,Fr N (h++g) s' es ys→WP P ro l ks (put ts d s') (h++g) Q):WR P ro (pa es w (.slice b 0 0 es) y (fun b=>h[b]?) h.length) q d l ks ts h Q:=by
 have hbl:b < h.length:=(Xr.1 hb).1;simp only[pa,hy.eT,XR];by_cases hk:ys.length=0
 ·have hys:ys= []:=Yw.1 hk;subst hys;simp only[XA,XR,List.flatten_nil,List.isEmpty_nil];rw[iQ];have:=K (.slice b 0 0 es) [] (by rw[XU];exact Fr.mk (cs:=[]) hN hb Si)
  rwa [XU]at this
 ·simp only[XG hk,Yk,XI dX,hb];rw[XI Si,lR];exact K _ _ (Fr.push Om ys hy.rows)
def WR.uG{α:Type}{row:α→List AV}{L:List α}{h0 g:ah}{s v:AV}{es i off:Nat}{x':α}(hs:Fr h0.length (h0++g) s es (L.map row))(hi:i < L.length)(ho:off < es)(hv:v.one=true)(hx:row x' = (row L[i]).set off v)
  (K:∀g',g'.length=g.length→Fr h0.length (h0++g') s es ((L.set i x').map row)→(∀b,(∀b0 o n e,s= .slice b0 o n e→b≠b0)→(h0++g')[b]? = (h0++g)[b]?)→WP P ro l ks (put ts d aB) (h0++g') Q):
  WR P ro (aW 1 (lh s es i off) v (fun b=>(h0++g)[b]?)) false d l ks ts (h0++g) Q:=by
 have RM:=hs.a8.rows;generalize SK:L.map row=cs at hs;have hcl:cs.length=L.length:=by rw[←SK,XB]
 cases hs with
 | nil=>simp at hcl;omega
 | @mk b _ _ tl hN hb he=>
  have QT:=ee he;have hie:i * es+off < cs.flatten.length:=by
   rw[QT,hcl];have: (i+1) * es≤L.length * es:=Yz _ hi;rw[YK]at this;omega
  have bd:cs.flatten.set (i * es+off) v= ((L.set i x').map row).flatten:=by
   have:=pM (v:=v) he (i:=i) (off:=off) Om ho;rw[this,ZD,hx,SK];congr 2;simp[←SK]
  have hbl:b < (h0++g).length:=(Xr.1 hb).1;show WR P ro (aW 1 (.ptr b (0+i * es+off)) v (fun b=>(h0++g)[b]?)) false d l ks ts (h0++g) Q;rw[Yk,aM hb,bV hv Om,rq,bd,Yp _ _ hN];refine K _ Si ?_ fun b' hb'=>?_
  ·have hl2: ((L.set i x').map row).length=cs.length:=by simp[hcl]
   rw[←hl2];refine Fr.mk hN (tl:=tl) ?_ fun y hy=>?_
   ·exact z152
   ·rw[ZD]at hy;rcases Zd hy with hy| hy
    ·exact he y (by rw[←SK];exact hy)
    ·rw[hy,hx,Yd];exact he _ (by rw[←SK];exact XZ (XJ hi))
  ·exact Jl
def WR.Lf{h0 g s sy es cs ys x y}(hx:val ts x=s)(hy:val ts y=sy)(hs:Fr h0.length (h0++g) s es cs)(hsy:aK (h0++g) sy es ys)(hl:cs.length=ys.length)
  (K:∀g' v,g'.length=g.length→Fr h0.length (h0++g') s es ys→(∀b,(∀b0 o n e,s= .slice b0 o n e→b≠b0)→(h0++g')[b]? = (h0++g)[b]?)→WP P ro l ks (put ts d v) (h0++g') Q):
  WR P ro (stepT (.vU es x y) (val ts) (fun b=>(h0++g)[b]?) (h0++g).length) false d l ks ts (h0++g) Q:=by
 simp only[stepT,mM,hx,hy,hsy.eT];have RW:=ee hsy.rows;cases hs with
 | nil=>
  have:ys= []:=Yw.1 hl.symm;subst this;simp only;rw[iQ];exact K g _ rfl .nil fun _ _=>rfl
 | @mk b _ _ tl hN hb he=>
  have hcl:=ee he;have Tu:min ys.length cs.length=ys.length:=Om
  simp only[XR,Tu];by_cases hk:ys.length=0
  ·have hys:ys= []:=Yw.1 hk;have SK:cs= []:=Yw.1 Om;subst hys;subst SK;simp only[XA,XR];rw[iQ];exact K g _ rfl (Fr.mk (cs:=[]) hN hb Si) fun _ _=>rfl
  ·have hbl:b < (h0++g).length:=(Xr.1 hb).1;simp only[XG hk,hb,Yk];rw[XI (by rw[hcl,hl];omega),rq];have bd:fB cs.flatten 0 (ys.flatten.take (ys.length * es))=ys.flatten:=by
    rw[←RW,X8];have:=uv ys.flatten cs.flatten [] (by rw[hcl,RW,hl])
    simpa using this
   rw[bd,Yp _ _ hN];refine K _ _ Si ?_ fun b' hb'=>?_
   ·rw[hl];refine Fr.mk hN (tl:=tl) ?_ hsy.rows;exact z152
   ·exact Jl
end
end Go.Abs
namespace Go.Abs
section
variable (P:Program) (ro:Option Nat→Prop)
def WQ(l:List bJ)(cs:List Acc)(ks:List Kt)(ts:TS)(h:ah)(Q:Ex→TS→ah→Prop):Prop:=zZ h l ts cs fun ts' cs=>eO cs∧kq P ro ks Q .normal ts' (dL h cs)
def FW(r:Option AV)(d:Option Nat)(l:List bJ)(cs:List Acc)(ks:List Kt)(ts:TS)(h:ah)(Q:Ex→TS→ah→Prop):Prop:=
 match r with
 | some v=>WQ P ro l cs ks (put ts d v) h Q
 | none=>False
def OU(a:AV)(r:Option (AV×ia))(d:Option Nat)(l:List bJ)(cs:List Acc)(ks:List Kt)(ts:TS)(h:ah)(Q:Ex→TS→ah→Prop):Prop:=
 match a,r with
 | .ptr b _,some (v,.az)=>WQ P ro l (cs++ [.rd b]) ks (put ts d v) h Q
 | _,_=>False
def OT(a:AV)(r:Option (AV×ia))(d:Option Nat)(l:List bJ)(cs:List Acc)(ks:List Kt)(ts:TS)(h:ah)(Q:Ex→TS→ah→Prop):Prop:=
 match a,r with
 | .ptr _ _,some (v,.set b k)=>WQ P ro l (cs++ [.wr b k]) ks (put ts d v) h Q
 | _,_=>False
def LY(a:AV)(b q:Bool)(k:oA)(d:Option Nat)(l:List bJ)(cs:List Acc)(ks:List Kt)(ts:TS)(h:ah)(Q:Ex→TS→ah→Prop):Prop:=
 match a with
 | .bool t=>if t=b then WQ P ro ({ dst:=d,k:=k,gd:=none,q:=q } ::l) cs ks ts h Q else WQ P ro l cs ks (put ts d aB) h Q
 | _=>WQ P ro l cs ks (put ts d aB) h Q
end
section
variable {P:Program} {ro:Option Nat→Prop} {ks:List Kt} {ts:TS} {h:ah} {Q:Ex→TS→ah→Prop} {d:Option Nat} {q:Bool} {l:List bJ} {cs:List Acc}
def qn:WC P ro (.rF l) ks ts h Q=WQ P ro l [] ks ts h Q:=rfl
def Ck:WQ P ro [] cs ks ts h Q= (eO cs∧WE P ro .normal ks ts (dL h cs) Q):=rfl
def n9{v}:FW P ro (some v) d l cs ks ts h Q=WQ P ro l cs ks (put ts d v) h Q:=rfl
def od{v b o}:OU P ro (.ptr b o) (some (v,.az)) d l cs ks ts h Q=WQ P ro l (cs++ [.rd b]) ks (put ts d v) h Q:=rfl
def oa{v b b' o k}:OT P ro (.ptr b o) (some (v,.set b' k)) d l cs ks ts h Q=WQ P ro l (cs++ [.wr b' k]) ks (put ts d v) h Q:=rfl
def kg{k}(hp:ff k=true){r}(hr:stepT k (val ts) (fun z=>h[z]?) h.length=r.map fun v=>(v,.az)):
  WQ P ro ({ dst:=d,k:=k,gd:=none,q:=q } ::l) cs ks ts h Q=FW P ro r d l cs ks ts h Q:=by
 apply propext
 constructor
 ·rintro⟨v,c,⟨hn,_⟩| ⟨_,hs⟩,H⟩
  ·exact absurd trivial hn
  rcases hs with⟨_,rfl,hs⟩| ⟨n,a,b,off,hk,_⟩| ⟨n,a,x,b,off,k',hk,_⟩
  ·have hs:stepT k (val ts) (fun z=>h[z]?) h.length=some (v,.az):=hs;rw[hr]at hs;cases r with
   | none=>cases hs
   | some v'=>cases hs;exact H
  ·have hk:k= .load n a:=hk;rw[hk]at hp;cases hp
  ·have hk:k= .store n a x:=hk;rw[hk]at hp;cases hp
 ·intro H;cases r with
  | none=>exact H.elim
  | some v=>exact⟨v,.no,.inr ⟨trivial,.inl ⟨hp,rfl,hr⟩⟩,H⟩
def ql{n a}:WQ P ro ({ dst:=d,k:=.load n a,gd:=none,q:=q } ::l) cs ks ts h Q=OU P ro (val ts a) (ao n (val ts a) (fun z=>h[z]?)) d l cs ks ts h Q:=by
 apply propext
 constructor
 ·rintro⟨v,c,⟨hn,_⟩| ⟨_,hs⟩,H⟩
  ·exact absurd trivial hn
  rcases hs with⟨hp,_⟩| ⟨n',a',b,off,hk,ha,rfl,hs⟩| ⟨n',a',x,b,off,k',hk,_⟩
  ·cases hp
  ·cases hk;have hs:ao n (val ts a) (fun z=>h[z]?)=some (v,.az):=hs;rw[hs,ha];exact H
  ·cases hk
 ·intro H;unfold OU at H;split at H
  ·rename_i b o v ha hr;exact⟨v,.rd b,.inr ⟨trivial,.inr (.inl ⟨n,a,b,o,rfl,ha,rfl,hr⟩)⟩,H⟩
  ·exact H.elim
def n7{n a x}:WQ P ro ({ dst:=d,k:=.store n a x,gd:=none,q:=q } ::l) cs ks ts h Q=OT P ro (val ts a) (aW n (val ts a) (val ts x) (fun z=>h[z]?)) d l cs ks ts h Q:=by
 apply propext
 constructor
 ·rintro⟨v,c,⟨hn,_⟩| ⟨_,hs⟩,H⟩
  ·exact absurd trivial hn
  rcases hs with⟨hp,_⟩| ⟨n',a',b,off,hk,_⟩| ⟨n',a',x',b,off,k',hk,ha,rfl,hs⟩
  ·cases hp
  ·cases hk
  ·cases hk;have hs:aW n (val ts a) (val ts x) (fun z=>h[z]?)=some (v,.set b k'):=hs;rw[hs,ha];exact H
 ·intro H;unfold OT at H;split at H
  ·rename_i b o v b' k ha hr;have hb:b' =b:=by
    rw[ha]at hr;simp only[aW]at hr;split at hr
    ·split at hr
     ·cases hr;rfl
     ·cases hr
    ·cases hr
   subst hb;exact⟨v,.wr b' k,(.inr ⟨trivial,.inr (.inr ⟨n,a,x,b',o,k,rfl,ha,rfl,hr⟩)⟩),H⟩
  ·exact H.elim
def yG{k g b}:WQ P ro ({ dst:=d,k:=k,gd:=some (g,b),q:=q } ::l) cs ks ts h Q=LY P ro (val ts (.t g)) b q k d l cs ks ts h Q:=by
 have key:∀t:Bool,val ts (.t g)= .bool t→(wanted (some (g,b)) ts↔t=b):=fun t hg=>by
  show ts[g]? =some (.bool b)↔_;have hg:ts.getD g aB= .bool t:=hg;have e:ts[g]? =some (.bool t):=by
   rw[Yc]at hg;cases hx:ts[g]? with
   | none=>rw[hx]at hg;cases hg
   | some y=>rw[hx]at hg;exact X6 some hg
  rw[e];simp
 have neg: (∀t,val ts (.t g)≠.bool t)→¬wanted (some (g,b)) ts:=fun hn hw=>by
  have hw:ts[g]? =some (.bool b):=hw;exact hn b (by show ts.getD g aB=_;rw[Yc,hw];rfl)
 have no:¬wanted (some (g,b)) ts→WQ P ro ({ dst:=d,k:=k,gd:=some (g,b),q:=q } ::l) cs ks ts h Q=WQ P ro l cs ks (put ts d aB) h Q:=fun hy=>by
  apply propext
  constructor
  ·rintro⟨v,c,⟨_,rfl,rfl⟩| ⟨hn,hs⟩,H⟩
   ·exact H
   ·exact absurd hn hy
  ·intro H;exact⟨aB,.no,.inl ⟨hy,rfl,rfl⟩,H⟩
 unfold LY;split
 ·rename_i t ht;have hw:=key t ht;by_cases e:t=b
  ·rw[XI e];have hy:=hw.2 e
   apply propext
   constructor
   ·rintro⟨v,c,⟨hn,_⟩| ⟨_,hs⟩,H⟩
    ·exact absurd hy hn
    ·exact⟨v,c,.inr ⟨trivial,hs⟩,H⟩
   ·rintro⟨v,c,⟨hn,_⟩| ⟨_,hs⟩,H⟩
    ·exact absurd trivial hn
    ·exact⟨v,c,.inr ⟨hy,hs⟩,H⟩
  ·rw[XG e];exact no fun z=>e (hw.1 z)
 ·rename_i hn;exact no (neg hn)
def tW{k}:LY P ro (.bool true) true q k d l cs ks ts h Q=WQ P ro ({ dst:=d,k:=k,gd:=none,q:=q } ::l) cs ks ts h Q:=rfl
def tX{k}:LY P ro (.bool false) true q k d l cs ks ts h Q=WQ P ro l cs ks (put ts d aB) h Q:=rfl
def qk{c a b}:WQ P ro ({ dst:=d,k:=.pick c a b,gd:=none,q:=q } ::l) cs ks ts h Q=FW P ro (sj (val ts c) (val ts a) (val ts b)) d l cs ks ts h Q:=by
 refine kg rfl ?_;simp only[stepT,mM,sj];cases val ts c<;>rfl
def n8{x}:WQ P ro ({ dst:=d,k:=.len .sl x,gd:=none,q:=q } ::l) cs ks ts h Q=FW P ro (tD (iL .sl (fun b=>h[b]?) (val ts x))) d l cs ks ts h Q:=by
 refine kg rfl ?_;simp only[stepT,mM,tD];cases iL .sl (fun b=>h[b]?) (val ts x)<;>rfl
def tU{x}:WQ P ro ({ dst:=d,k:=.aI x,gd:=none,q:=q } ::l) cs ks ts h Q=WQ P ro l cs ks (put ts d (val ts x)) h Q:=kg (r:=some (val ts x)) rfl rfl
def tV{op x y}:WQ P ro ({ dst:=d,k:=.bin op x y,gd:=none,q:=q } ::l) cs ks ts h Q=FW P ro (dW op (val ts x) (val ts y)) d l cs ks ts h Q:=by
 refine kg rfl ?_;exact IP
def yF{op x}:WQ P ro ({ dst:=d,k:=.un op x,gd:=none,q:=q } ::l) cs ks ts h Q=FW P ro (vX op (val ts x)) d l cs ks ts h Q:=by
 refine kg rfl ?_;simp only[stepT,mM];cases vX op (val ts x)<;>rfl
def qm{off x}:WQ P ro ({ dst:=d,k:=.aR off x,gd:=none,q:=q } ::l) cs ks ts h Q=FW P ro (sS off (val ts x)) d l cs ks ts h Q:=by
 refine kg rfl ?_;simp only[stepT,mM,sS];cases val ts x<;>rfl
def lS{x}:WQ P ro ({ dst:=d,k:=.bt x,gd:=none,q:=q } ::l) cs ks ts h Q=FW P ro (oQ (val ts x)) d l cs ks ts h Q:=by
 refine kg rfl ?_;exact Jf
end
def tS{a:List Acc}: []++a=a:=rfl
def tR{c:Acc}{a b:List Acc}: (c::a)++b=c:: (a++b):=rfl
def n6{h}:dL h []=h:=rfl
def nZ{h b cs}:dL h (.rd b::cs)=dL h cs:=rfl
def nY{h b k cs}:dL h (.wr b k::cs)=dL (h.set b k) cs:=rfl
def zK(b:Nat)(cs:List Acc):Prop:=∀x∈cs,x.dN≠some b
def nX(b:Nat)(cs:List Acc):Prop:=∀x∈cs,∀k,x≠Acc.wr b k
def HZ{b}:zK b []=True:=Z7 fun x hx=>by cases hx
def H3{b c cs}:zK b (c::cs)= (c.dN≠some b∧zK b cs):=by
 simp[zK]
def EI{b}:nX b []=True:=Z7 fun x hx=>by cases hx
def EH{b b' cs}:nX b (.rd b'::cs)=nX b cs:=by
 simp[nX]
def EG{b b' k cs}:nX b (.wr b' k::cs)= (b'≠b∧nX b cs):=by
 unfold nX;simp only[X9,forall_eq_or_imp];refine propext ⟨fun h=>⟨fun e=>h.1 k (by rw[e]),h.2⟩,fun h=>⟨fun k' e=>h.1 (by cases e;rfl),h.2⟩⟩
def EF:eO []=True:=rfl
def EE{b cs}:eO (.rd b::cs)= (nX b cs∧eO cs):=by
 unfold nX;simp only[eO,Acc.dN,X1];refine propext ⟨fun h=>⟨fun x hx k hk=>h.1 b rfl x hx (by rw[hk]) k k (.inr hk),h.2⟩,fun h=>⟨fun b' e x hx _ k k' hk=>?_,h.2⟩⟩;subst e;rcases hk with hk| hk
 ·cases hk
 ·exact h.1 x hx k' hk
def ED{b k cs}:eO (.wr b k::cs)= (zK b cs∧eO cs):=by
 unfold zK;simp only[eO,Acc.dN,X1];refine propext ⟨fun h=>⟨fun x hx hk=>h.1 b rfl x hx hk k k (.inl rfl),h.2⟩,fun h=>⟨fun b' e x hx hk _ _ _=>?_,h.2⟩⟩;subst e;exact h.1 x hx hk
def Lj{b}: (Acc.rd b).dN=some b:=rfl
def Li{b k}: (Acc.wr b k).dN=some b:=rfl
def bF:
  (∀{ts:TS} {i j:Nat} {v:AV} (_: (i=j)=False),slot (ts.set i v) j=slot ts j)∧
  (∀{ts:TS} {i:Nat} {v:AV} (_:i+1≤ts.length),slot (ts.set i v) i=v)∧
  (∀{ts:TS} {i:Nat} {X:Prop} (_:i+1≤ts.length),KM ts[i]? X=X)∧
  (∀{ts:TS} {i:Nat} {v:AV},(ts.set i v).length=ts.length)∧
  (∀{u:TypeId} {x:AV} {G:Nat→Option aq} {N:Nat},mi (.pW u) x G N=some (.pW u x,.az)):=by
 refine⟨fun {ts i j v} h=>?_,fun {ts i v} h=>?_,fun {ts i X} h=>by rw[Xw h];rfl,fun {ts i v}=>Yd,rfl⟩
 ·have hne:i≠j:=fun e=>by rw[←h];exact e
  unfold slot;rw[List.getD,List.getD,XK hne]
 ·unfold slot;rw[List.getD,XL h];rfl
end Go.Abs
namespace Go.Abs
abbrev aq.b(l:List AV):aq:=.cells l true false
abbrev AV.i(n:Int):AV:=.int .i64 n
def Rs{A B F:Prop}(f:F)(b:B)(e:F→(B→A)∧(∃x:Prop,x=B):=by(intro f;refine⟨fun b=>?_,?_⟩;(focus (repeat (first| simp (config:={ maxSteps:=1000000 }) only[aV,bd,bD,bE,reduceAdd,reduceMul,reduceLeDiff,reduceEqDiff,bF,hlen,XO,XR,f]| simp (config:={ maxSteps:=1000000 }) (disch:=first| (simp only[Xs,Xy,XA]<;>omega)| rfl| omega| fail) only[fM,aV,bd,bD,bE,reduceAdd,reduceMul,reduceLeDiff,reduceEqDiff,bF,hlen,XO,XR,f]));all_goals exact b);first| exact⟨True,rfl⟩| exact⟨_,rfl⟩)):A:=(e f).1 b
def oE{A B F:Prop}(f:F)(b:B)(e:F→(B→A)∧(∃x:Prop,x=B):=by(intro f;refine⟨fun b=>?_,?_⟩;(focus (repeat (first| simp (config:={ maxSteps:=1000000 }) only[aV,bd,bD,bE,reduceAdd,reduceMul,reduceLeDiff,reduceEqDiff,bF,hlen,XO,XR,reduceCtorEq,f]| simp (config:={ maxSteps:=1000000 }) (disch:=first| (simp only[Xs,Xy,XA]<;>omega)| rfl| omega| fail) only[fM,aV,bd,bD,bE,reduceAdd,reduceMul,reduceLeDiff,reduceEqDiff,bF,hlen,XO,XR,reduceCtorEq,f]));all_goals exact b);first| exact⟨True,rfl⟩| exact⟨_,rfl⟩)):A:=(e f).1 b
def Zs{A B F:Prop}(f:F)(b:B)(e:F→(B→A)∧(∃x:Prop,x=B):=by(intro f;refine⟨fun b=>?_,?_⟩;(focus (simp only[aV,bd,bD,bE,reduceAdd,reduceMul,reduceLeDiff,reduceEqDiff,bF,hlen,XO,XR,f]);all_goals exact b);first| exact⟨True,rfl⟩| exact⟨_,rfl⟩)):A:=(e f).1 b
def Zn{A B:Prop}(b:B)(e: (B→A)∧(∃x:Prop,x=B):=by(refine⟨fun b=>?_,?_⟩;(focus (simp only[aV,bd,bD,bE,reduceAdd,reduceMul,reduceLeDiff,reduceEqDiff,bF,hlen,XO,XR]);all_goals exact b);first| exact⟨True,rfl⟩| exact⟨_,rfl⟩)):A:=e.1 b
def Ws{A B F:Prop}(f:F)(b:B)(e:F→(B→A)∧(∃x:Prop,x=B):=by(intro f;refine⟨fun b=>?_,?_⟩;(focus (simp only[aV,bd,bD,bE,reduceAdd,reduceMul,reduceLeDiff,reduceEqDiff,XR,XO,f]);all_goals exact b);first| exact⟨True,rfl⟩| exact⟨_,rfl⟩)):A:=(e f).1 b
def Wn{A B:Prop}(b:B)(e: (B→A)∧(∃x:Prop,x=B):=by(refine⟨fun b=>?_,?_⟩;(focus (simp only[aV,bd,bD,bE,reduceAdd,reduceMul,reduceLeDiff,reduceEqDiff,XR,XO]);all_goals exact b);first| exact⟨True,rfl⟩| exact⟨_,rfl⟩)):A:=e.1 b
def Sq{A F:Prop}(f:F)(e:F→A:=by(intro f;simp only[aV,bd,bD,bE,reduceAdd,reduceMul,reduceLeDiff,reduceEqDiff,bF,hlen,XO,XR,f])):A:=e f
def Sw{A:Prop}(e:A:=by simp only[aV,bd,bD,bE,reduceAdd,reduceMul,reduceLeDiff,reduceEqDiff,bF,hlen,XO,XR]):A:=e
def Qf{A F:Prop}(f:F)(e:F→A:=by(intro f;(simp only[aV,bd,bD,bE,reduceAdd,reduceMul,reduceLeDiff,reduceEqDiff,bF,hlen,XO,XR,f];rfl))):A:=e f
def iF{A:Prop}(e:A:=by(simp only[aV,bd,bD,bE,reduceAdd,reduceMul,reduceLeDiff,reduceEqDiff,bF,hlen,XO,XR];rfl)):A:=e
def Sn{A:Prop}(e:A:=by simp only[bF,hlen]):A:=e
def Xx{A:Prop}(e:A:=by repeat first| with_reducible exact Ext.refl _| refine Ext.app _ ?_):A:=e
def aA.P0{P:Program}{h:ah}(nt:Nat)(hmix:P.follows .mixedOrders=true){f:FuncId}{A:ay}(hA:ai P f=some A){R:AV→ah→Prop}(H:∀ts:TS,ts.length=nt→WC P bR A.body [] ts h (FQ A.rs (fun v h'=>Ext h h'∧R v h')))(hn:A.nt=nt:=by rfl)(hl: (aT nt []).length=nt:=by rfl):aA P f [] h R:=by
 subst hn;exact .of hmix hA (H (aT A.nt []) hl)
def aA.kE{P:Program}{h:ah}(nt:Nat)(hmix:P.follows .mixedOrders=true){f:FuncId}{A:ay}(hA:ai P f=some A){a0:AV}{R:AV→ah→Prop}(H:∀ts:TS,ts.length=nt→slot ts 0=a0→WC P bR A.body [] ts h (FQ A.rs (fun v h'=>Ext h h'∧R v h')))(hn:A.nt=nt:=by rfl)(hl: (aT nt [a0]).length=nt:=by rfl):aA P f [a0] h R:=by
 subst hn;exact .of hmix hA (H (aT A.nt [a0]) hl rfl)
def aA.eF{P:Program}{h:ah}(nt:Nat)(hmix:P.follows .mixedOrders=true){f:FuncId}{A:ay}(hA:ai P f=some A){a0 a1:AV}{R:AV→ah→Prop}(H:∀ts:TS,ts.length=nt→slot ts 0=a0→slot ts 1=a1→WC P bR A.body [] ts h (FQ A.rs (fun v h'=>Ext h h'∧R v h')))(hn:A.nt=nt:=by rfl)(hl: (aT nt [a0,a1]).length=nt:=by rfl):aA P f [a0,a1] h R:=by
 exact IM
def db.eF{P:Program}{h:ah}(nt:Nat)(hmix:P.follows .mixedOrders=true){f:FuncId}{A:ay}(hA:ai P f=some A){a0 a1:AV}{R:AV→ah→Prop}(H:∀ts:TS,ts.length=nt→slot ts 0=a0→slot ts 1=a1→WC P bR A.body [] ts h (FQ A.rs (R)))(hn:A.nt=nt:=by rfl)(hl: (aT nt [a0,a1]).length=nt:=by rfl):db P f [a0,a1] h R:=by
 exact IM
def aA.nj{P:Program}{h:ah}(nt:Nat)(hmix:P.follows .mixedOrders=true){f:FuncId}{A:ay}(hA:ai P f=some A){a0 a1 a2:AV}{R:AV→ah→Prop}(H:∀ts:TS,ts.length=nt→slot ts 0=a0→slot ts 1=a1→slot ts 2=a2→WC P bR A.body [] ts h (FQ A.rs (fun v h'=>Ext h h'∧R v h')))(hn:A.nt=nt:=by rfl)(hl: (aT nt [a0,a1,a2]).length=nt:=by rfl):aA P f [a0,a1,a2] h R:=by
 exact I3
def db.nj{P:Program}{h:ah}(nt:Nat)(hmix:P.follows .mixedOrders=true){f:FuncId}{A:ay}(hA:ai P f=some A){a0 a1 a2:AV}{R:AV→ah→Prop}(H:∀ts:TS,ts.length=nt→slot ts 0=a0→slot ts 1=a1→slot ts 2=a2→WC P bR A.body [] ts h (FQ A.rs (R)))(hn:A.nt=nt:=by rfl)(hl: (aT nt [a0,a1,a2]).length=nt:=by rfl):db P f [a0,a1,a2] h R:=by
 exact I3
def WF.ce{P:Program}{ro:Option Nat→Prop}{ks:List Kt}{ts:TS}{h:ah}{Q:Ex→TS→ah→Prop}{q:Bool}{f:FuncId}{A:ay}(hA:ai P f=some A){a c args:List AV}{d:Option Nat}{l:List bJ}{V:AV}(H:aA P f (a++args++c) h (fun v _=>v=V))(K:∀g,WP P ro l ks (put ts d V) (h++g) Q):WF P ro q (.func (.func f) a c) args d l ks ts h Q:=
 WF.res hA H fun _ g e=>e▸K g
def fk{k n:Nat}(h:k < n):decide ((k:Int)< (n:Int))=true:=Xz Om
def gq{k n:Nat}(h:¬k < n):decide ((k:Int)< (n:Int))=false:=Xu Om
def bX(c:Bool)(e:Int):Int:=if c then e else 0
def bh(n lo hi:Int):Int:=if n < lo∨hi < n then 3 else 0
def aX:List Int→Int
 | []=>0
 | x::xs=>if x=0 then aX xs else x
def fJ(c:UInt8):Bool:=(65≤c.toNat && c.toNat≤90)|| (97≤c.toNat && c.toNat≤122)
def eQ(c:UInt8):Bool:=48≤c.toNat && c.toNat≤57
def jI(c:UInt8):Bool:=fJ c|| eQ c|| c.toNat==95
def dU:By→Bool
 | []=>false
 | c::r=>decide (r.length < 24) && fJ c && r.all jI
inductive Kd where
 | e8
 | line
 | tape
 | fY
 | copy
 | accept
 | source
 | fL
 | merge
 | run
 | fK
 | fail
 | fZ
 | rel
 deriving DecidableEq
def bz:Kd→By
 | .e8=>[117,110,100,111]
 | .line=>[108,105,110,101]
 | .tape=>[116,97,112,101]
 | .fY=>[115,104,111,116]
 | .copy=>[99,111,112,121]
 | .accept=>[97,99,99,101,112,116]
 | .source=>[115,111,117,114,99,101]
 | .fL=>[109,111,100,117,108,101]
 | .merge=>[109,101,114,103,101]
 | .run=>[114,117,110]
 | .fK=>[116,105,108,101]
 | .fail=>[102,97,105,108]
 | .fZ=>[112,105,99,116,117,114,101]
 | .rel=>[114,101,108,101,97,115,101]
def Fw:List Kd:=[.e8,.line,.tape,.fY,.copy,.accept,.source,.fL,.merge,.run,.fK,.fail,.fZ,.rel]
def bL:Kd→List (Nat×Bool)
 | .e8=>[]
 | .line=>[(0,false)]
 | .tape=>[(1,false)]
 | .fY=>[(2,false),(0,true),(1,true)]
 | .copy=>[(1,true),(1,true)]
 | .accept=>[(0,true)]
 | .source=>[(3,false),(0,true)]
 | .fL=>[(3,false),(3,true)]
 | .merge=>[(3,false),(3,true),(3,true)]
 | .run=>[(4,false),(3,true)]
 | .fK=>[(4,true)]
 | .fail=>[(4,true)]
 | .fZ=>[(5,false),(4,true)]
 | .rel=>[(5,true)]
def cB:Kd→Nat
 | .e8=>0
 | .line=>2
 | .tape=>2
 | .fY=>1
 | .copy=>1
 | .accept=>1
 | .source=>1
 | .fL=>2
 | .merge=>1
 | .run=>2
 | .fK=>3
 | .fail=>2
 | .fZ=>1
 | .rel=>1
def gF(k:By):Option Kd:=Fw.find? fun d=>bz d==k
def lI(d:Kd):gF (bz d)=some d:=by cases d<;>rfl
def cw{k d}(h:gF k=some d):k=bz d:=by
 have:=Z0 h;exact(eq_of_beq this).symm
def dz{k}(h:gF k=none)(d:Kd):k≠bz d:=by
 rintro rfl;rw[lI]at h;cases h
structure gy where
 num:Int
 kind:By
 names:List (By)
 cC:List Int
 text:By
structure gQ where
 name:By
 want:Int
 acc:Bool
structure rA where
 name:By
 last:Int
structure jh where
 name:By
 line:By
 aJ:List (By)
structure gP where
 name:By
 gives:By
 line:By
 bu:List (By)
structure kK where
 name:By
 mod:By
 bw:List Int
structure p6 where
 name:By
 BE:By
 mO:Int
 rel:Bool
structure gJ where
 tick:Int
 lines:List gQ
 aJ:List rA
 ak:List jh
 aE:List gP
 aH:List kK
 aQ:List p6
def gJ.zero:gJ:=⟨0,[],[],[],[],[],[]⟩
def Bq:gQ:=⟨[],0,false⟩
def Nr:rA:=⟨[],0⟩
def Bo:jh:=⟨[],[],[]⟩
def Bp:gP:=⟨[],[],[],[]⟩
def ze:kK:=⟨[],[],[]⟩
def GM:p6:=⟨[],[],0,false⟩
def bj(l:List (By))(n:By):Nat:=l.findIdx fun x=>decide (x=n)
def q8{α:Type}(f:α→By)(l:List α)(n:By)(d:α):α:=l.getD (bj (l.map f) n) d
def gB(R:gJ):List (By):=R.lines.map gQ.name
def jA(R:gJ):List (By):=R.aJ.map rA.name
def jV(R:gJ):List (By):=R.ak.map jh.name
def gM(R:gJ):List (By):=R.aE.map gP.name
def iA(R:gJ):List (By):=R.aH.map kK.name
def kN(R:gJ):List (By):=R.aQ.map p6.name
def Iq(R:gJ):Nat→List (By)
 | 0=>gB R
 | 1=>jA R
 | 2=>jV R
 | 3=>gM R
 | 4=>iA R
 | _=>kN R
def dF(R:gJ)(n:By):gQ:=q8 gQ.name R.lines n Bq
def jm(R:gJ)(n:By):rA:=q8 rA.name R.aJ n Nr
def kS(R:gJ)(n:By):jh:=q8 jh.name R.ak n Bo
def fW(R:gJ)(n:By):gP:=q8 gP.name R.aE n Bp
def gh(R:gJ)(n:By):kK:=q8 kK.name R.aH n ze
def jK(R:gJ)(n:By):p6:=q8 p6.name R.aQ n GM
def dD(R:gJ)(t:Nat)(n:By):Bool:=decide (n∈Iq R t)
def jn(R:gJ)(t:Int)(n:By):Bool:=decide (t≤(jm R n).last)
def eI(R:gJ)(x:jh)(t:Int):Bool:=x.aJ.any (jn R t)
def eX(R:gJ)(t:Int):List (By):=(R.ak.filter fun x=>!eI R x t).map jh.name
def zd(R:gJ)(n:By):List jh:=R.ak.filter fun x=>decide (x.line=n)
def cU:List Int→Nat→List Int
 | [],_=>[]
 | x::r,i=>if x < 0 then(i:Int)::cU r (i+1)else cU r (i+1)
def pP(R:gJ)(j:By):Bool:=R.aQ.any fun p=>decide (p.BE=j)
def cM(m:By)(l:List gP):List (By):=l.foldl (fun n x=>if x.name∈n then n++x.bu else n) [m]
def lZ(R:gJ)(m:By):List gP:=R.aE.filter fun x=>decide (x.name∈cM m R.aE.reverse)
def iG(R:gJ)(m:By):List gQ:=R.lines.filter fun l=>decide (l.name∈(lZ R m).map gP.line)
def si(R:gJ)(p:By):List (By):=
 (R.ak.filter fun x=>decide (x.line∈(iG R (gh R (jK R p).BE).mod).map gQ.name)).map jh.name
def fO(l:List Int):Int:=l.foldl (fun x s=>(257 * x+s).tmod 16777213) 1
def aN(e:gy)(i:Nat):By:=e.names.getD i []
def bI(e:gy)(i:Nat):Int:=e.cC.getD i 0
def dM:By:=[115,104,111,116,115]
def lK:By:=[115,101,99,116,105,111,110]
def nO:By:=[105,109,97,103,101]
def my(n:Int):By:=if n=1 then dM else if n=2 then dM else if n=3 then lK else nO
def jD(n:Int):By:=if n=1 then dM else if n=2 then lK else nO
def gI(e:gy):Int:=
 if bh e.num 1 1000≠0 then 3 else
 match gF e.kind with
 | none=>13
 | some d=>if e.names.length≠(bL d).length∨e.cC.length≠cB d then 2
  else if e.names.any (fun s=>!dU s)then 8
  else if e.cC.any (fun n=>decide (bh n 0 999999999≠0))then 3
  else if e.text≠[]then 1 else 0
def mw(R:gJ)(e:gy):List (Nat×Bool)→Nat→Bool
 | [],_=>false
 | r::l,i=>(r.2 && !dD R r.1 (aN e i))|| mw R e l (i+1)
def qu(R:gJ)(e:gy):List (Nat×Bool)→Nat→Bool
 | [],_=>false
 | r::l,i=>(!r.2 && dD R r.1 (aN e i))|| qu R e l (i+1)
def kG(d:Kd)(R:gJ)(e:gy):Int:=if mw R e (bL d) 0 then 10 else if qu R e (bL d) 0 then 9 else 0
def fx(R:gJ)(e:gy):Int:=(gh R (aN e 0)).bw.getD (bI e 1).toNat 0
def jE(R:gJ)(e:gy):Int:=if pP R (aN e 0)then 23 else if((gh R (aN e 0)).bw.length:Int)≤bI e 1 then 3 else 0
def bB(R:gJ)(e:gy):Kd→Int
 | .e8=>0
 | .line=>if bh (bI e 1) 1 64≠0 then 3 else if 16≤R.lines.length then 5 else 0
 | .tape=>if 999999999 < bI e 0+bI e 1 then 4 else if 16≤R.aJ.length then 5 else 0
 | .fY=>if(dF R (aN e 1)).acc then 23 else if !jn R (bI e 0) (aN e 2)then 30 else if 64≤R.ak.length then 5 else 0
 | .copy=>if aN e 0=aN e 1 then 24 else if !jn R (bI e 0) (aN e 0)then 30 else if !jn R (bI e 0) (aN e 1)then 30 else 0
 | .accept=>if(dF R (aN e 0)).acc then 23 else if((zd R (aN e 0)).length:Int)< (dF R (aN e 0)).want then 16 else if(zd R (aN e 0)).any (fun x=>!eI R x (bI e 0))then 30 else 0
 | .source=>if 32≤R.aE.length then 5 else 0
 | .fL=>if bh (bI e 1) 1 4≠0 then 13 else if(fW R (aN e 1)).gives≠my (bI e 1)then 2 else if 32≤R.aE.length then 5 else 0
 | .merge=>if aN e 1=aN e 2 then 24 else if(fW R (aN e 1)).gives≠(fW R (aN e 2)).gives then 2 else if 32≤R.aE.length then 5 else 0
 | .run=>if(iG R (aN e 1)).any (fun x=>!x.acc)then 32 else if bh (bI e 1) 1 32≠0 then 3 else if 16≤R.aH.length then 5 else 0
 | .fK=>if jE R e≠0 then jE R e else if 0≤fx R e then 9 else 0
 | .fail=>if jE R e≠0 then jE R e else if fx R e < 0 then 7 else 0
 | .fZ=>if pP R (aN e 1)then 23 else if cU (gh R (aN e 1)).bw 0≠[]then 32 else if 16≤R.aQ.length then 5 else 0
 | .rel=>if(jK R (aN e 0)).rel then 23 else 0
def ka(a b:By)(x:jh):jh:=if a∈x.aJ∧b∉x.aJ then { x with aJ:=x.aJ++ [b] } else x
def mD(R:gJ)(e:gy)(s:Int):List kK:=R.aH.set (bj (iA R) (aN e 0)) { gh R (aN e 0)with bw:=(gh R (aN e 0)).bw.set (bI e 1).toNat s }
def dq(R:gJ)(e:gy):Kd→gJ
 | .e8=>R
 | .line=>{ R with lines:=R.lines++ [⟨aN e 0,bI e 1,false⟩] }
 | .tape=>{ R with aJ:=R.aJ++ [⟨aN e 0,bI e 0+bI e 1⟩] }
 | .fY=>{ R with ak:=R.ak++ [⟨aN e 0,aN e 1,[aN e 2]⟩] }
 | .copy=>{ R with ak:=R.ak.map (ka (aN e 0) (aN e 1)) }
 | .accept=>{ R with lines:=R.lines.set (bj (gB R) (aN e 0)) { dF R (aN e 0)with acc:=true } }
 | .source=>{ R with aE:=R.aE++ [⟨aN e 0,dM,aN e 1,[]⟩] }
 | .fL=>{ R with aE:=R.aE++ [⟨aN e 0,jD (bI e 1),[],e.names.drop 1⟩] }
 | .merge=>{ R with aE:=R.aE++ [⟨aN e 0,(fW R (aN e 1)).gives,[],e.names.drop 1⟩] }
 | .run=>{ R with aH:=R.aH++ [⟨aN e 0,aN e 1,List.replicate (bI e 1).toNat (-1)⟩] }
 | .fK=>{ R with aH:=mD R e (bI e 2) }
 | .fail=>{ R with aH:=mD R e (-1) }
 | .fZ=>{ R with aQ:=R.aQ++ [⟨aN e 0,aN e 1,fO (gh R (aN e 1)).bw,false⟩] }
 | .rel=>{ R with aQ:=R.aQ.set (bj (kN R) (aN e 0)) { jK R (aN e 0)with rel:=true } }
def je(R:gJ)(e:gy)(d:Kd):Int:=if bI e 0 < R.tick then 22 else if kG d R e≠0 then kG d R e else bB R e d
def rG(R:gJ)(e:gy)(d:Kd):gJ:={ dq R e d with tick:=bI e 0 }
structure ki where
 de:List gy
 fc:List gy
 cO:List gJ
def ki.zero:ki:=⟨[],[],[]⟩
def ki.now(H:ki):gJ:=H.cO.getLastD gJ.zero
def oT(e:gy):Kd:=(gF e.kind).getD .e8
def jT(H:ki)(e:gy):Int:=
 if e.num≠(H.de.length:Int)+1 then 11 else
 if oT e= .e8 then
  (match H.fc.getLast? with
  | none=>12
  | some c=>if oT c= .rel then 21 else 0)
 else je H.now e (oT e)
def mT(H:ki)(e:gy):ki:=
 if oT e= .e8 then⟨H.de++ [e],H.fc.dropLast,H.cO.dropLast⟩
 else⟨H.de++ [e],H.fc++ [e],H.cO++ [rG H.now e (oT e)]⟩
def fG(H:ki)(e:gy):Int:=if gI e≠0 then gI e else jT H e
def rD(H:ki):List gy→Nat→ki×Int×Int
 | [],_=>(H,0,0)
 | e::l,i=>if fG H e≠0 then(ki.zero,(i:Int)+1,fG H e)else rD (mT H e) l (i+1)
def bU(l:List gy):ki×Int×Int:=if 1000 < l.length then(ki.zero,0,5)else rD ki.zero l 0
def cP{l n}(h:n∈l):bj l n < l.length:=
 List.findIdx_lt_length_of_exists ⟨n,h,Si⟩
def qI{l n}(h:n∈l):l[bj l n]'(cP h)=n:=by
 have:=List.findIdx_getElem (p:=fun x=>decide (x=n)) (xs:=l) (w:=cP h);exact YH this
def c9{α:Type}{f:α→By}{l:List α}{n:By}{d:α}(h:n∈l.map f):q8 f l n d=l[bj (l.map f) n]'(by simpa using cP h):=by
 have:bj (l.map f) n < l.length:=by simpa using cP h
 rw[q8,Yc,Xw this];rfl
def gX{α:Type}{f:α→By}{l:List α}{n:By}{d:α}(h:n∈l.map f):q8 f l n d∈l:=by
 rw[c9 h];exact XJ _
def gO{α:Type}{f:α→By}{l:List α}{n:By}{d:α}(h:n∈l.map f):f (q8 f l n d)=n:=by
 rw[c9 h];have:=qI h;rw[YC]at this;exact this
def tG{α:Type}{f:α→By}{l:List α}{x d:α}(hn: (l.map f).Nodup)(h:x∈l):q8 f l (f x) d=x:=by
 have hm:f x∈l.map f:=XZ h;obtain⟨i,hi,rfl⟩:=ZE h;rw[c9 hm];have h1:=qI hm;have h2: (l.map f)[i]'(by simpa using hi)=f l[i]:=YC ..;have:=(List.getElem_inj hn).1 (h1.trans h2.symm);congr 1
structure po(l:List (By)):Prop where
 nd:l.Nodup
 nm:∀n∈l,dU n=true
def po.nil:po []:=⟨List.nodup_nil,fun _ h=>by cases h⟩
def po.add{l n}(h:po l)(hn:dU n=true)(hl:n∉l):po (l++ [n]):=by
 refine⟨List.nodup_append.2 ⟨h.nd,Si,?_⟩,fun x hx=>?_⟩
 ·intro a ha b hb e;rw[XT]at hb;exact hl (hb▸e▸ha)
 ·rcases XC.1 hx with hx| hx
  ·exact h.nm x hx
  ·rw[XT]at hx;rw[hx];exact hn
structure fo(R:gJ):Prop where
 n0:po (gB R)
 n1:po (jA R)
 n2:po (jV R)
 n3:po (gM R)
 n4:po (iA R)
 n5:po (kN R)
 tk:0≤R.tick∧R.tick≤999999999
 l0:R.lines.length≤16
 l1:R.aJ.length≤16
 l2:R.ak.length≤64
 l3:R.aE.length≤32
 l4:R.aH.length≤16
 l5:R.aQ.length≤16
 ln:∀x∈R.lines,1≤x.want∧x.want≤64
 tp:∀x∈R.aJ,0≤x.last∧x.last≤999999999
 sh:∀x∈R.ak,x.line∈gB R∧x.aJ≠[]∧x.aJ.Nodup∧∀t∈x.aJ,t∈jA R
 md:∀x∈R.aE,((x.bu= []∧x.line∈gB R)∨(x.bu≠[]∧x.line= []))∧x.bu.length≤2∧∀t∈x.bu,t∈gM R
 jb:∀x∈R.aH,x.mod∈gM R∧1≤x.bw.length∧x.bw.length≤32∧∀s∈x.bw,-1≤s∧s≤999999999
 pc:∀x∈R.aQ,x.BE∈iA R∧0≤x.mO∧x.mO < 16777213
theorem fo.zero:fo gJ.zero:=by
 refine⟨.nil,.nil,.nil,.nil,.nil,.nil,De,De,De,De,De,De,De,?_,?_,?_,?_,?_,?_⟩
 all_goals intro x hx;cases hx
structure kC(e:gy)(d:Kd):Prop where
 kd:gF e.kind=some d
 nu:1≤e.num∧e.num≤1000
 nl:e.names.length= (bL d).length
 vl:e.cC.length=cB d
 nm:∀n∈e.names,dU n=true
 vr:∀v∈e.cC,0≤v∧v≤999999999
 tx:e.text= []
def gS{n lo hi}(h:¬bh n lo hi≠0):lo≤n∧n≤hi:=by
 unfold bh at h;split at h
 ·exact absurd De h
 ·omega
def w9{e}(h:gI e=0):∃d,kC e d:=by
 unfold gI at h;split at h
 ·cases h
 case isFalse h0=>
 cases hk:gF e.kind with
 | none=>rw[hk]at h;cases h
 | some d=>
  rw[hk]at h;simp only at h;split at h
  ·cases h
  case isFalse h1=>
  split at h
  ·cases h
  case isFalse h2=>
  split at h
  ·cases h
  case isFalse h3=>
  split at h
  ·cases h
  case isFalse h4=>
  refine⟨d,hk,gS h0,Om,Om,?_,?_,by simpa using h4⟩
  ·intro n hn;cases hc:dU n with
   | true=>rfl
   | false=>exact absurd (Y9.2 ⟨n,hn,by simp[hc]⟩) h2
  ·intro v hv;refine gS fun hc=>h3 (Y9.2 ⟨v,hv,by simpa using hc⟩)
def Du{e i}(h:i < e.names.length):aN e i∈e.names:=by
 rw[aN,Yc,Xw h];exact XJ h
def p7{e i}(h:i < e.cC.length):bI e i∈e.cC:=by
 rw[bI,Yc,Xw h];exact XJ h
def gg{α:Type}{l m:List α}{x:α}(h:x∈l):x∈l++m:=XC.2 (.inl h)
def iP{α:Type}{p:α→Prop}{l:List α}{y:α}(h:∀x∈l,p x)(hy:p y):∀x∈l++ [y],p x:=by
 intro x hx;rcases XC.1 hx with hx| hx
 ·exact h x hx
 ·rw[XT]at hx;rw[hx];exact hy
def qh{α:Type}{p:α→Prop}{l:List α}{y:α}{i:Nat}(h:∀x∈l,p x)(hy:p y):∀x∈l.set i y,p x:=by
 intro x hx;rcases Zd hx with hx| hx
 ·exact h x hx
 ·rw[hx];exact hy
def map_set{α:Type}{f:α→By}{l:List α}{n:By}{d y:α}(hn:n∈l.map f)(hy:f y=n): (l.set (bj (l.map f) n) y).map f=l.map f:=by
 rw[ZD];have:=qI hn;rw[hy]
 conv=>lhs;arg 3;rw[←this]
 exact List.set_getElem_self _
structure rO(R:gJ)(e:gy)(d:Kd):Prop where
 kn:∀i t,(bL d)[i]? =some (t,true)→aN e i∈Iq R t
 fr:∀i t,(bL d)[i]? =some (t,false)→aN e i∉Iq R t
theorem Ak{R e}:∀{l} {i},mw R e l i=false→∀j t,l[j]? =some (t,true)→aN e (i+j)∈Iq R t
 | [],i,_,j,t,h=>by simp at h
 | r::l,i,h,j,t,hj=>by
  rw[mw,Bool.or_eq_false_iff]at h;cases j with
  | zero=>
   simp only[YD,X1]at hj;subst hj;have:=h.1;simp only[YZ,Bool.not_eq_false',dD,Yg]at this;exact this
  | succ j=>
   simp only[YM]at hj;have:=Ak h.2 j t hj
   rwa [Nat.add_assoc,Nat.add_comm 1 j]at this
theorem Ao{R e}:∀{l} {i},qu R e l i=false→∀j t,l[j]? =some (t,false)→aN e (i+j)∉Iq R t
 | [],i,_,j,t,h=>by simp at h
 | r::l,i,h,j,t,hj=>by
  rw[qu,Bool.or_eq_false_iff]at h;cases j with
  | zero=>
   simp only[YD,X1]at hj;subst hj;have:=h.1;simp only[XY,YZ,dD,Zj]at this;exact this
  | succ j=>
   simp only[YM]at hj;have:=Ao h.2 j t hj
   rwa [Nat.add_assoc,Nat.add_comm 1 j]at this
def yg{R e d}(h:kG d R e=0):rO R e d:=by
 unfold kG at h;split at h
 ·cases h
 case isFalse h1=>
 split at h
 ·cases h
 case isFalse h2=>
 refine⟨fun i t hi=>?_,fun i t hi=>?_⟩
 ·have:=Ak (by simpa using h1) i t hi;rwa [Yk]at this
 ·have:=Ao (by simpa using h2) i t hi;rwa [Yk]at this
def zu(x s:Int)(hx:0≤x)(hs:0≤s):0≤(257 * x+s).tmod 16777213∧(257 * x+s).tmod 16777213 < 16777213:=by
 rw[Int.tmod_eq_emod_of_nonneg Om];omega
theorem vD:∀ (l:List Int) (x:Int),(∀s∈l,0≤s)→0≤x→x < 16777213→0≤l.foldl (fun x s=>(257 * x+s).tmod 16777213) x∧l.foldl (fun x s=>(257 * x+s).tmod 16777213) x < 16777213
 | [],x,_,h1,h2=>⟨h1,h2⟩
 | s::l,x,hs,h1,h2=>by
  have:=zu x s h1 (hs s Si);exact vD l _ (fun t ht=>hs t (Yb _ ht)) this.1 this.2
def DW{l}(hs:∀s∈l,0≤s):0≤fO l∧fO l < 16777213:=vD l 1 hs De De
theorem sH:∀{l} {i},cU l i= []→∀s∈l,0≤s
 | [],_,_,s,hs=>by cases hs
 | x::r,i,h,s,hs=>by
  rw[cU]at h;split at h
  ·cases h
  ·rcases X9.1 hs with rfl| hs
   ·omega
   ·exact sH h s hs
theorem fo.tick{R}(w:fo R){t}(h:0≤t∧t≤999999999):fo { R with tick:=t }:={ w with tk:=h }
section
variable {R:gJ} {e:gy} (w:fo R)
include w
theorem fo.KJ{n}(hn:n∈iA R):gh R n∈R.aH∧(gh R n).name=n:=⟨gX hn,gO hn⟩
theorem fo.Fl(s:Int)(hn:aN e 0∈iA R)(hs:-1≤s∧s≤999999999):fo { R with aH:=mD R e s }:=by
 have hj:=w.KJ hn;have hm:List.map kK.name (mD R e s)=iA R:=map_set (d:=ze) hn hj.2;refine { w with n4:=?_,l4:=?_,jb:=?_,pc:=?_ }
 ·show po (List.map kK.name (mD R e s));rw[hm];exact w.n4
 ·show(mD R e s).length≤16;rw[mD,Yd];exact w.l4
 ·refine qh (fun x hx=>w.jb x hx) ?_;have:=w.jb _ hj.1;refine⟨this.1,?_,?_,qh this.2.2.2 hs⟩
  ·show 1≤(List.set _ _ _).length;rw[Yd];exact this.2.1
  ·show(List.set _ _ _).length≤32;rw[Yd];exact this.2.2.1
 ·intro x hx;have:=w.pc x hx;exact⟨by show x.BE∈List.map kK.name (mD R e s);rw[hm];exact this.1,this.2⟩
theorem fo.act{d:Kd}(he:kC e d)(hk:rO R e d)(hc:bB R e d=0):fo (dq R e d):=by
 have gn:∀i,i < (bL d).length→dU (aN e i)=true:=fun i hi=>he.nm _ (Du (by rw[he.nl];exact hi))
 have gv:∀i,i < cB d→0≤bI e i∧bI e i≤999999999:=fun i hi=>he.vr _ (p7 (by rw[he.vl];exact hi))
 cases d with
 | e8=>exact w
 | line=>
  have f0:aN e 0∉gB R:=hk.fr 0 0 rfl;rw[bB]at hc;split at hc
  ·cases hc
  case isFalse h1=>
  split at hc
  ·cases hc
  case isFalse h2=>
  have h1:=gS h1;have em:gB (dq R e .line)=gB R++ [aN e 0]:=XD;refine { w with n0:=?_,l0:=?_,ln:=?_,sh:=?_,md:=?_ }
  ·rw[em];exact w.n0.add (gn 0 De) f0
  ·show(R.lines++ [_]).length≤16;rw[Xs,XV];omega
  ·exact iP w.ln h1
  ·intro x hx;have:=w.sh x hx;exact⟨by rw[em];exact gg this.1,this.2⟩
  ·intro x hx;obtain⟨h3,h4⟩:=w.md x hx;refine⟨?_,h4⟩;rcases h3 with h3| h3
   ·exact .inl ⟨h3.1,by rw[em];exact gg h3.2⟩
   ·exact .inr h3
 | tape=>
  have f0:aN e 0∉jA R:=hk.fr 0 1 rfl;have v0:=gv 0 De;have v1:=gv 1 De;rw[bB]at hc;split at hc
  ·cases hc
  case isFalse h1=>
  split at hc
  ·cases hc
  case isFalse h2=>
  have em:jA (dq R e .tape)=jA R++ [aN e 0]:=XD;refine { w with n1:=?_,l1:=?_,tp:=?_,sh:=?_ }
  ·rw[em];exact w.n1.add (gn 0 De) f0
  ·show(R.aJ++ [_]).length≤16;rw[Xs,XV];omega
  ·exact iP w.tp (by show 0≤bI e 0+bI e 1∧bI e 0+bI e 1≤999999999;omega)
  ·intro x hx;obtain⟨h3,h4,h5,h6⟩:=w.sh x hx;exact⟨h3,h4,h5,fun t ht=>by rw[em];exact gg (h6 t ht)⟩
 | fY=>
  have f0:aN e 0∉jV R:=hk.fr 0 2 rfl;have k1:aN e 1∈gB R:=hk.kn 1 0 rfl;have k2:aN e 2∈jA R:=hk.kn 2 1 rfl;rw[bB]at hc;split at hc
  ·cases hc
  split at hc
  ·cases hc
  split at hc
  ·cases hc
  case isFalse h2=>
  have em:jV (dq R e .fY)=jV R++ [aN e 0]:=XD;refine { w with n2:=?_,l2:=?_,sh:=?_ }
  ·rw[em];exact w.n2.add (gn 0 De) f0
  ·show(R.ak++ [_]).length≤64;rw[Xs,XV];omega
  ·refine iP w.sh ⟨k1,Si,Si,fun t ht=>?_⟩;rw[XT]at ht;rw[ht];exact k2
 | copy=>
  have k1:aN e 1∈jA R:=hk.kn 1 1 rfl;have en:∀x,(ka (aN e 0) (aN e 1) x).name=x.name:=fun x=>by unfold ka;split<;>rfl
  have el:∀x,(ka (aN e 0) (aN e 1) x).line=x.line:=fun x=>by unfold ka;split<;>rfl
  have em:jV (dq R e .copy)=jV R:=by
   show List.map _ (List.map _ _)=_;rw[Za];exact List.map_congr_left fun x _=>en x
  refine { w with n2:=?_,l2:=?_,sh:=?_ }
  ·rw[em];exact w.n2
  ·show(List.map _ _).length≤64;rw[XB];exact w.l2
  ·intro y hy;obtain⟨x,hx,rfl⟩:=X2.1 (show y∈List.map _ R.ak from hy);obtain⟨h1,h2,h3,h4⟩:=w.sh x hx;rw[el];refine⟨h1,?_⟩;unfold ka;split
   case isFalse=>exact⟨h2,h3,h4⟩
   case isTrue h5=>
    refine⟨Si,?_,iP h4 k1⟩;refine List.nodup_append.2 ⟨h3,Si,fun a ha b hb eq=>?_⟩;rw[XT]at hb;exact h5.2 (hb▸eq▸ha)
 | accept=>
  have k0:aN e 0∈gB R:=hk.kn 0 0 rfl;have em:gB (dq R e .accept)=gB R:=map_set (d:=Bq) k0 (gO k0);refine { w with n0:=?_,l0:=?_,ln:=?_,sh:=?_,md:=?_ }
  ·rw[em];exact w.n0
  ·show(List.set _ _ _).length≤16;rw[Yd];exact w.l0
  ·exact qh w.ln (w.ln (dF R (aN e 0)) (gX k0))
  ·intro x hx;have:=w.sh x hx;exact⟨by rw[em];exact this.1,this.2⟩
  ·intro x hx;obtain⟨h3,h4⟩:=w.md x hx;refine⟨?_,h4⟩;rcases h3 with h3| h3
   ·exact .inl ⟨h3.1,by rw[em];exact h3.2⟩
   ·exact .inr h3
 | source=>
  have f0:aN e 0∉gM R:=hk.fr 0 3 rfl;have k1:aN e 1∈gB R:=hk.kn 1 0 rfl;rw[bB]at hc;split at hc
  ·cases hc
  case isFalse h2=>
  have em:gM (dq R e .source)=gM R++ [aN e 0]:=XD;refine { w with n3:=?_,l3:=?_,md:=?_,jb:=?_ }
  ·exact z154
  ·exact z85
  ·refine iP (fun x hx=>?_) ⟨.inl ⟨rfl,k1⟩,X3 _,fun t ht=>by cases ht⟩;exact Md
  ·intro x hx;have:=w.jb x hx;exact⟨by rw[em];exact gg this.1,this.2⟩
 | fL=>
  have f0:aN e 0∉gM R:=hk.fr 0 3 rfl;have k1:aN e 1∈gM R:=hk.kn 1 3 rfl;have hl:e.names.length=2:=he.nl;have hdr:e.names.drop 1= [aN e 1]:=by
   match hn:e.names,hl with
   | [a,b],_=>simp[aN,hn]
  rw[bB]at hc;split at hc
  ·cases hc
  split at hc
  ·cases hc
  split at hc
  ·cases hc
  case isFalse h2=>
  have em:gM (dq R e .fL)=gM R++ [aN e 0]:=XD;refine { w with n3:=?_,l3:=?_,md:=?_,jb:=?_ }
  ·exact z154
  ·exact z85
  ·refine iP (fun x hx=>?_) ?_
   ·exact Md
   ·simp only[hdr];exact⟨.inr Si,Si,fun t ht=>by rw[XT]at ht;rw[ht,em];exact gg k1⟩
  ·intro x hx;have:=w.jb x hx;exact⟨by rw[em];exact gg this.1,this.2⟩
 | merge=>
  have f0:aN e 0∉gM R:=hk.fr 0 3 rfl;have k1:aN e 1∈gM R:=hk.kn 1 3 rfl;have k2:aN e 2∈gM R:=hk.kn 2 3 rfl;have hl:e.names.length=3:=he.nl;have hdr:e.names.drop 1= [aN e 1,aN e 2]:=by
   match hn:e.names,hl with
   | [a,b,c],_=>simp[aN,hn]
  rw[bB]at hc;split at hc
  ·cases hc
  split at hc
  ·cases hc
  split at hc
  ·cases hc
  case isFalse h2=>
  have em:gM (dq R e .merge)=gM R++ [aN e 0]:=XD;refine { w with n3:=?_,l3:=?_,md:=?_,jb:=?_ }
  ·exact z154
  ·exact z85
  ·refine iP (fun x hx=>?_) ?_
   ·exact Md
   ·simp only[hdr];refine⟨.inr Si,Si,fun t ht=>?_⟩;rw[em];rcases X9.1 ht with ht| ht
    ·rw[ht];exact gg k1
    ·rw[XT]at ht;rw[ht];exact gg k2
  ·intro x hx;have:=w.jb x hx;exact⟨by rw[em];exact gg this.1,this.2⟩
 | run=>
  have f0:aN e 0∉iA R:=hk.fr 0 4 rfl;have k1:aN e 1∈gM R:=hk.kn 1 3 rfl;rw[bB]at hc;split at hc
  ·cases hc
  split at hc
  ·cases hc
  case isFalse h1=>
  split at hc
  ·cases hc
  case isFalse h2=>
  have h1:=gS h1;have em:iA (dq R e .run)=iA R++ [aN e 0]:=XD;refine { w with n4:=?_,l4:=?_,jb:=?_,pc:=?_ }
  ·rw[em];exact w.n4.add (gn 0 De) f0
  ·show(R.aH++ [_]).length≤16;rw[Xs,XV];omega
  ·refine iP w.jb ⟨k1,?_,?_,fun s hs=>?_⟩
   ·show 1≤(List.replicate _ _).length;rw[YB];omega
   ·show(List.replicate _ _).length≤32;rw[YB];omega
   ·rw[(List.mem_replicate.1 hs).2];decide
  ·intro x hx;have:=w.pc x hx;exact⟨by rw[em];exact gg this.1,this.2⟩
 | fK=>exact w.Fl _ (hk.kn 0 4 rfl) (by have:=gv 2 De;omega)
 | fail=>exact w.Fl _ (hk.kn 0 4 rfl) De
 | fZ=>
  have f0:aN e 0∉kN R:=hk.fr 0 5 rfl;have k1:aN e 1∈iA R:=hk.kn 1 4 rfl;rw[bB]at hc;split at hc
  ·cases hc
  split at hc
  ·cases hc
  case isFalse h1=>
  split at hc
  ·cases hc
  case isFalse h2=>
  have em:kN (dq R e .fZ)=kN R++ [aN e 0]:=XD;refine { w with n5:=?_,l5:=?_,pc:=?_ }
  ·rw[em];exact w.n5.add (gn 0 De) f0
  ·show(R.aQ++ [_]).length≤16;rw[Xs,XV];omega
  ·exact iP w.pc ⟨k1,DW (sH (Classical.not_not.1 h1))⟩
 | rel=>
  have k0:aN e 0∈kN R:=hk.kn 0 5 rfl;have em:kN (dq R e .rel)=kN R:=map_set (d:=GM) k0 (gO k0);refine { w with n5:=?_,l5:=?_,pc:=?_ }
  ·rw[em];exact w.n5
  ·show(List.set _ _ _).length≤16;rw[Yd];exact w.l5
  ·exact qh w.pc (w.pc (jK R (aN e 0)) (gX k0))
theorem fo.step{d}(he:kC e d)(hd:d≠.e8)(h:je R e d=0):fo (rG R e d):=by
 unfold je at h;split at h
 ·cases h
 split at h
 case isTrue h1=>exact absurd h h1
 case isFalse h1=>
 have h1:=Classical.not_not.1 h1;refine(w.act he (yg h1) h).tick (he.vr _ (p7 ?_));rw[he.vl];cases d<;>first| exact absurd rfl hd| decide
end
def cS{α:Type}(p:α→Bool)(L:List α):Int:=
 match L.findIdx? p with
 | some i=>(i:Int)
 | none=>-1
def nM{α:Type}(p:α→Bool)(L:List α):decide (0≤cS p L)=L.any p:=by
 unfold cS;cases hx:L.findIdx? p with
 | none=>
  simp only[List.findIdx?_eq_none_iff]at hx;have:L.any p=false:=by rw[List.any_eq_false];intro x Qt;simp[hx x Qt]
  rw[this];rfl
 | some i=>
  have h1:=List.findIdx?_isSome (xs:=L) (p:=p);rw[hx]at h1;rw[←h1];simp
def au(x:By):List AV:=[.str x]
def cj(x:gQ):List AV:=[.str x.name,.i x.want,.bool x.acc]
def dO(x:rA):List AV:=[.str x.name,.i x.last]
def bg(x:jh×AV):List AV:=[.str x.1.name,.str x.1.line,x.2]
def aU(x:gP×AV):List AV:=[.str x.1.name,.str x.1.gives,.str x.1.line,x.2]
def bO(x:kK×AV):List AV:=[.str x.1.name,.str x.1.mod,x.2]
def da(x:p6):List AV:=[.str x.name,.str x.BE,.i x.mO,.bool x.rel]
structure RV where
 tick:Int
 lines:List gQ
 aJ:List rA
 ak:List (jh×AV)
 aE:List (gP×AV)
 aH:List (kK×AV)
 aQ:List p6
 s0:AV
 s1:AV
 s2:AV
 s3:AV
 s4:AV
 s5:AV
def RV.ar(V:RV):gJ:=⟨V.tick,V.lines,V.aJ,V.ak.map Prod.fst,V.aE.map Prod.fst,V.aH.map Prod.fst,V.aQ⟩
def RV.row(V:RV):List AV:=[.i V.tick,V.s0,V.s1,V.s2,V.s3,V.s4,V.s5]
def RV.zero:RV:=⟨0,[],[],[],[],[],[],.af,.af,.af,.af,.af,.af⟩
structure aD(h:ah)(V:RV):Prop where
 i0:aK h V.s0 3 (V.lines.map cj)
 i1:aK h V.s1 2 (V.aJ.map dO)
 i2:aK h V.s2 3 (V.ak.map bg)
 i3:aK h V.s3 4 (V.aE.map aU)
 i4:aK h V.s4 3 (V.aH.map bO)
 i5:aK h V.s5 4 (V.aQ.map da)
 e2:∀x∈V.ak,aK h x.2 1 (x.1.aJ.map au)
 e3:∀x∈V.aE,aK h x.2 1 (x.1.bu.map au)
 e4:∀x∈V.aH,aK h x.2 1 (x.1.bw.map aL)
theorem aD.ext{h k V}(o:aD h V)(e:Ext h k):aD k V:=
 ⟨o.i0.ext e,o.i1.ext e,o.i2.ext e,o.i3.ext e,o.i4.ext e,o.i5.ext e,fun x hx=>(o.e2 x hx).ext e,fun x hx=>(o.e3 x hx).ext e,fun x hx=>(o.e4 x hx).ext e⟩
theorem aD.zero{h}:aD h RV.zero:=by
 refine⟨.nil,.nil,.nil,.nil,.nil,.nil,?_,?_,?_⟩
 all_goals intro x hx;cases hx
def sB:AV→Option Nat
 | .slice b _ _ _=>some b
 | _=>none
def MK{v b}(h:sB v=some b):∃o n e,v= .slice b o n e:=by
 cases v with
 | slice b' o n e=>cases h;exact⟨o,n,e,rfl⟩
 | _=>cases h
def Fr.bN{N h s es cs}(hs:Fr N h s es cs){b}(hb:sB s=some b):N≤b∧b < h.length:=by
 obtain⟨o,n,e,rfl⟩:=MK hb;exact hs.lt rfl
def Fr.aC{N h k s es cs}(hs:Fr N h s es cs)(hk:∀b,sB s=some b→k[b]? =h[b]?):Fr N k s es cs:=by
 exact Je
def RV.bl(V:RV):List (Option Nat):=[sB V.s0,sB V.s1,sB V.s2,sB V.s3,sB V.s4,sB V.s5]++ (V.ak.map fun x=>sB x.2)++ (V.aE.map fun x=>sB x.2)++ (V.aH.map fun x=>sB x.2)
def kP(l:List (Option Nat)):Prop:=l.Pairwise fun x y=>∀b,x=some b→y≠some b
structure cG(N:Nat)(h:ah)(V:RV):Prop where
 i0:Fr N h V.s0 3 (V.lines.map cj)
 i1:Fr N h V.s1 2 (V.aJ.map dO)
 i2:Fr N h V.s2 3 (V.ak.map bg)
 i3:Fr N h V.s3 4 (V.aE.map aU)
 i4:Fr N h V.s4 3 (V.aH.map bO)
 i5:Fr N h V.s5 4 (V.aQ.map da)
 e2:∀x∈V.ak,Fr N h x.2 1 (x.1.aJ.map au)
 e3:∀x∈V.aE,Fr N h x.2 1 (x.1.bu.map au)
 e4:∀x∈V.aH,Fr N h x.2 1 (x.1.bw.map aL)
 di:kP V.bl
def cG.ok{N h V}(o:cG N h V):aD h V:=
 ⟨o.i0.a8,o.i1.a8,o.i2.a8,o.i3.a8,o.i4.a8,o.i5.a8,fun x hx=>(o.e2 x hx).a8,fun x hx=>(o.e3 x hx).a8,fun x hx=>(o.e4 x hx).a8⟩
theorem cG.app{N h V}(o:cG N h V)(g:ah):cG N (h++g) V:=
 ⟨o.i0.app g,o.i1.app g,o.i2.app g,o.i3.app g,o.i4.app g,o.i5.app g,fun x hx=>(o.e2 x hx).app g,fun x hx=>(o.e3 x hx).app g,fun x hx=>(o.e4 x hx).app g,o.di⟩
def cG.az{N h k V}(o:cG N h V)(hk:∀b,some b∈V.bl→k[b]? =h[b]?):cG N k V:=by
 have m6:∀x∈[sB V.s0,sB V.s1,sB V.s2,sB V.s3,sB V.s4,sB V.s5],x∈V.bl:=fun x hx=>by simp only[RV.bl,XC];exact .inl (.inl (.inl hx))
 refine⟨o.i0.aC fun b hb=>hk b (hb▸m6 _ Si),o.i1.aC fun b hb=>hk b (hb▸m6 _ Si),o.i2.aC fun b hb=>hk b (hb▸m6 _ Si),o.i3.aC fun b hb=>hk b (hb▸m6 _ Si),o.i4.aC fun b hb=>hk b (hb▸m6 _ Si),o.i5.aC fun b hb=>hk b (hb▸m6 _ Si),
  fun x hx=>(o.e2 x hx).aC fun b hb=>hk b ?_,fun x hx=>(o.e3 x hx).aC fun b hb=>hk b ?_,fun x hx=>(o.e4 x hx).aC fun b hb=>hk b ?_,o.di⟩
 ·exact z138
 ·exact Jc
 ·exact I4
structure EV where
 ev:gy
 sn:AV
 sv:AV
def EV.row(x:EV):List AV:=[.i x.ev.num,.str x.ev.kind,x.sn,x.sv,.str x.ev.text]
structure bo(h:ah)(x:EV):Prop where
 n:aK h x.sn 1 (x.ev.names.map au)
 v:aK h x.sv 1 (x.ev.cC.map aL)
theorem bo.ext{h k x}(o:bo h x)(e:Ext h k):bo k x:=⟨o.n.ext e,o.v.ext e⟩
structure fH(h:ah)(L:List EV)(s:AV):Prop where
 sl:aK h s 5 (L.map EV.row)
 all:∀x∈L,bo h x
theorem fH.ext{h k L s}(o:fH h L s)(e:Ext h k):fH k L s:=⟨o.sl.ext e,fun x hx=>(o.all x hx).ext e⟩
end Go.Abs
namespace Go.Abs
inductive Ow (N:Nat) (h:ah):AV→Nat→List (List AV)→Prop
 | nil {es:Nat}:Ow N h .af es []
 | mk {b es:Nat} {cs:List (List AV)} {junk:List AV} (hN:N≤b) (hb:h[b]? =some (.cells (cs.flatten++junk) true true)) (he:∀x∈cs,x.length=es):Ow N h (.slice b 0 cs.length es) es cs
def Ow.a8{N h s es cs}(hs:Ow N h s es cs):aK h s es cs:=by
 cases hs with
 | nil=>exact .nil
 | mk hN hb he=>
  have hl:=ee he;exact .mk hb (by rw[YO,←hl,List.take_left]) (by rw[Xs];omega) he
def Ow.bN{N h s es cs}(hs:Ow N h s es cs){b}(hb:sB s=some b):N≤b∧b < h.length:=by
 cases hs with
 | nil=>cases hb
 | mk hN hb' he=>cases hb;exact⟨hN,(Xr.1 hb').1⟩
def Ow.aC{N h k s es cs}(hs:Ow N h s es cs)(hk:∀b,sB s=some b→k[b]? =h[b]?):Ow N k s es cs:=by
 exact Je
def Ow.cut{N h s es cs}(hs:Ow N h s es cs){n:Nat}(hn:n≤cs.length){k}:
  ∃s',zW es s none (some (.int k (n:Int)))=some (s',.az)∧sB s' =sB s∧Ow N h s' es (cs.take n):=by
 cases hs with
 | nil=>
  have:n=0:=by simpa using hn
  subst this;exact⟨.af,by simp only[zW,jw (XH 0)],rfl,by rw[List.take_nil];exact .nil⟩
 | @mk b _ _ junk hN hb he=>
  refine⟨.slice b 0 n es,?_,rfl,?_⟩
  ·simp only[zW,XR,jw hn,ZC,ZZ,Nat.sub_zero]
  ·have hl: (cs.take n).length=n:=by rw[Yq];omega
   have hf:cs.flatten++junk= (cs.take n).flatten++ ((cs.drop n).flatten++junk):=by
    rw[←Xt,←Zc,YR]
   rw[hf]at hb;have:=Ow.mk (cs:=cs.take n) hN hb (fun x hx=>he x (YA hx))
   rwa [hl]at this
section
variable {P:Program} {ro:Option Nat→Prop} {ks:List Kt} {ts:TS} {Q:Ex→TS→ah→Prop}
def WR.HS{h s y es cs ys N w d l}(hs:Ow N h s es cs)(hy:aK h y es ys)(hN:N≤h.length)(hes:0 < es)(hne:0 < ys.length)(dX: (cs.length+ys.length) * w≤2^46)
  (K:∀h',h'.length=h.length+1→Ow N h' (.slice h.length 0 (cs++ys).length es) es (cs++ys)→(∀b,b < h.length→sB s≠some b→h'[b]? =h[b]?)→WP P ro l ks (put ts d (.slice h.length 0 (cs++ys).length es)) h' Q):
  WR P ro (pa es w s y (fun b=>h[b]?) h.length) false d l ks ts h Q:=by
 have R9:∀x∈cs++ys,x.length=es:=fun x hx=>by
  exact z139
 have hk:¬ys.length=0:=Om
 simp only[pa,hy.eT];have mk:∀h1:ah,h1.length=h.length→Ow N (h1++ [.cells (cs++ys).flatten true true]) (.slice h.length 0 (cs++ys).length es) es (cs++ys):=by
  intro h1 h1l;refine Ow.mk (junk:=[]) hN ?_ R9;rw[XU,←h1l];exact bf
 cases hs with
 | nil=>
  simp only[XA,Yk]at dX;simp only[XG hk,XI dX];rw[lR];have hK:=K (h++ [.cells ys.flatten true true]) Si (mk h rfl) (fun b hb _=>Xv hb);exact hK
 | @mk b _ _ junk hbN hb hre=>
  have hcl:=ee hre;simp only[XR,XG hk,XI dX,hb,Yk];rw[XI (by rw[Xs];omega),mU];have hbl:b < h.length:=(Xr.1 hb).1;have hc:List.take (cs.length * es) (List.drop 0 (cs.flatten++junk))=cs.flatten:=by rw[YO,←hcl,List.take_left]
  rw[hc];have hK:=K (h.set b .dead++ [.cells (cs++ys).flatten true true]) Si (mk _ Si) (fun i hi hne=>by
   have:b≠i:=fun e=>hne (by rw[←e];rfl)
   rw[Xv (by simpa using hi),XK this])
  simp only[Zc,Xs]at hK ⊢;exact hK
end
def fy(ex:List (Option Nat))(h:ah):ah:=h.mapIdx fun b k=>if some b∈ex then .dead else k
def tC{ex h b}(hb:some b∉ex): (fy ex h)[b]? =h[b]? :=by
 rw[fy,List.getElem?_mapIdx];cases h[b]? with
 | none=>rfl
 | some k=>simp[hb]
def qN{ex h b c mu tl}(hb: (fy ex h)[b]? =some (.cells c mu tl)):some b∉ex∧h[b]? =some (.cells c mu tl):=by
 rw[fy,List.getElem?_mapIdx]at hb;cases hk:h[b]? with
 | none=>rw[hk]at hb;cases hb
 | some k=>
  rw[hk]at hb;simp only[Zp,X1]at hb;split at hb
  ·cases hb
  case isFalse h1=>exact⟨h1,by rw[hb]⟩
def jg(k h:ah):Prop:=∀ (b:Nat) (c:List AV) (mu tl:Bool),k[b]? =some (aq.cells c mu tl)→h[b]? =some (aq.cells c mu tl)
def aK.sub{k h s es cs}(o:aK k s es cs)(e:jg k h):aK h s es cs:=by
 cases o with
 | nil=>exact .nil
 | mk hb hf ho he=>exact .mk (e _ _ _ _ hb) hf ho he
theorem aD.sub{k h V}(o:aD k V)(e:jg k h):aD h V:=
 ⟨o.i0.sub e,o.i1.sub e,o.i2.sub e,o.i3.sub e,o.i4.sub e,o.i5.sub e,fun x hx=>(o.e2 x hx).sub e,fun x hx=>(o.e3 x hx).sub e,fun x hx=>(o.e4 x hx).sub e⟩
theorem bo.sub{k h x}(o:bo k x)(e:jg k h):bo h x:=⟨o.n.sub e,o.v.sub e⟩
theorem jg.fy(ex:List (Option Nat))(h:ah):jg (fy ex h) h:=fun _ _ _ _ hb=>(qN hb).2
theorem aK.fy{h s es cs}(o:aK h s es cs){ex}(hx:∀b,sB s=some b→some b∉ex):aK (Go.Abs.fy ex h) s es cs:=by
 cases o with
 | nil=>exact .nil
 | mk hb hf ho he=>exact .mk ((tC (hx _ rfl)).trans hb) hf ho he
def aD.az{h k V}(o:aD h V)(hk:∀b,some b∈V.bl→k[b]? =h[b]?):aD k V:=by
 have m6:∀x∈[sB V.s0,sB V.s1,sB V.s2,sB V.s3,sB V.s4,sB V.s5],x∈V.bl:=fun x hx=>by simp only[RV.bl,XC];exact .inl (.inl (.inl hx))
 have kp:∀{s:AV} {es:Nat} {cs:List (List AV)},aK h s es cs→(∀b,sB s=some b→k[b]? =h[b]?)→aK k s es cs:=fun {s es cs} hs hb=>by
  cases hs with
  | nil=>exact .nil
  | mk h1 h2 h3 h4=>exact .mk ((hb _ rfl).trans h1) h2 h3 h4
 refine⟨kp o.i0 fun b hb=>hk b (hb▸m6 _ Si),kp o.i1 fun b hb=>hk b (hb▸m6 _ Si),kp o.i2 fun b hb=>hk b (hb▸m6 _ Si),kp o.i3 fun b hb=>hk b (hb▸m6 _ Si),kp o.i4 fun b hb=>hk b (hb▸m6 _ Si),kp o.i5 fun b hb=>hk b (hb▸m6 _ Si),
  fun x hx=>kp (o.e2 x hx) fun b hb=>hk b ?_,fun x hx=>kp (o.e3 x hx) fun b hb=>hk b ?_,fun x hx=>kp (o.e4 x hx) fun b hb=>hk b ?_⟩
 ·exact z138
 ·exact Jc
 ·exact I4
structure HV where
 de:List EV
 fc:List EV
 cO:List RV
 se:AV
 sc:AV
 sr:AV
def HV.bS(V:HV):ki:=⟨V.de.map EV.ev,V.fc.map EV.ev,V.cO.map RV.ar⟩
def HV.ex(b:Nat)(V:HV):List (Option Nat):=[some b,sB V.se,sB V.sc,sB V.sr]
structure cF(N:Nat)(h:ah)(b:Nat)(V:HV):Prop where
 hN:N≤b
 hb:h[b]? =some (.b [V.se,V.sc,V.sr])
 oe:Ow N h V.se 5 (V.de.map EV.row)
 oc:Ow N h V.sc 5 (V.fc.map EV.row)
 og:Ow N h V.sr 7 (V.cO.map RV.row)
 di:kP (V.ex b)
 ae:∀x∈V.de,bo (fy (V.ex b) h) x
 ac:∀x∈V.fc,bo (fy (V.ex b) h) x
 ag:∀x∈V.cO,aD (fy (V.ex b) h) x
 lo:∀x∈V.cO,∀j,some j∈x.bl→N≤j
def ng{ex ex' h h'}(hk:∀b,b < h.length→some b∉ex→h'[b]? =h[b]?)(he:∀b,b < h.length→some b∈ex'→some b∈ex):jg (fy ex h) (fy ex' h'):=by
 intro b c mu tl hb;obtain⟨h1,h2⟩:=qN hb;have hlt:b < h.length:=(Xr.1 h2).1;rw[tC fun h3=>h1 (he b hlt h3),hk b hlt h1,h2]
def cF.app{N h b V}(o:cF N h b V)(g:ah):cF N (h++g) b V:=by
 have hs:jg (fy (V.ex b) h) (fy (V.ex b) (h++g)):=ng (fun b hb _=>Xv hb) (fun b _ hb=>hb);have hbl:=(Xr.1 o.hb).1;exact⟨o.hN,(Xv hbl).trans o.hb,o.oe.aC fun b hb=>Xv (o.oe.bN hb).2,o.oc.aC fun b hb=>Xv (o.oc.bN hb).2,o.og.aC fun b hb=>Xv (o.og.bN hb).2,o.di,
  fun x hx=>(o.ae x hx).sub hs,fun x hx=>(o.ac x hx).sub hs,fun x hx=>(o.ag x hx).sub hs,o.lo⟩
end Go.Abs
namespace Go.Abs
def jN:By→Bool
 | []=>true
 | c::r=>fJ c && r.all jI
def sF(s:By):dU s= (decide (s≠[]) && decide (s.length≤24) && jN s):=by
 cases s with
 | nil=>rfl
 | cons c r=>
  have: (r.length < 24)= ((c::r).length≤24):=by simp;omega
  simp only[dU,jN,this];simp[Bool.and_assoc]
def zo{s:By}{k:Nat}(hk:k < s.length):jN (s.take (k+1))= (jN (s.take k) && (if k=0 then fJ s[k]else jI s[k])):=by
 cases s with
 | nil=>simp at hk
 | cons c r=>
  cases k with
  | zero=>simp[jN]
  | succ k=>
   have hk':k < r.length:=by simpa using hk
   simp only[Zo,jN,List.getElem_cons_succ];rw[Ye,Xw hk',Option.toList_some];rw[List.all_append,YY,List.all_nil,Bool.and_true,Bool.and_assoc,XG Om]
def zm{s k}(h:jN (s.take k)=false):jN s=false:=by
 cases s with
 | nil=>simp[jN]at h
 | cons c r=>
  cases k with
  | zero=>simp[jN]at h
  | succ k=>
   simp only[Zo,jN,Bool.and_eq_false_iff]at h ⊢;rcases h with h| h
   ·exact .inl h
   ·right
    rw[List.all_eq_false]at h ⊢;obtain⟨x,hx,hr⟩:=h;exact⟨x,YA hx,hr⟩
def dec_lt{s i}(hi:i < s.length)(h:s[i].toNat < 128):Utf8.decode ⟨⟨s⟩⟩ i= (s[i].toNat,1):=by
 have hg: (ByteArray.get! ⟨⟨s⟩⟩ i).toNat=s[i].toNat:=by
  simp[ByteArray.get!,hi]
 simp only[Utf8.decode,ZZ,hg,XI h]
def HD{s i}(hi:i < s.length)(h:128≤s[i].toNat):128≤(Utf8.decode ⟨⟨s⟩⟩ i).1:=by
 have hg: (ByteArray.get! ⟨⟨s⟩⟩ i).toNat=s[i].toNat:=by
  simp[ByteArray.get!,hi]
 simp only[Utf8.decode,ZZ,hg];rw[XG Om];simp only[Utf8.runeError]
 repeat' split
 all_goals first
  | (simp only;omega)
  | (simp only[X4,Yg]at *;omega)
section
variable {P:Program} (T:fA P) {h:ah}
include T
theorem r85(c:Bool)(e:Int):aA P 85 [.bool c,.i e] h (fun v _=>v= .i (bX c e)):=by
 refine .of T.mix T.c85 ?_;unfold fn85 CH;simp only[uset];cases c<;>simp only[aV]<;>rfl
theorem r82(c:Bool)(e:Int):aA P 82 [.bool c,.i e] h (fun v _=>v= .i (bX c e)):=by
 refine .of T.mix T.c82 ?_;unfold fn82 CH;simp only[uset];cases c<;>simp only[aV]<;>rfl
theorem r94(n lo hi:Int):aA P 94 [.i n,.i lo,.i hi] h (fun v _=>v= .i (bh n lo hi)):=by
 refine .of T.mix T.c94 ?_;unfold fn94;simp only[uset];simp+contextual only[aV,mv,XS,XX];refine⟨fun h1=>?_,fun h1=>?_⟩<;>
 ·refine WF.res T.c85 (r85 T _ _) ?_;rintro _ g rfl;simp only[aV];simp[bX,bh,h1]
theorem r74{s l}(hs:aK h s 1 (l.map aL))(hl:l.length < 2^63):aA P 74 [s] h (fun v _=>v= .i (aX l)):=by
 refine .of T.mix T.c74 ?_;unfold fn74;simp only[uset];have e1: (l.map aL).length=l.length:=Si
 simp only[aV,hs.iL,e1];refine WL.inv T.mix (fun n ts h'=>∃k:Nat,k≤l.length∧n=l.length - k∧h' =h∧aX l=aX (l.drop k)∧ts.length=15∧slot ts 5=s∧slot ts 6= .i l.length∧slot ts 7= .i k) l.length
  ⟨0,Om,rfl,rfl,rfl,rfl,rfl,rfl,rfl⟩ ?_
 rintro _ ts _ ⟨k,hk,rfl,rfl,hf,hlen,h5,h6,h7⟩;rw[kJ ts 15 hlen];by_cases hlt:k < l.length
 ·have hd:l.drop k=l[k]::l.drop (k+1):=Si
  have e2: (l.map aL)[k]'Om= [AV.i l[k]]:=Si
  have e3: (k:Int)< l.length:=Om
  simp+contextual (disch:=omega) only[aV,mv,h5,h6,h7,e3,XS,hs.ba,Int.toNat_natCast,hs.Fv _ e2,bp];exact Pg
 ·have e3:¬ (k:Int)< l.length:=Om
  have e4:k=l.length:=Om
  simp+contextual (disch:=omega) only[aV,h5,h6,h7,e3,XX,XR];rw[hf,e4,Ys];rfl
theorem r83{s l}(hs:aK h s 1 (l.map aL))(hl:l.length < 2^63):aA P 83 [s] h (fun v _=>v= .i (aX l)):=by
 refine .of T.mix T.c83 ?_;unfold fn83;simp only[uset];have e1: (l.map aL).length=l.length:=Si
 simp only[aV,hs.iL,e1];refine WL.inv T.mix (fun n ts h'=>∃k:Nat,k≤l.length∧n=l.length - k∧h' =h∧aX l=aX (l.drop k)∧ts.length=19∧slot ts 0=s∧slot ts 3= .i k) l.length
  ⟨0,Om,rfl,rfl,rfl,rfl,rfl,rfl⟩ ?_
 rintro _ ts _ ⟨k,hk,rfl,rfl,hf,hlen,h0,h3⟩;rw[kJ ts 19 hlen];by_cases hlt:k < l.length
 ·have hd:l.drop k=l[k]::l.drop (k+1):=Si
  have e2: (l.map aL)[k]'Om= [AV.i l[k]]:=Si
  have e3: (k:Int)< l.length:=Om
  simp+contextual (disch:=omega) only[aV,mv,h0,h3,e3,e1,XS,hs.iL,hs.ba,Int.toNat_natCast,hs.Fv _ e2,bp];exact Pg
 ·have e3:¬ (k:Int)< l.length:=Om
  have e4:k=l.length:=Om
  simp+contextual (disch:=omega) only[aV,h0,h3,e1,e3,XX,hs.iL,XR];rw[hf,e4,Ys];rfl
theorem r193(c:UInt8):aA P 193 [.int .u8 c.toNat] h (fun v _=>v= .bool (fJ c)):=by
 refine .of T.mix T.c193 ?_;unfold fn193;simp only[uset];simp+contextual only[aV,mv,XS,XX]
 grind [fJ]
theorem r194(c:UInt8):aA P 194 [.int .u8 c.toNat] h (fun v _=>v= .bool (eQ c)):=by
 refine .of T.mix T.c194 ?_;unfold fn194;simp only[uset];simp+contextual only[aV,mv,XS,XX]
 grind [eQ]
theorem r102(s:By)(hl:s.length < 2^63):aA P 102 [.str s] h (fun v _=>v= .bool (dU s)):=by
 refine .of T.mix T.c102 ?_;unfold fn102;simp only[uset];cases s with
 | nil=>
  simp only[aV,XA];simp only[show((0:Nat):Int)=0 from rfl,XS,aV];rfl
 | cons c r=>
  have e1:¬ (((c::r).length:Nat):Int)=0:=by simp;omega
  simp+contextual only[aV,mv,e1,XS,XX];refine⟨fun h1=>?_,fun h1=>?_⟩
  ·have:¬r.length < 24:=by simp at h1;omega
   simp[dU,this]
  ·rw[uY];simp only[aV];refine WF.ce T.c193 (r193 T _) fun g=>?_
   have hlt:r.length < 24:=by simp at h1;omega
   cases hc:fJ c with
   | false=>
    simp only[aV,XY];simp[dU,hc]
   | true=>
    simp only[aV,XW];have key:dU (c::r)=r.all jI:=by simp[dU,hc,hlt]
    refine WL.inv T.mix (fun n ts h'=>∃k:Nat,k≤r.length∧n=r.length - k∧Ext h h'∧r.all jI= (r.drop k).all jI∧ts.length=42∧slot ts 0= .str (c::r)∧slot ts 3= .i (k+1)) r.length
     ⟨0,Om,rfl,⟨_,rfl⟩,rfl,rfl,rfl,rfl⟩ ?_
    rintro _ ts _ ⟨k,hk,rfl,⟨g',rfl⟩,hf,hlen,h0,h3⟩;rw[kJ ts 42 hlen];have hlc: (c::r).length=r.length+1:=rfl;by_cases hlt:k < r.length
    ·have hd:r.drop k=r[k]::r.drop (k+1):=Si
     have e3: (k:Int)+1 < ((c::r).length:Nat):=Om
     have e4:uZ (.str (c::r)) (.i (k+1))=some (.int .u8 r[k].toNat):=jB (s:=c::r) (i:=k+1) Om;simp only[aV,h0,h3,e3,XS,e4];refine WF.ce T.c193 (r193 T _) fun g1=>?_
     cases hx:fJ r[k]with
     | true=>
      simp (disch:=omega) only[aV,XW,bp];exact⟨_,Om,k+1,Om,rfl,by rw[hf,hd,YY,jI,hx,Bool.true_or,Bool.true_or,YZ],rfl⟩
     | false=>
      simp only[aV,XY,h0,h3,e4];refine WF.ce T.c194 (r194 T _) fun g2=>?_
      cases hy:eQ r[k]with
      | true=>
       simp (disch:=omega) only[aV,XW,bp];exact⟨_,Om,k+1,Om,rfl,by rw[hf,hd,YY,jI,hx,hy,Bool.or_true,Bool.true_or,YZ],rfl⟩
      | false=>
       simp+contextual (disch:=omega) only[aV,mv,XY,h0,h3,e4,bp];refine⟨fun h9=>?_,fun h9=>⟨_,Om,k+1,Om,rfl,?_,rfl⟩⟩
       ·rw[key,hf,hd,YY,jI,hx,hy];simp;omega
       ·rw[hf,hd,YY,jI,hx,hy];simp;omega
    ·have e3:¬ (k:Int)+1 < ((c::r).length:Nat):=Om
     have e4:k=r.length:=Om
     simp only[aV,h0,h3,e3,XX,XR];rw[key,hf,e4,Ys];rfl
theorem r132(s:By):aA P 132 [.str s] h (fun v _=>v= .bool (dU s)):=by
 refine .of T.mix T.c132 ?_;unfold fn132;simp only[uset];simp only[aV,bd];refine WL.inv T.mix (fun n ts h'=>∃k:Nat,k≤s.length∧n=s.length - k∧h' =h++ [.iter s k]∧jN (s.take k)=true∧ts.length=54∧slot ts 0= .str s∧slot ts 8= .ptr h.length 0) s.length
  ⟨0,Om,rfl,rfl,rfl,rfl,rfl,rfl⟩ ?_
 rintro _ ts _ ⟨k,hk,rfl,rfl,hf,hlen,h0,h8⟩;rw[kJ ts 54 hlen];by_cases hlt:k < s.length
 ·have Q3:=zo hlt;rw[hf,YZ]at Q3;obtain⟨c,w,SG,hcw⟩:∃c w,Utf8.decode ⟨⟨s⟩⟩ k= (c,w)∧(c=s[k].toNat∧w=1∨128≤c∧128≤s[k].toNat):=by
   by_cases hc:s[k].toNat < 128
   ·exact⟨_,_,dec_lt hlt hc,.inl ⟨rfl,rfl⟩⟩
   ·exact IJ
  have So: (if k=0 then fJ s[k]else jI s[k])=false→AV.bool false=AV.bool (dU s):=fun hb=>by
   rw[hb]at Q3;rw[sF,zm Q3,Bool.and_false]
  have VP:∀w',c=s[k].toNat∧w' =1→(if k=0 then fJ s[k]else jI s[k])=true→∃m,m < s.length - k∧∃k_1,k_1≤s.length∧m=s.length - k_1∧h++ [aq.iter s (k+w')]=h++ [aq.iter s k_1]∧jN (List.take k_1 s)=true∧True:=fun w' hw hb=>by
   rw[hb]at Q3;exact⟨_,Om,k+1,Om,rfl,by rw[hw.2],Q3,trivial⟩
  have hl:fJ s[k]= (decide (65≤s[k].toNat) && decide (s[k].toNat≤90)|| decide (97≤s[k].toNat) && decide (s[k].toNat≤122)):=rfl;have hr:jI s[k]= (fJ s[k]|| (decide (48≤s[k].toNat) && decide (s[k].toNat≤57))|| s[k].toNat==95):=rfl;have h0': ((k:Int)=0)= (k=0):=Si
  by_cases a1: (65:Int)≤c<;>by_cases a2: (c:Int)≤90<;>by_cases a3: (97:Int)≤c<;>by_cases a4: (c:Int)≤122<;>first| (exfalso;omega)| skip
  all_goals by_cases a5: (48:Int)≤c<;>by_cases a6: (c:Int)≤57<;>by_cases a7: (c:Int)=95<;>first| (exfalso;omega)| skip
  all_goals first| have b7:=YV a7| have b7:=Z7 a7
  all_goals simp only[aV,bd,h0,h8,dS,hlt,XR,SG,a1,a2,a3,a4,a5,a6,b7,XS,XX,XW,XY]
  all_goals first
   | exact VP _ Om (by grind)
   | (by_cases hk0: (k:Int)=0<;>simp only[aV,bd,hk0,XS,XX,XW,XY]<;>first
     | exact So (by grind)
     | exact VP _ Om (by grind))
   | exact So (by grind)
 ·simp only[aV,bd,h0,h8,dS,hlt,XO,XR];have e4:k=s.length:=Om
  rw[e4,X8]at hf;by_cases he:s= []<;>simp only[aV,he,XS,XX,ne_eq,not_true_eq_false,not_false_eq_true]
  ·rfl
  ·rw[sF,hf];simp[he];omega
end
end Go.Abs
namespace Go.Abs
def eD{α:Type}{f:α→By}{L:List α}{n:By}(h:n∈L.map f):cS (fun x=>decide (f x=n)) L= (bj (L.map f) n:Int):=by
 have e:bj (L.map f) n=L.findIdx fun x=>decide (f x=n):=by
  rw[bj,List.findIdx_map];rfl
 have hlt:=cP h;rw[e,XB]at hlt;rw[e,cS,List.findIdx?_eq_guard_findIdx_lt];simp[Option.guard,hlt]
def eZ{α:Type}{f:α→By}{L:List α}{n:By}:decide (0≤cS (fun x=>decide (f x=n)) L)=decide (n∈L.map f):=by
 rw[nM];rw[Bool.eq_iff_iff];simp[Y9]
section
variable {P:Program} (T:fA P) {h:ah}
include T
theorem r230{α:Type}{row L s f}(hs:aK h s 3 (L.map row))(hl:L.length < 2^63)(p:α→Bool)
  (hf:∀x,x∈L→∀k,Ext h k→bG P f [.agg (row x)] k (fun v _=>v= .bool (p x))):aA P 230 [s,f] h (fun v _=>v= .i (cS p L)):=by
 refine .of T.mix T.c230 ?_;unfold fn230 kr;exact z1
theorem r232{α:Type}{row L s f}(hs:aK h s 2 (L.map row))(hl:L.length < 2^63)(p:α→Bool)
  (hf:∀x,x∈L→∀k,Ext h k→bG P f [.agg (row x)] k (fun v _=>v= .bool (p x))):aA P 232 [s,f] h (fun v _=>v= .i (cS p L)):=by
 refine .of T.mix T.c232 ?_;unfold fn232 kr;exact z1
theorem r228{α:Type}{row L s f}(hs:aK h s 3 (L.map row))(hl:L.length < 2^63)(p:α→Bool)
  (hf:∀x,x∈L→∀k,Ext h k→bG P f [.agg (row x)] k (fun v _=>v= .bool (p x))):aA P 228 [s,f] h (fun v _=>v= .i (cS p L)):=by
 refine .of T.mix T.c228 ?_;unfold fn228 kr;exact z1
theorem r234{α:Type}{row L s f}(hs:aK h s 4 (L.map row))(hl:L.length < 2^63)(p:α→Bool)
  (hf:∀x,x∈L→∀k,Ext h k→bG P f [.agg (row x)] k (fun v _=>v= .bool (p x))):aA P 234 [s,f] h (fun v _=>v= .i (cS p L)):=by
 refine .of T.mix T.c234 ?_;unfold fn234 kr;exact z1
theorem r236{α:Type}{row L s f}(hs:aK h s 3 (L.map row))(hl:L.length < 2^63)(p:α→Bool)
  (hf:∀x,x∈L→∀k,Ext h k→bG P f [.agg (row x)] k (fun v _=>v= .bool (p x))):aA P 236 [s,f] h (fun v _=>v= .i (cS p L)):=by
 refine .of T.mix T.c236 ?_;unfold fn236 kr;exact z1
theorem r238{α:Type}{row L s f}(hs:aK h s 4 (L.map row))(hl:L.length < 2^63)(p:α→Bool)
  (hf:∀x,x∈L→∀k,Ext h k→bG P f [.agg (row x)] k (fun v _=>v= .bool (p x))):aA P 238 [s,f] h (fun v _=>v= .i (cS p L)):=by
 refine .of T.mix T.c238 ?_;unfold fn238 kr;exact z1
theorem r246{α:Type}{row:α→List AV}{L:List α}{s f:AV}(hs:aK h s 3 (L.map row))(hl:L.length < 2^63)(p:α→Bool)
  (hf:∀x,x∈L→∀k,Ext h k→bG P f [.agg (row x)] k (fun v _=>v= .bool (p x))):aA P 246 [s,f] h (fun v _=>v= .bool (L.any p)):=by
 refine .of T.mix T.c246 ?_;unfold fn246 pq;refine Wn ?_;refine WF.ce T.c230 (r230 T hs hl p hf) fun g=>?_
 exact Ws @nM Tv
theorem r243{α:Type}{row:α→List AV}{L:List α}{s f:AV}(hs:aK h s 3 (L.map row))(hl:L.length < 2^63)(p:α→Bool)
  (hf:∀x,x∈L→∀k,Ext h k→bG P f [.agg (row x)] k (fun v _=>v= .bool (p x))):aA P 243 [s,f] h (fun v _=>v= .bool (L.any p)):=by
 refine .of T.mix T.c243 ?_;unfold fn243 pq;refine Wn ?_;refine WF.ce T.c228 (r228 T hs hl p hf) fun g=>?_
 exact Ws @nM Tv
theorem r268{α:Type}{row:α→List AV}{L:List α}{s f:AV}(hs:aK h s 4 (L.map row))(hl:L.length < 2^63)(p:α→Bool)
  (hf:∀x,x∈L→∀k,Ext h k→bG P f [.agg (row x)] k (fun v _=>v= .bool (p x))):aA P 268 [s,f] h (fun v _=>v= .bool (L.any p)):=by
 refine .of T.mix T.c268 ?_;unfold fn268 pq;refine Wn ?_;refine WF.ce T.c238 (r238 T hs hl p hf) fun g=>?_
 exact Ws @nM Tv
theorem r123(x:gQ):aA P 123 [.agg (cj x)] h (fun v _=>v= .str x.name):=by
 refine .of T.mix T.c123 ?_;unfold fn123 kv cj;exact Wn Tv
theorem r231(x:gQ){b n}(hb:h[b]? =some (.b [.str n])):aA P 231 [.agg (cj x),.ptr b 0] h (fun v _=>v= .bool (decide (x.name=n))):=by
 refine .of T.mix T.c231 ?_;unfold fn231 ko;have hlt:=(Xr.1 hb).1;have hld:∀g:ah,ao none (.ptr b 0) (fun z=>(h++g)[z]?)=cp none 0 (.b [.str n]):=fun g=>an (by rw[c6 _ hlt];exact hb)
 have RE:∀g g':ah,ao none (.ptr b 0) (fun z=>(h++g++g')[z]?)=cp none 0 (.b [.str n]):=fun g g'=>an (by rw[Xt,c6 _ hlt];exact hb)
 unfold cj;refine Ws (A3 @hld @RE @jP) ?_;refine WF.val (bG.zg T.m123 T.c123 (r123 T x)) ?_;rintro _ g1 rfl;exact yN
theorem r142{L s}(hs:aK h s 3 (L.map cj))(hl:L.length < 2^63)(n:By):aA P 142 [s,.str n] h (fun v _=>v= .i (cS (fun x=>decide (x.name=n)) L)):=by
 refine .of T.mix T.c142 ?_;unfold fn142 ku;refine Wn ?_;refine WF.ce T.c230 (r230 T (hs.ext (by repeat first| exact Ext.refl _| refine Ext.app _ ?_)) hl (fun x=>decide (x.name=n)) (fun x hx k e=>bG.of (a:=[]) (c:=[.ptr h.length 0]) T.c231 (r231 T x (e.some bf)))) fun g1=>?_
 exact Wn Tv
theorem r322(x:rA):aA P 322 [.agg (dO x)] h (fun v _=>v= .str x.name):=by
 refine .of T.mix T.c322 ?_;unfold fn322 kv dO;exact Wn Tv
theorem r233(x:rA){b n}(hb:h[b]? =some (.b [.str n])):aA P 233 [.agg (dO x),.ptr b 0] h (fun v _=>v= .bool (decide (x.name=n))):=by
 refine .of T.mix T.c233 ?_;unfold fn233 ko;have hlt:=(Xr.1 hb).1;have hld:∀g:ah,ao none (.ptr b 0) (fun z=>(h++g)[z]?)=cp none 0 (.b [.str n]):=fun g=>an (by rw[c6 _ hlt];exact hb)
 have RE:∀g g':ah,ao none (.ptr b 0) (fun z=>(h++g++g')[z]?)=cp none 0 (.b [.str n]):=fun g g'=>an (by rw[Xt,c6 _ hlt];exact hb)
 unfold dO;refine Ws (A3 @hld @RE @jP) ?_;refine WF.val (bG.zg T.m322 T.c322 (r322 T x)) ?_;rintro _ g1 rfl;exact yN
theorem r143{L s}(hs:aK h s 2 (L.map dO))(hl:L.length < 2^63)(n:By):aA P 143 [s,.str n] h (fun v _=>v= .i (cS (fun x=>decide (x.name=n)) L)):=by
 refine .of T.mix T.c143 ?_;unfold fn143 ku;refine Wn ?_;refine WF.ce T.c232 (r232 T (hs.ext (by repeat first| exact Ext.refl _| refine Ext.app _ ?_)) hl (fun x=>decide (x.name=n)) (fun x hx k e=>bG.of (a:=[]) (c:=[.ptr h.length 0]) T.c233 (r233 T x (e.some bf)))) fun g1=>?_
 exact Wn Tv
theorem r140(x:jh×AV)(ho:x.2.one=true):aA P 140 [.agg (bg x)] h (fun v _=>v= .str x.1.name):=by
 refine .of T.mix T.c140 ?_;unfold fn140 kv bg;exact Ws @ho Tv
theorem r229(x:jh×AV)(ho:x.2.one=true){b n}(hb:h[b]? =some (.b [.str n])):aA P 229 [.agg (bg x),.ptr b 0] h (fun v _=>v= .bool (decide (x.1.name=n))):=by
 refine .of T.mix T.c229 ?_;unfold fn229 ko;have hlt:=(Xr.1 hb).1;have hld:∀g:ah,ao none (.ptr b 0) (fun z=>(h++g)[z]?)=cp none 0 (.b [.str n]):=fun g=>an (by rw[c6 _ hlt];exact hb)
 have RE:∀g g':ah,ao none (.ptr b 0) (fun z=>(h++g++g')[z]?)=cp none 0 (.b [.str n]):=fun g g'=>an (by rw[Xt,c6 _ hlt];exact hb)
 unfold bg;refine Ws (A4 @hld @RE @ho @jP) ?_;refine WF.val (bG.zg T.m140 T.c140 (r140 T x ho)) ?_;rintro _ g1 rfl;exact yN
theorem r136{L s}(hs:aK h s 3 (L.map bg))(ho:∀x∈L,x.2.one=true)(hl:L.length < 2^63)(n:By):aA P 136 [s,.str n] h (fun v _=>v= .i (cS (fun x=>decide (x.1.name=n)) L)):=by
 refine .of T.mix T.c136 ?_;unfold fn136 ku;refine Wn ?_;refine WF.ce T.c228 (r228 T (hs.ext (by repeat first| exact Ext.refl _| refine Ext.app _ ?_)) hl (fun x=>decide (x.1.name=n)) (fun x hx k e=>bG.of (a:=[]) (c:=[.ptr h.length 0]) T.c229 (r229 T x (ho x hx) (e.some bf)))) fun g1=>?_
 exact Wn Tv
theorem r120(x:gP×AV)(ho:x.2.one=true):aA P 120 [.agg (aU x)] h (fun v _=>v= .str x.1.name):=by
 refine .of T.mix T.c120 ?_;unfold fn120 kv aU;exact Ws @ho Tv
theorem r235(x:gP×AV)(ho:x.2.one=true){b n}(hb:h[b]? =some (.b [.str n])):aA P 235 [.agg (aU x),.ptr b 0] h (fun v _=>v= .bool (decide (x.1.name=n))):=by
 refine .of T.mix T.c235 ?_;unfold fn235 ko;have hlt:=(Xr.1 hb).1;have hld:∀g:ah,ao none (.ptr b 0) (fun z=>(h++g)[z]?)=cp none 0 (.b [.str n]):=fun g=>an (by rw[c6 _ hlt];exact hb)
 have RE:∀g g':ah,ao none (.ptr b 0) (fun z=>(h++g++g')[z]?)=cp none 0 (.b [.str n]):=fun g g'=>an (by rw[Xt,c6 _ hlt];exact hb)
 unfold aU;refine Ws (A4 @hld @RE @ho @jP) ?_;refine WF.val (bG.zg T.m120 T.c120 (r120 T x ho)) ?_;rintro _ g1 rfl;exact yN
theorem r144{L s}(hs:aK h s 4 (L.map aU))(ho:∀x∈L,x.2.one=true)(hl:L.length < 2^63)(n:By):aA P 144 [s,.str n] h (fun v _=>v= .i (cS (fun x=>decide (x.1.name=n)) L)):=by
 refine .of T.mix T.c144 ?_;unfold fn144 ku;refine Wn ?_;refine WF.ce T.c234 (r234 T (hs.ext (by repeat first| exact Ext.refl _| refine Ext.app _ ?_)) hl (fun x=>decide (x.1.name=n)) (fun x hx k e=>bG.of (a:=[]) (c:=[.ptr h.length 0]) T.c235 (r235 T x (ho x hx) (e.some bf)))) fun g1=>?_
 exact Wn Tv
theorem r324(x:kK×AV)(ho:x.2.one=true):aA P 324 [.agg (bO x)] h (fun v _=>v= .str x.1.name):=by
 refine .of T.mix T.c324 ?_;unfold fn324 kv bO;exact Ws @ho Tv
theorem r237(x:kK×AV)(ho:x.2.one=true){b n}(hb:h[b]? =some (.b [.str n])):aA P 237 [.agg (bO x),.ptr b 0] h (fun v _=>v= .bool (decide (x.1.name=n))):=by
 refine .of T.mix T.c237 ?_;unfold fn237 ko;have hlt:=(Xr.1 hb).1;have hld:∀g:ah,ao none (.ptr b 0) (fun z=>(h++g)[z]?)=cp none 0 (.b [.str n]):=fun g=>an (by rw[c6 _ hlt];exact hb)
 have RE:∀g g':ah,ao none (.ptr b 0) (fun z=>(h++g++g')[z]?)=cp none 0 (.b [.str n]):=fun g g'=>an (by rw[Xt,c6 _ hlt];exact hb)
 unfold bO;refine Ws (A4 @hld @RE @ho @jP) ?_;refine WF.val (bG.zg T.m324 T.c324 (r324 T x ho)) ?_;rintro _ g1 rfl;exact yN
theorem r145{L s}(hs:aK h s 3 (L.map bO))(ho:∀x∈L,x.2.one=true)(hl:L.length < 2^63)(n:By):aA P 145 [s,.str n] h (fun v _=>v= .i (cS (fun x=>decide (x.1.name=n)) L)):=by
 refine .of T.mix T.c145 ?_;unfold fn145 ku;refine Wn ?_;refine WF.ce T.c236 (r236 T (hs.ext (by repeat first| exact Ext.refl _| refine Ext.app _ ?_)) hl (fun x=>decide (x.1.name=n)) (fun x hx k e=>bG.of (a:=[]) (c:=[.ptr h.length 0]) T.c237 (r237 T x (ho x hx) (e.some bf)))) fun g1=>?_
 exact Wn Tv
theorem r323(x:p6):aA P 323 [.agg (da x)] h (fun v _=>v= .str x.name):=by
 refine .of T.mix T.c323 ?_;unfold fn323 kv da;exact Wn Tv
theorem r239(x:p6){b n}(hb:h[b]? =some (.b [.str n])):aA P 239 [.agg (da x),.ptr b 0] h (fun v _=>v= .bool (decide (x.name=n))):=by
 refine .of T.mix T.c239 ?_;unfold fn239 ko;have hlt:=(Xr.1 hb).1;have hld:∀g:ah,ao none (.ptr b 0) (fun z=>(h++g)[z]?)=cp none 0 (.b [.str n]):=fun g=>an (by rw[c6 _ hlt];exact hb)
 have RE:∀g g':ah,ao none (.ptr b 0) (fun z=>(h++g++g')[z]?)=cp none 0 (.b [.str n]):=fun g g'=>an (by rw[Xt,c6 _ hlt];exact hb)
 unfold da;refine Ws (A3 @hld @RE @jP) ?_;refine WF.val (bG.zg T.m323 T.c323 (r323 T x)) ?_;rintro _ g1 rfl;exact yN
theorem r146{L s}(hs:aK h s 4 (L.map da))(hl:L.length < 2^63)(n:By):aA P 146 [s,.str n] h (fun v _=>v= .i (cS (fun x=>decide (x.name=n)) L)):=by
 refine .of T.mix T.c146 ?_;unfold fn146 ku;refine Wn ?_;refine WF.ce T.c238 (r238 T (hs.ext (by repeat first| exact Ext.refl _| refine Ext.app _ ?_)) hl (fun x=>decide (x.name=n)) (fun x hx k e=>bG.of (a:=[]) (c:=[.ptr h.length 0]) T.c239 (r239 T x (e.some bf)))) fun g1=>?_
 exact Wn Tv
end
def aK.Nt{h s es cs}(hs:aK h s es cs): (s= .af∧cs= [])∨(∀neg:Bool,tK neg (o6 .wR s .af)=some (.bool neg)):=by
 cases hs with
 | nil=>exact .inl ⟨rfl,rfl⟩
 | mk hb hf ho he=>right;intro neg;cases neg<;>rfl
def Bs:tK false (o6 .wR .af .af)=some (.bool true):=rfl
attribute [local irreducible] WP WC WE WB WR WF WL WG fV
section
variable {P:Program} (T:fA P) {h:ah}
include T
theorem r177{s cs}(hs:aK h s 1 cs)(hl:cs.length≤2^40):aA P 177 [s] h (fun v h'=>Fr h.length h' v 1 cs):=by
 refine .of T.mix T.c177 ?_;unfold fn177;exact Mo
theorem r178{s cs}(hs:aK h s 1 cs)(hl:cs.length≤2^40):aA P 178 [s] h (fun v h'=>Fr h.length h' v 1 cs):=by
 refine .of T.mix T.c178 ?_;unfold fn178;exact Mo
theorem r179{s cs}(hs:aK h s 2 cs)(hl:cs.length≤2^40):aA P 179 [s] h (fun v h'=>Fr h.length h' v 2 cs):=by
 refine .of T.mix T.c179 ?_;unfold fn179;exact Mo
theorem r181(x:jh×AV)(hx:aK h x.2 1 (x.1.aJ.map au))(hl:x.1.aJ.length≤2^40):aA P 181 [.agg (bg x)] h (fun v h'=>∃s',v= .agg (bg (x.1,s'))∧Fr h.length h' s' 1 (x.1.aJ.map au)):=by
 refine .of T.mix T.c181 ?_;obtain⟨ts,Qn⟩:∃ts,ts=aT 8 [.agg (bg x)]:=⟨_,rfl⟩;have hlen:ts.length=8:=by rw[Qn];rfl
 have t0:slot ts 0= .agg (bg x):=by rw[Qn];rfl
 unfold fn181 xP;show WC P bR _ [] (aT 8 [.agg (bg x)]) h _;rw[←Qn];clear Qn;have o1:=hx.one;unfold bg at t0 ⊢;exact Pk
theorem r183(x:gP×AV)(hx:aK h x.2 1 (x.1.bu.map au))(hl:x.1.bu.length≤2^40):aA P 183 [.agg (aU x)] h (fun v h'=>∃s',v= .agg (aU (x.1,s'))∧Fr h.length h' s' 1 (x.1.bu.map au)):=by
 refine .of T.mix T.c183 ?_;obtain⟨ts,Qn⟩:∃ts,ts=aT 8 [.agg (aU x)]:=⟨_,rfl⟩;have hlen:ts.length=8:=by rw[Qn];rfl
 have t0:slot ts 0= .agg (aU x):=by rw[Qn];rfl
 unfold fn183;show WC P bR _ [] (aT 8 [.agg (aU x)]) h _;rw[←Qn];clear Qn;have o1:=hx.one;unfold aU at t0 ⊢;exact Pk
theorem r185(x:kK×AV)(hx:aK h x.2 1 (x.1.bw.map aL))(hl:x.1.bw.length≤2^40):aA P 185 [.agg (bO x)] h (fun v h'=>∃s',v= .agg (bO (x.1,s'))∧Fr h.length h' s' 1 (x.1.bw.map aL)):=by
 refine .of T.mix T.c185 ?_;obtain⟨ts,Qn⟩:∃ts,ts=aT 8 [.agg (bO x)]:=⟨_,rfl⟩;have hlen:ts.length=8:=by rw[Qn];rfl
 have t0:slot ts 0= .agg (bO x):=by rw[Qn];rfl
 unfold fn185 xP;show WC P bR _ [] (aT 8 [.agg (bO x)]) h _;rw[←Qn];clear Qn;have o1:=hx.one;unfold bO at t0 ⊢;refine Rs (A2 t0 @o1) ?_;refine WF.res T.c178 (r178 T (hx.ext Xx) (by simp;omega)) ?_;rintro s' g1 hf;have o2:=hf.a8.one;refine Rs (A3 t0 @o1 @o2) ?_;exact⟨s',rfl,(Fr.swap hf Si).low Si⟩
set_option maxRecDepth 10000 in
theorem r91(x:EV)(hx:bo h x)(hl:x.ev.names.length≤2^40∧x.ev.cC.length≤2^40):aA P 91 [.agg x.row] h (fun v h'=>∃x':EV,x'.ev=x.ev∧v= .agg x'.row∧Fr h.length h' x'.sn 1 (x.ev.names.map au)∧Fr h.length h' x'.sv 1 (x.ev.cC.map aL)):=by
 refine .of T.mix T.c91 ?_;obtain⟨ts,Qn⟩:∃ts,ts=aT 12 [.agg x.row]:=⟨_,rfl⟩;have hlen:ts.length=12:=by rw[Qn];rfl
 have t0:slot ts 0= .agg x.row:=by rw[Qn];rfl
 unfold fn91;show WC P bR _ [] (aT 12 [.agg x.row]) h _;rw[←Qn];clear Qn;have o1:=hx.n.one;have o2:=hx.v.one;unfold EV.row at t0 ⊢;refine Rs (A3 t0 @o1 @o2) ?_;refine WF.res T.c177 (r177 T (hx.n.ext Xx) (by simp;omega)) ?_;rintro s1 g1 TK;have o3:=TK.a8.one;refine Rs (A4 t0 @o1 @o2 @o3) ?_;refine WF.res T.c178 (r178 T (hx.v.ext Xx) (by simp;omega)) ?_;rintro s2 g2 SY;have o4:=SY.a8.one;refine Rs (A5 t0 @o1 @o2 @o3 @o4) ?_;refine⟨⟨x.ev,s1,s2⟩,rfl,rfl,?_,?_⟩
 ·exact((Fr.swap TK Si).app _).low Si
 ·exact(Fr.swap SY Si).low Si
theorem r130{L:List (By)}{s f:AV}(hs:aK h s 1 (L.map au))(hl:L.length≤2^40)(F: (By)→Int)(hf:∀x,x∈L→∀k,Ext h k→bG P f [.str x] k (fun v _=>v= .i (F x))):
  aA P 130 [s,f] h (fun v h'=>Fr h.length h' v 1 ((L.map F).map aL)):=by
 refine .of T.mix T.c130 ?_;unfold fn130 CG;refine Ws hs.aP ?_;refine WL.inv T.mix (fun n ts h'=>∃ (k:Nat) (out:AV),k≤L.length∧n=L.length - k∧Ext h h'∧Fr h.length h' out 1 (((L.take k).map F).map aL)∧ts.length=22∧slot ts 1=f∧slot ts 5=out∧slot ts 8=s∧slot ts 9= .i L.length∧slot ts 10= .i k) L.length
  ⟨0,.af,Om,rfl,Ext.refl h,.nil,rfl,rfl,rfl,rfl,rfl,rfl⟩ ?_
 rintro _ ts _ ⟨k,out,hk,rfl,⟨g,rfl⟩,hfr,hlen,t1,t5,t8,t9,t10⟩;rw[kJ ts 22 hlen];by_cases hlt:k < L.length
 ·have e3: (k:Int)< L.length:=Om
  have hvk:=hf L[k] Si;have UW:∀{kk:ah},Ext h kk→ao none (cV s 1 k) (fun b=>kk[b]?)=some (.str L[k],.az):=fun {kk} e=>hs.kO hlt rfl e
  simp only[aV,bd,bD,bE,reduceAdd,reduceMul,reduceLeDiff,reduceEqDiff,t1,t5,t8,t9,t10,e3,XS,hs.dG hlt,UW];refine WF.val (hvk _ (by repeat first| exact Ext.refl _| refine Ext.app _ ?_)) ?_;rintro _ g1 rfl;refine Wn ?_;refine WR.fw (h0:=h) (cs:=((L.take k).map F).map aL) (ys:=[aL (F L[k])]) (((hfr.app _).app _)) (Fr.push (N:=0) (X3 _) [aL (F L[k])] (by simp[aL])).a8 De Si (by simp;omega) (by simp only[rK]) ?_;intro g' Qz hff hkp;have hrow: ((L.take k).map F).map aL++ [aL (F L[k])]= ((L.take (k+1)).map F).map aL:=by rw[Ye,Xw hlt,XD,XD];rfl
  exact z6
 ·exact z5
theorem r92{L:List (Int)}{s f:AV}(hs:aK h s 1 (L.map aL))(hl:L.length≤2^40)(F: (Int)→Int)(hf:∀x,x∈L→∀k,Ext h k→bG P f [.i x] k (fun v _=>v= .i (F x))):
  aA P 92 [s,f] h (fun v h'=>Fr h.length h' v 1 ((L.map F).map aL)):=by
 refine .of T.mix T.c92 ?_;unfold fn92 CG;refine Ws hs.aP ?_;refine WL.inv T.mix (fun n ts h'=>∃ (k:Nat) (out:AV),k≤L.length∧n=L.length - k∧Ext h h'∧Fr h.length h' out 1 (((L.take k).map F).map aL)∧ts.length=22∧slot ts 1=f∧slot ts 5=out∧slot ts 8=s∧slot ts 9= .i L.length∧slot ts 10= .i k) L.length
  ⟨0,.af,Om,rfl,Ext.refl h,.nil,rfl,rfl,rfl,rfl,rfl,rfl⟩ ?_
 rintro _ ts _ ⟨k,out,hk,rfl,⟨g,rfl⟩,hfr,hlen,t1,t5,t8,t9,t10⟩;rw[kJ ts 22 hlen];by_cases hlt:k < L.length
 ·have e3: (k:Int)< L.length:=Om
  have hvk:=hf L[k] Si;have UW:∀{kk:ah},Ext h kk→ao none (cV s 1 k) (fun b=>kk[b]?)=some (.i L[k],.az):=fun {kk} e=>hs.kO hlt rfl e
  simp only[aV,bd,bD,bE,reduceAdd,reduceMul,reduceLeDiff,reduceEqDiff,t1,t5,t8,t9,t10,e3,XS,hs.dG hlt,UW];refine WF.val (hvk _ (by repeat first| exact Ext.refl _| refine Ext.app _ ?_)) ?_;rintro _ g1 rfl;refine Wn ?_;refine WR.fw (h0:=h) (cs:=((L.take k).map F).map aL) (ys:=[aL (F L[k])]) (((hfr.app _).app _)) (Fr.push (N:=0) (X3 _) [aL (F L[k])] (by simp[aL])).a8 De Si (by simp;omega) (by simp only[rK]) ?_;intro g' Qz hff hkp;have hrow: ((L.take k).map F).map aL++ [aL (F L[k])]= ((L.take (k+1)).map F).map aL:=by rw[Ye,Xw hlt,XD,XD];rfl
  exact z6
 ·exact z5
theorem r199{L:List (Int)}{s f:AV}(hs:aK h s 1 (L.map aL))(hl:L.length≤2^40)(F: (Int)→By)(hf:∀x,x∈L→∀k,Ext h k→bG P f [.i x] k (fun v _=>v= .str (F x))):
  aA P 199 [s,f] h (fun v h'=>Fr h.length h' v 1 ((L.map F).map au)):=by
 refine .of T.mix T.c199 ?_;unfold fn199;refine Ws hs.aP ?_;refine WL.inv T.mix (fun n ts h'=>∃ (k:Nat) (out:AV),k≤L.length∧n=L.length - k∧Ext h h'∧Fr h.length h' out 1 (((L.take k).map F).map au)∧ts.length=22∧slot ts 1=f∧slot ts 5=out∧slot ts 8=s∧slot ts 9= .i L.length∧slot ts 10= .i k) L.length
  ⟨0,.af,Om,rfl,Ext.refl h,.nil,rfl,rfl,rfl,rfl,rfl,rfl⟩ ?_
 rintro _ ts _ ⟨k,out,hk,rfl,⟨g,rfl⟩,hfr,hlen,t1,t5,t8,t9,t10⟩;rw[kJ ts 22 hlen];by_cases hlt:k < L.length
 ·have e3: (k:Int)< L.length:=Om
  have hvk:=hf L[k] Si;have UW:∀{kk:ah},Ext h kk→ao none (cV s 1 k) (fun b=>kk[b]?)=some (.i L[k],.az):=fun {kk} e=>hs.kO hlt rfl e
  simp only[aV,bd,bD,bE,reduceAdd,reduceMul,reduceLeDiff,reduceEqDiff,t1,t5,t8,t9,t10,e3,XS,hs.dG hlt,UW];refine WF.val (hvk _ (by repeat first| exact Ext.refl _| refine Ext.app _ ?_)) ?_;rintro _ g1 rfl;refine Wn ?_;refine WR.fw (h0:=h) (cs:=((L.take k).map F).map au) (ys:=[au (F L[k])]) (((hfr.app _).app _)) (Fr.push (N:=0) (X3 _) [au (F L[k])] (by simp[au])).a8 De Si (by simp;omega) (by simp only[rK]) ?_;intro g' Qz hff hkp;have hrow: ((L.take k).map F).map au++ [au (F L[k])]= ((L.take (k+1)).map F).map au:=by rw[Ye,Xw hlt,XD,XD];rfl
  exact z6
 ·exact z5
theorem r137{L:List (jh×AV)}{s f:AV}(hs:aK h s 3 (L.map bg))(ho:∀x∈L,x.2.one=true)(hl:L.length≤2^40)(F: (jh×AV)→By)(hf:∀x,x∈L→∀k,Ext h k→bG P f [.agg (bg x)] k (fun v _=>v= .str (F x))):
  aA P 137 [s,f] h (fun v h'=>Fr h.length h' v 1 ((L.map F).map au)):=by
 refine .of T.mix T.c137 ?_;unfold fn137;refine Ws hs.aP ?_;refine WL.inv T.mix (fun n ts h'=>∃ (k:Nat) (out:AV),k≤L.length∧n=L.length - k∧Ext h h'∧Fr h.length h' out 1 (((L.take k).map F).map au)∧ts.length=22∧slot ts 1=f∧slot ts 5=out∧slot ts 8=s∧slot ts 9= .i L.length∧slot ts 10= .i k) L.length
  ⟨0,.af,Om,rfl,Ext.refl h,.nil,rfl,rfl,rfl,rfl,rfl,rfl⟩ ?_
 rintro _ ts _ ⟨k,out,hk,rfl,⟨g,rfl⟩,hfr,hlen,t1,t5,t8,t9,t10⟩;rw[kJ ts 22 hlen];by_cases hlt:k < L.length
 ·have e3: (k:Int)< L.length:=Om
  have hvk:=hf L[k] Si;simp only[aV,bd,bD,bE,reduceAdd,reduceMul,reduceLeDiff,reduceEqDiff,t1,t5,t8,t9,t10,e3,XS,hs.dG hlt,hs.kB hlt,bg,ho L[k] Si];exact z4
 ·exact z5
theorem r121{L:List (gQ)}{s f:AV}(hs:aK h s 3 (L.map cj))(hl:L.length≤2^40)(F: (gQ)→By)(hf:∀x,x∈L→∀k,Ext h k→bG P f [.agg (cj x)] k (fun v _=>v= .str (F x))):
  aA P 121 [s,f] h (fun v h'=>Fr h.length h' v 1 ((L.map F).map au)):=by
 refine .of T.mix T.c121 ?_;unfold fn121;refine Ws hs.aP ?_;refine WL.inv T.mix (fun n ts h'=>∃ (k:Nat) (out:AV),k≤L.length∧n=L.length - k∧Ext h h'∧Fr h.length h' out 1 (((L.take k).map F).map au)∧ts.length=22∧slot ts 1=f∧slot ts 5=out∧slot ts 8=s∧slot ts 9= .i L.length∧slot ts 10= .i k) L.length
  ⟨0,.af,Om,rfl,Ext.refl h,.nil,rfl,rfl,rfl,rfl,rfl,rfl⟩ ?_
 rintro _ ts _ ⟨k,out,hk,rfl,⟨g,rfl⟩,hfr,hlen,t1,t5,t8,t9,t10⟩;rw[kJ ts 22 hlen];by_cases hlt:k < L.length
 ·have e3: (k:Int)< L.length:=Om
  have hvk:=hf L[k] Si;simp only[aV,bd,bD,bE,reduceAdd,reduceMul,reduceLeDiff,reduceEqDiff,t1,t5,t8,t9,t10,e3,XS,hs.dG hlt,hs.kB hlt,cj];exact z4
 ·exact z5
theorem r117{L:List (gP×AV)}{s f:AV}(hs:aK h s 4 (L.map aU))(ho:∀x∈L,x.2.one=true)(hl:L.length≤2^40)(F: (gP×AV)→By)(hf:∀x,x∈L→∀k,Ext h k→bG P f [.agg (aU x)] k (fun v _=>v= .str (F x))):
  aA P 117 [s,f] h (fun v h'=>Fr h.length h' v 1 ((L.map F).map au)):=by
 refine .of T.mix T.c117 ?_;unfold fn117;refine Ws hs.aP ?_;refine WL.inv T.mix (fun n ts h'=>∃ (k:Nat) (out:AV),k≤L.length∧n=L.length - k∧Ext h h'∧Fr h.length h' out 1 (((L.take k).map F).map au)∧ts.length=22∧slot ts 1=f∧slot ts 5=out∧slot ts 8=s∧slot ts 9= .i L.length∧slot ts 10= .i k) L.length
  ⟨0,.af,Om,rfl,Ext.refl h,.nil,rfl,rfl,rfl,rfl,rfl,rfl⟩ ?_
 rintro _ ts _ ⟨k,out,hk,rfl,⟨g,rfl⟩,hfr,hlen,t1,t5,t8,t9,t10⟩;rw[kJ ts 22 hlen];by_cases hlt:k < L.length
 ·have e3: (k:Int)< L.length:=Om
  have hvk:=hf L[k] Si;simp only[aV,bd,bD,bE,reduceAdd,reduceMul,reduceLeDiff,reduceEqDiff,t1,t5,t8,t9,t10,e3,XS,hs.dG hlt,hs.kB hlt,aU,ho L[k] Si];exact z4
 ·exact z5
theorem r115{L:List (EV)}{s f:AV}(hs:aK h s 5 (L.map EV.row))(ho:∀x∈L,x.sn.one=true∧x.sv.one=true)(hl:L.length≤2^40)(F: (EV)→By)(hf:∀x,x∈L→∀k,Ext h k→bG P f [.agg (EV.row x)] k (fun v _=>v= .str (F x))):
  aA P 115 [s,f] h (fun v h'=>Fr h.length h' v 1 ((L.map F).map au)):=by
 refine .of T.mix T.c115 ?_;unfold fn115;refine Ws hs.aP ?_;refine WL.inv T.mix (fun n ts h'=>∃ (k:Nat) (out:AV),k≤L.length∧n=L.length - k∧Ext h h'∧Fr h.length h' out 1 (((L.take k).map F).map au)∧ts.length=22∧slot ts 1=f∧slot ts 5=out∧slot ts 8=s∧slot ts 9= .i L.length∧slot ts 10= .i k) L.length
  ⟨0,.af,Om,rfl,Ext.refl h,.nil,rfl,rfl,rfl,rfl,rfl,rfl⟩ ?_
 rintro _ ts _ ⟨k,out,hk,rfl,⟨g,rfl⟩,hfr,hlen,t1,t5,t8,t9,t10⟩;rw[kJ ts 22 hlen];by_cases hlt:k < L.length
 ·have e3: (k:Int)< L.length:=Om
  have hvk:=hf L[k] Si;simp only[aV,bd,bD,bE,reduceAdd,reduceMul,reduceLeDiff,reduceEqDiff,t1,t5,t8,t9,t10,e3,XS,hs.dG hlt,hs.kB hlt,EV.row,(ho L[k] Si).1,(ho L[k] Si).2];exact z4
 ·exact z5
set_option maxRecDepth 10000 in
theorem r138{L:List (jh×AV)}{s f:AV}(hs:aK h s 3 (L.map bg))(ho:∀x∈L,x.2.one=true)(hl:L.length≤2^38)(p: (jh×AV)→Bool)(hf:∀x,x∈L→∀k,Ext h k→bG P f [.agg (bg x)] k (fun v _=>v= .bool (p x))):
  aA P 138 [s,f] h (fun v h'=>Fr h.length h' v 3 ((L.filter p).map bg)):=by
 refine .of T.mix T.c138 ?_;unfold fn138;refine Ws hs.aP ?_;refine WL.inv T.mix (fun n ts h'=>∃ (k:Nat) (out:AV),k≤L.length∧n=L.length - k∧Ext h h'∧Fr h.length h' out 3 (((L.take k).filter p).map bg)∧ts.length=23∧slot ts 1=f∧slot ts 5=out∧slot ts 8=s∧slot ts 9= .i L.length∧slot ts 10= .i k) L.length
  ⟨0,.af,Om,rfl,Ext.refl h,.nil,rfl,rfl,rfl,rfl,rfl,rfl⟩ ?_
 rintro _ ts _ ⟨k,out,hk,rfl,⟨g,rfl⟩,hfr,hlen,t1,t5,t8,t9,t10⟩;rw[kJ ts 23 hlen];by_cases hlt:k < L.length
 ·have e3: (k:Int)< L.length:=Om
  have hvk:=hf L[k] Si;have QJ: (L.take (k+1)).filter p= (L.take k).filter p++ (if p L[k]=true then [L[k]]else []):=by
   exact Me
  have QT: ((L.take k).filter p).length≤L.length:=Yi (Ya _ _) (by rw[Yq];omega);simp only[aV,bd,bD,bE,reduceAdd,reduceMul,reduceLeDiff,reduceEqDiff,t1,t5,t8,t9,t10,e3,XS,hs.dG hlt,hs.kB hlt,bg,ho L[k] Si];refine WF.val (hvk _ (by repeat first| exact Ext.refl _| refine Ext.app _ ?_)) ?_;rintro _ g1 rfl;cases hp:p L[k]with
  | true=>
   rw[hp,XI rfl]at QJ;simp only[aV,bd,bD,bE,reduceAdd,reduceMul,reduceLeDiff,reduceEqDiff,ho L[k] Si];refine WR.fw (h0:=h) (cs:=((L.take k).filter p).map bg) (ys:=[bg L[k]]) (((hfr.app _).app _).app _) (Fr.push (N:=0) (X3 _) [bg L[k]] (by simp[bg])).a8 De Si (by simp only[XB,Xy,XA];omega) (by simp only[rK]) ?_;intro g' Qz hff hkp;have hrow: ((L.take k).filter p).map bg++ [bg L[k]]= ((L.take (k+1)).filter p).map bg:=by rw[QJ,XD];rfl
   exact z6
  | false=>
   exact Mj
 ·exact z5
set_option maxRecDepth 10000 in
theorem r216{L:List (gQ)}{s f:AV}(hs:aK h s 3 (L.map cj))(hl:L.length≤2^38)(p: (gQ)→Bool)(hf:∀x,x∈L→∀k,Ext h k→bG P f [.agg (cj x)] k (fun v _=>v= .bool (p x))):
  aA P 216 [s,f] h (fun v h'=>Fr h.length h' v 3 ((L.filter p).map cj)):=by
 refine .of T.mix T.c216 ?_;unfold fn216;refine Ws hs.aP ?_;refine WL.inv T.mix (fun n ts h'=>∃ (k:Nat) (out:AV),k≤L.length∧n=L.length - k∧Ext h h'∧Fr h.length h' out 3 (((L.take k).filter p).map cj)∧ts.length=23∧slot ts 1=f∧slot ts 5=out∧slot ts 8=s∧slot ts 9= .i L.length∧slot ts 10= .i k) L.length
  ⟨0,.af,Om,rfl,Ext.refl h,.nil,rfl,rfl,rfl,rfl,rfl,rfl⟩ ?_
 rintro _ ts _ ⟨k,out,hk,rfl,⟨g,rfl⟩,hfr,hlen,t1,t5,t8,t9,t10⟩;rw[kJ ts 23 hlen];by_cases hlt:k < L.length
 ·have e3: (k:Int)< L.length:=Om
  have hvk:=hf L[k] Si;have QJ: (L.take (k+1)).filter p= (L.take k).filter p++ (if p L[k]=true then [L[k]]else []):=by
   exact Me
  have QT: ((L.take k).filter p).length≤L.length:=Yi (Ya _ _) (by rw[Yq];omega);simp only[aV,bd,bD,bE,reduceAdd,reduceMul,reduceLeDiff,reduceEqDiff,t1,t5,t8,t9,t10,e3,XS,hs.dG hlt,hs.kB hlt,cj];refine WF.val (hvk _ (by repeat first| exact Ext.refl _| refine Ext.app _ ?_)) ?_;rintro _ g1 rfl;cases hp:p L[k]with
  | true=>
   rw[hp,XI rfl]at QJ;refine Wn ?_;refine WR.fw (h0:=h) (cs:=((L.take k).filter p).map cj) (ys:=[cj L[k]]) (((hfr.app _).app _).app _) (Fr.push (N:=0) (X3 _) [cj L[k]] (by simp[cj])).a8 De Si (by simp only[XB,Xy,XA];omega) (by simp only[rK]) ?_;intro g' Qz hff hkp;have hrow: ((L.take k).filter p).map cj++ [cj L[k]]= ((L.take (k+1)).filter p).map cj:=by rw[QJ,XD];rfl
   exact z6
  | false=>
   exact Mj
 ·exact z5
set_option maxRecDepth 10000 in
theorem r88{L:List (EV)}{s f:AV}(hs:aK h s 5 (L.map EV.row))(ho:∀x∈L,x.sn.one=true∧x.sv.one=true)(hl:L.length≤2^38)(p: (EV)→Bool)(hf:∀x,x∈L→∀k,Ext h k→bG P f [.agg (EV.row x)] k (fun v _=>v= .bool (p x))):
  aA P 88 [s,f] h (fun v h'=>Fr h.length h' v 5 ((L.filter p).map EV.row)):=by
 refine .of T.mix T.c88 ?_;unfold fn88;refine Ws hs.aP ?_;refine WL.inv T.mix (fun n ts h'=>∃ (k:Nat) (out:AV),k≤L.length∧n=L.length - k∧Ext h h'∧Fr h.length h' out 5 (((L.take k).filter p).map EV.row)∧ts.length=23∧slot ts 1=f∧slot ts 5=out∧slot ts 8=s∧slot ts 9= .i L.length∧slot ts 10= .i k) L.length
  ⟨0,.af,Om,rfl,Ext.refl h,.nil,rfl,rfl,rfl,rfl,rfl,rfl⟩ ?_
 rintro _ ts _ ⟨k,out,hk,rfl,⟨g,rfl⟩,hfr,hlen,t1,t5,t8,t9,t10⟩;rw[kJ ts 23 hlen];by_cases hlt:k < L.length
 ·have e3: (k:Int)< L.length:=Om
  have hvk:=hf L[k] Si;have QJ: (L.take (k+1)).filter p= (L.take k).filter p++ (if p L[k]=true then [L[k]]else []):=by
   exact Me
  have QT: ((L.take k).filter p).length≤L.length:=Yi (Ya _ _) (by rw[Yq];omega);simp only[aV,bd,bD,bE,reduceAdd,reduceMul,reduceLeDiff,reduceEqDiff,t1,t5,t8,t9,t10,e3,XS,hs.dG hlt,hs.kB hlt,EV.row,(ho L[k] Si).1,(ho L[k] Si).2];refine WF.val (hvk _ (by repeat first| exact Ext.refl _| refine Ext.app _ ?_)) ?_;rintro _ g1 rfl;cases hp:p L[k]with
  | true=>
   rw[hp,XI rfl]at QJ;simp only[aV,bd,bD,bE,reduceAdd,reduceMul,reduceLeDiff,reduceEqDiff,(ho L[k] Si).1,(ho L[k] Si).2];refine WR.fw (h0:=h) (cs:=((L.take k).filter p).map EV.row) (ys:=[EV.row L[k]]) (((hfr.app _).app _).app _) (Fr.push (N:=0) (X3 _) [EV.row L[k]] (by simp[EV.row])).a8 De Si (by simp only[XB,Xy,XA];omega) (by simp only[rK]) ?_;intro g' Qz hff hkp;have hrow: ((L.take k).filter p).map EV.row++ [EV.row L[k]]= ((L.take (k+1)).filter p).map EV.row:=by rw[QJ,XD];rfl
   exact z6
  | false=>
   exact Mj
 ·exact z5
end
section
variable {P:Program} (T:fA P) {h:ah}
include T
set_option maxRecDepth 10000 in
theorem r180{L:List (jh×AV)}{s:AV}(hs:aK h s 3 (L.map bg))(he:∀x∈L,aK h x.2 1 (x.1.aJ.map au))(hl:L.length≤2^30)(hle:∀x∈L,x.1.aJ.length≤2^40):
  aA P 180 [s,.func (.func 181) [] []] h (fun v h'=>∃L':List (jh×AV),L'.map Prod.fst=L.map Prod.fst∧Fr h.length h' v 3 (L'.map bg)∧(∀x∈L',Fr h.length h' x.2 1 (x.1.aJ.map au))∧kP (sB v::L'.map fun x=>sB x.2)):=by
 refine .of T.mix T.c180 ?_;unfold fn180 xQ;refine Ws hs.aP ?_;refine WL.inv T.mix (fun n ts h'=>∃ (k:Nat) (out:AV) (L':List (jh×AV)),k≤L.length∧n=L.length - k∧Ext h h'∧L'.map Prod.fst= (L.take k).map Prod.fst∧Fr h.length h' out 3 (L'.map bg)∧(∀x∈L',Fr h.length h' x.2 1 (x.1.aJ.map au))∧kP (sB out::L'.map fun x=>sB x.2)∧
   ts.length=22∧slot ts 1= .func (.func 181) [] []∧slot ts 5=out∧slot ts 8=s∧slot ts 9= .i L.length∧slot ts 10= .i k) L.length
  ⟨0,.af,[],Om,rfl,Ext.refl h,rfl,.nil,(fun x hx=>by cases hx),Y6 _ _,rfl,rfl,rfl,rfl,rfl,rfl⟩ ?_
 rintro _ ts _ ⟨k,out,L',hk,rfl,⟨g,rfl⟩,hm,hfr,hin,Ra,hlen,t1,t5,t8,t9,t10⟩;rw[kJ ts 22 hlen];have UP:L'.length=k:=by have:=X6 List.length hm;simp at this;omega
 by_cases hlt:k < L.length
 ·have e3: (k:Int)< L.length:=Om
  have VB:=he L[k] Si;have SB:=hle L[k] Si;have ox:=VB.one;have Vw:∀{kk:ah},Ext h kk→ao (some 3) (cV s 3 k) (fun b=>kk[b]?)=some (.agg (bg L[k]),.az):=fun {kk} e=>hs.kB hlt e
  unfold bg at Vw;simp only[aV,bd,bD,bE,reduceAdd,reduceMul,reduceLeDiff,reduceEqDiff,t1,t5,t8,t9,t10,e3,XS,hs.dG hlt,Vw,ox];have hown:=fun kk (e:Ext h kk)=>r181 T (h:=kk) L[k] (VB.ext e) SB
  unfold bg at hown;refine WF.res T.c181 (hown _ (by repeat first| exact Ext.refl _| refine Ext.app _ ?_)) ?_;rintro _ g1 ⟨s',rfl,Xg⟩;have os:=Xg.a8.one;refine Ws @os ?_;refine WR.fw (h0:=h) (cs:=L'.map bg) (ys:=[bg (L[k].1,s')]) ((((hfr.app _).app _).app _)) (Fr.push (N:=0) (X3 _) [bg (L[k].1,s')] (by simp[bg])).a8 De Si (by simp only[XB,Xy,XA];omega) (by simp only[rK]) ?_;intro g' Qz hff hkp;have hrow:L'.map bg++ [bg (L[k].1,s')]= (L'++ [(L[k].1,s')]).map bg:=by rw[XD];rfl
  exact z2
 ·exact Mi
set_option maxRecDepth 10000 in
theorem r182{L:List (gP×AV)}{s:AV}(hs:aK h s 4 (L.map aU))(he:∀x∈L,aK h x.2 1 (x.1.bu.map au))(hl:L.length≤2^30)(hle:∀x∈L,x.1.bu.length≤2^40):
  aA P 182 [s,.func (.func 183) [] []] h (fun v h'=>∃L':List (gP×AV),L'.map Prod.fst=L.map Prod.fst∧Fr h.length h' v 4 (L'.map aU)∧(∀x∈L',Fr h.length h' x.2 1 (x.1.bu.map au))∧kP (sB v::L'.map fun x=>sB x.2)):=by
 refine .of T.mix T.c182 ?_;unfold fn182;refine Ws hs.aP ?_;refine WL.inv T.mix (fun n ts h'=>∃ (k:Nat) (out:AV) (L':List (gP×AV)),k≤L.length∧n=L.length - k∧Ext h h'∧L'.map Prod.fst= (L.take k).map Prod.fst∧Fr h.length h' out 4 (L'.map aU)∧(∀x∈L',Fr h.length h' x.2 1 (x.1.bu.map au))∧kP (sB out::L'.map fun x=>sB x.2)∧
   ts.length=22∧slot ts 1= .func (.func 183) [] []∧slot ts 5=out∧slot ts 8=s∧slot ts 9= .i L.length∧slot ts 10= .i k) L.length
  ⟨0,.af,[],Om,rfl,Ext.refl h,rfl,.nil,(fun x hx=>by cases hx),Y6 _ _,rfl,rfl,rfl,rfl,rfl,rfl⟩ ?_
 rintro _ ts _ ⟨k,out,L',hk,rfl,⟨g,rfl⟩,hm,hfr,hin,Ra,hlen,t1,t5,t8,t9,t10⟩;rw[kJ ts 22 hlen];have UP:L'.length=k:=by have:=X6 List.length hm;simp at this;omega
 by_cases hlt:k < L.length
 ·have e3: (k:Int)< L.length:=Om
  have VB:=he L[k] Si;have SB:=hle L[k] Si;have ox:=VB.one;have Vw:∀{kk:ah},Ext h kk→ao (some 4) (cV s 4 k) (fun b=>kk[b]?)=some (.agg (aU L[k]),.az):=fun {kk} e=>hs.kB hlt e
  unfold aU at Vw;simp only[aV,bd,bD,bE,reduceAdd,reduceMul,reduceLeDiff,reduceEqDiff,t1,t5,t8,t9,t10,e3,XS,hs.dG hlt,Vw,ox];have hown:=fun kk (e:Ext h kk)=>r183 T (h:=kk) L[k] (VB.ext e) SB
  unfold aU at hown;refine WF.res T.c183 (hown _ (by repeat first| exact Ext.refl _| refine Ext.app _ ?_)) ?_;rintro _ g1 ⟨s',rfl,Xg⟩;have os:=Xg.a8.one;refine Ws @os ?_;refine WR.fw (h0:=h) (cs:=L'.map aU) (ys:=[aU (L[k].1,s')]) ((((hfr.app _).app _).app _)) (Fr.push (N:=0) (X3 _) [aU (L[k].1,s')] (by simp[aU])).a8 De Si (by simp only[XB,Xy,XA];omega) (by simp only[rK]) ?_;intro g' Qz hff hkp;have hrow:L'.map aU++ [aU (L[k].1,s')]= (L'++ [(L[k].1,s')]).map aU:=by rw[XD];rfl
  exact z2
 ·exact Mi
set_option maxRecDepth 10000 in
theorem r184{L:List (kK×AV)}{s:AV}(hs:aK h s 3 (L.map bO))(he:∀x∈L,aK h x.2 1 (x.1.bw.map aL))(hl:L.length≤2^30)(hle:∀x∈L,x.1.bw.length≤2^40):
  aA P 184 [s,.func (.func 185) [] []] h (fun v h'=>∃L':List (kK×AV),L'.map Prod.fst=L.map Prod.fst∧Fr h.length h' v 3 (L'.map bO)∧(∀x∈L',Fr h.length h' x.2 1 (x.1.bw.map aL))∧kP (sB v::L'.map fun x=>sB x.2)):=by
 refine .of T.mix T.c184 ?_;unfold fn184 xQ;refine Ws hs.aP ?_;refine WL.inv T.mix (fun n ts h'=>∃ (k:Nat) (out:AV) (L':List (kK×AV)),k≤L.length∧n=L.length - k∧Ext h h'∧L'.map Prod.fst= (L.take k).map Prod.fst∧Fr h.length h' out 3 (L'.map bO)∧(∀x∈L',Fr h.length h' x.2 1 (x.1.bw.map aL))∧kP (sB out::L'.map fun x=>sB x.2)∧
   ts.length=22∧slot ts 1= .func (.func 185) [] []∧slot ts 5=out∧slot ts 8=s∧slot ts 9= .i L.length∧slot ts 10= .i k) L.length
  ⟨0,.af,[],Om,rfl,Ext.refl h,rfl,.nil,(fun x hx=>by cases hx),Y6 _ _,rfl,rfl,rfl,rfl,rfl,rfl⟩ ?_
 rintro _ ts _ ⟨k,out,L',hk,rfl,⟨g,rfl⟩,hm,hfr,hin,Ra,hlen,t1,t5,t8,t9,t10⟩;rw[kJ ts 22 hlen];have UP:L'.length=k:=by have:=X6 List.length hm;simp at this;omega
 by_cases hlt:k < L.length
 ·have e3: (k:Int)< L.length:=Om
  have VB:=he L[k] Si;have SB:=hle L[k] Si;have ox:=VB.one;have Vw:∀{kk:ah},Ext h kk→ao (some 3) (cV s 3 k) (fun b=>kk[b]?)=some (.agg (bO L[k]),.az):=fun {kk} e=>hs.kB hlt e
  unfold bO at Vw;simp only[aV,bd,bD,bE,reduceAdd,reduceMul,reduceLeDiff,reduceEqDiff,t1,t5,t8,t9,t10,e3,XS,hs.dG hlt,Vw,ox];have hown:=fun kk (e:Ext h kk)=>r185 T (h:=kk) L[k] (VB.ext e) SB
  unfold bO at hown;refine WF.res T.c185 (hown _ (by repeat first| exact Ext.refl _| refine Ext.app _ ?_)) ?_;rintro _ g1 ⟨s',rfl,Xg⟩;have os:=Xg.a8.one;refine Ws @os ?_;refine WR.fw (h0:=h) (cs:=L'.map bO) (ys:=[bO (L[k].1,s')]) ((((hfr.app _).app _).app _)) (Fr.push (N:=0) (X3 _) [bO (L[k].1,s')] (by simp[bO])).a8 De Si (by simp only[XB,Xy,XA];omega) (by simp only[rK]) ?_;intro g' Qz hff hkp;have hrow:L'.map bO++ [bO (L[k].1,s')]= (L'++ [(L[k].1,s')]).map bO:=by rw[XD];rfl
  exact z2
 ·exact Mi
end
theorem aD.row{h V}(o:aD h V):V.row.all AV.one=true:=by
 simp only[RV.row,Cf,Ce,Bl,o.i0.one,o.i1.one,o.i2.one,o.i3.one,o.i4.one,o.i5.one,Bool.and_self]
def aD.box{h V}(o:aD h V){N}:o8 (.agg V.row) N=some (.ptr N 0,.push (.cells V.row true false)):=by
 have: (AV.agg V.row).cells=V.row:=rfl;simp only[o8,this,o.row,XR]
def r9{V:RV}:V.row[0]? =some (.int .i64 V.tick):=rfl
def fT{V:RV}:V.row[1]? =some (V.s0):=rfl
def kU{V:RV}:V.row[2]? =some (V.s1):=rfl
def eJ{V:RV}:V.row[3]? =some (V.s2):=rfl
def fE{V:RV}:V.row[4]? =some (V.s3):=rfl
def fS{V:RV}:V.row[5]? =some (V.s4):=rfl
def gR{V:RV}:V.row[6]? =some (V.s5):=rfl
def aF{V:RV}{mu tl:Bool}:cp (some 7) 0 (.cells V.row mu tl)=some (.agg V.row,.az):=rfl
def kP.app{l m}(hl:kP l)(hm:kP m)(h:∀x∈l,∀y∈m,∀b,x=some b→y≠some b):kP (l++m):=YG.2 ⟨hl,hm,h⟩
def kP.one{x}:kP [x]:=Y6 _ _
theorem kP.perm{l m}(hl:kP l)(h:l.Perm m):kP m:=List.Pairwise.perm hl h fun {x y} hxy b hy hx=>hxy b hx hy
def lB{n z}:dI n z= (List.replicate n z).flatten:=by
 induction n with
 | zero=>rfl
 | succ n ih=>rw[Ac,Y5,YF,ih]
def CM{h X:ah}{A B B':aq}{b:Nat}(hb:h.length+2≤b): (h++ ([A]++ ([B']++X)))[b]? = (h++ ([A]++ ([B]++X)))[b]? :=by
 have e:∀C:aq,(h++ ([A]++ ([C]++X)))[b]? =X[b - h.length - 1 - 1]? :=fun C=>by
  rw[XE Om,XE (by simp only[XV];omega),XE (by simp only[XV];omega)];rfl
 rw[e,e]
theorem cG.low{N M h V}(o:cG N h V)(hM:M≤N):cG M h V:=
 ⟨o.i0.low hM,o.i1.low hM,o.i2.low hM,o.i3.low hM,o.i4.low hM,o.i5.low hM,fun x hx=>(o.e2 x hx).low hM,fun x hx=>(o.e3 x hx).low hM,fun x hx=>(o.e4 x hx).low hM,o.di⟩
def cG.dN{N h V}(o:cG N h V){b}(hb:some b∈V.bl):N≤b∧b < h.length:=by
 simp only[RV.bl,XC,X9,X2,Yt,Y7]at hb;rcases hb with((hb| ⟨x,hx,hb⟩)| ⟨x,hx,hb⟩)| ⟨x,hx,hb⟩
 ·rcases hb with hb| hb| hb| hb| hb| hb
  ·exact o.i0.bN hb.symm
  ·exact o.i1.bN hb.symm
  ·exact o.i2.bN hb.symm
  ·exact o.i3.bN hb.symm
  ·exact o.i4.bN hb.symm
  ·exact o.i5.bN hb.symm
 ·exact(o.e2 x hx).bN hb
 ·exact(o.e3 x hx).bN hb
 ·exact(o.e4 x hx).bN hb
theorem qL:∀{l m:List (By)},l.Nodup→(∀x∈l,x∈m)→l.length≤m.length
 | [],_,_,_=>X3 _
 | x::l,m,hn,hs=>by
  have h1:=Z3.1 hn;have hx:=hs x Si;have:=qL (m:=m.erase x) h1.2 fun y hy=>(List.mem_erase_of_ne (fun(e:y=x)=>h1.1 (by rw[←e];exact hy))).2 (hs y (Yb _ hy))
  rw[List.length_erase_of_mem hx]at this;have hp:=List.length_pos_of_mem hx;simp only[Xy];omega
inductive Lay:Nat→Nat→List (Option Nat)→Prop
 | nil {a:Nat}:Lay a a []
 | cons {a b c:Nat} {l m:List (Option Nat)} (hab:a≤b) (hl:kP l) (hin:∀x,some x∈l→a≤x∧x < b) (r:Lay b c m):Lay a c (l++m)
def Lay.le{a c l}(h:Lay a c l):a≤c:=by
 induction h with
 | nil=>exact XH _
 | cons hab _ _ _ ih=>omega
def Lay.mem{a c l}(h:Lay a c l):∀x,some x∈l→a≤x∧x < c:=by
 induction h with
 | nil=>intro x hx;cases hx
 | cons hab _ hin r ih=>
  intro x hx;have:=r.le;rcases XC.1 hx with hx| hx
  ·have:=hin x hx;omega
  ·have:=ih x hx;omega
def Lay.P8{a c l}(h:Lay a c l):kP l:=by
 induction h with
 | nil=>exact List.Pairwise.nil
 | cons hab hl hin r ih=>
  refine hl.app ih fun x hx y hy b hb Tg=>?_
  subst hb;have h1:=hin b hx;rw[Tg]at hy;have h2:=r.mem b hy;omega
def KZ{N h s es cs}(hs:Fr N h s es cs):∀x,some x∈[sB s]→N≤x∧x < h.length:=by
 intro x hx;rw[XT]at hx;exact hs.bN hx.symm
set_option maxRecDepth 10000
section
variable {P:Program} (T:fA P) {h:ah}
include T
theorem r96{V:RV}(o:aD h V)(w:fo V.ar):aA P 96 [.agg V.row] h (fun v h'=>∃V':RV,V'.ar=V.ar∧v= .agg V'.row∧cG h.length h' V'):=by
 refine .of T.mix T.c96 ?_;obtain⟨ts,Qn⟩:∃ts,ts=aT 38 [.agg V.row]:=⟨_,rfl⟩;have hlen:ts.length=38:=by rw[Qn];rfl
 have t0:slot ts 0= .agg V.row:=by rw[Qn];rfl
 unfold fn96;show WC P bR _ [] (aT 38 [.agg V.row]) h _;rw[←Qn];clear Qn;have Qm:=@aD.box _ _ o;have n0:V.lines.length≤16:=w.l0;have n5:V.aQ.length≤16:=w.l5;have n1:V.aJ.length≤16:=w.l1;have n2:V.ak.length≤64:=by have:=w.l2;simpa [RV.ar]using this
 have n3:V.aE.length≤32:=by have:=w.l3;simpa [RV.ar]using this
 have n4:V.aH.length≤16:=by have:=w.l4;simpa [RV.ar]using this
 have mk0:∀{N:Nat},sG 3 32 [AV.str [],.int .i64 0,.bool false] (.int .i64 (V.lines.length:Int)) (.int .i64 (V.lines.length:Int)) N=some (.slice N 0 V.lines.length 3,.push (.cells (dI V.lines.length [AV.str [],.int .i64 0,.bool false]) true true)):=nG Om Om;have mk5:∀{N:Nat},sG 4 48 [AV.str [],.str [],.int .i64 0,.bool false] (.int .i64 (V.aQ.length:Int)) (.int .i64 (V.aQ.length:Int)) N=some (.slice N 0 V.aQ.length 4,.push (.cells (dI V.aQ.length [AV.str [],.str [],.int .i64 0,.bool false]) true true)):=nG Om Om;refine Rs (A8 t0 @Qm @fT @gR o.i0.aP o.i5.aP @mk0 @mk5) ?_
 have z0: (dI V.lines.length [AV.str [],.int .i64 0,.bool false])= (List.replicate V.lines.length [AV.str [],.int .i64 0,.bool false]).flatten:=lB;have z5: (dI V.aQ.length [AV.str [],.str [],.int .i64 0,.bool false])= (List.replicate V.aQ.length [AV.str [],.str [],.int .i64 0,.bool false]).flatten:=lB;obtain⟨B,hB⟩:∃B,B=aq.cells [AV.int .i64 0,.af,.af,.af,.af,.af,.af] true false:=⟨_,rfl⟩;rw[←hB];have f0:Fr (h++ [aq.cells V.row true false]++ [B]).length (h++ [aq.cells V.row true false]++ [B]++ ([aq.cells (dI V.lines.length [AV.str [],.int .i64 0,.bool false]) true true]++ [aq.cells (dI V.aQ.length [AV.str [],.str [],.int .i64 0,.bool false]) true true])) (.slice (h++ [aq.cells V.row true false]++ [B]).length 0 V.lines.length 3) 3 (List.replicate V.lines.length [AV.str [],.int .i64 0,.bool false]):=by
  rw[←Xt];exact(Fr.Ae (XH _) rfl).app _
 have f5:Fr (h++ [aq.cells V.row true false]++ [B]).length (h++ [aq.cells V.row true false]++ [B]++ ([aq.cells (dI V.lines.length [AV.str [],.int .i64 0,.bool false]) true true]++ [aq.cells (dI V.aQ.length [AV.str [],.str [],.int .i64 0,.bool false]) true true])) (.slice (h++ [aq.cells V.row true false]++ [B]++ [aq.cells (dI V.lines.length [AV.str [],.int .i64 0,.bool false]) true true]).length 0 V.aQ.length 4) 4 (List.replicate V.aQ.length [AV.str [],.str [],.int .i64 0,.bool false]):=by
  rw[←Xt];exact Fr.Ae Si rfl
 obtain⟨Z,hZ⟩:∃Z,Z= ([aq.cells (dI V.lines.length [AV.str [],.int .i64 0,.bool false]) true true]++ [aq.cells (dI V.aQ.length [AV.str [],.str [],.int .i64 0,.bool false]) true true]):=⟨_,rfl⟩;have hZl:Z.length=2:=by rw[hZ];rfl
 have el5: (h++ [aq.cells V.row true false]++ [B]++ [aq.cells (dI V.lines.length [AV.str [],.int .i64 0,.bool false]) true true]).length= (h++ [aq.cells V.row true false]++ [B]).length+1:=Si
 rw[Xt (h++ [aq.cells V.row true false]++ [B]),←hZ];rw[←hZ,el5]at f5;rw[←hZ]at f0;rw[el5];clear hZ;refine WR.Lf (h0:=h++ [aq.cells V.row true false]++ [B]) (g:=Z) (Sq t0) (Sq t0) f0 (o.i0.ext Xx) Si ?_;intro g1 _ Vc hf0 hk0;have Xf:=f5.aC (k:=h++ [aq.cells V.row true false]++ [B]++g1) fun b hb=>hk0 b fun b0 o n e he=>by cases he;cases hb;omega
 refine Rs (A2 t0 @gR) ?_;refine WR.Lf (h0:=h++ [aq.cells V.row true false]++ [B]) (g:=g1) (Sq t0) (Sq t0) Xf (o.i5.ext Xx) Si ?_;intro g2 _ hl2 hf5' hk5;have hf0':=hf0.aC (k:=h++ [aq.cells V.row true false]++ [B]++g2) fun b hb=>hk5 b fun b0 o n e he=>by cases he;cases hb;omega
 have Uj:g2.length=2:=Om
 refine Rs (A3 t0 @r9 @kU) ?_;refine WF.res T.c179 (r179 T (o.i1.ext Xx) (by simp;omega)) ?_;rintro s1 c1 q1;refine Rs (A2 t0 @eJ) ?_;refine WF.res T.c180 (r180 T (o.i2.ext Xx) (fun x hx=>(o.e2 x hx).ext Xx) Om (fun x hx=>?_)) ?_
 ·have:=(w.sh x.1 (XZ hx)).2.2;have hle:=qL this.1 (fun t ht=>this.2 t ht);have Vc: (jA V.ar).length=V.aJ.length:=by simp[jA,RV.ar]
  omega
 rintro s2 c2 ⟨L2,m2,q2,q2e,q2d⟩;refine Rs (A2 t0 @fE) ?_;refine WF.res T.c182 (r182 T (o.i3.ext Xx) (fun x hx=>(o.e3 x hx).ext Xx) Om (fun x hx=>by have:=(w.md x.1 (XZ hx)).2.1;omega)) ?_;rintro s3 c3 ⟨L3,m3,q3,q3e,q3d⟩;refine Rs (A2 t0 @fS) ?_;refine WF.res T.c184 (r184 T (o.i4.ext Xx) (fun x hx=>(o.e4 x hx).ext Xx) Om (fun x hx=>by have:=(w.jb x.1 (XZ hx)).2.2.1;omega)) ?_;rintro s4 c4 ⟨L4,m4,q4,q4e,q4d⟩;refine Rs (A6 t0 q1.a8.one q2.a8.one q3.a8.one q4.a8.one @hB) ?_;refine⟨⟨V.tick,V.lines,V.aJ,L2,L3,L4,V.aQ,.slice (h++ [aq.cells V.row true false]++ [B]).length 0 V.lines.length 3,s1,s2,s3,s4,.slice ((h++ [aq.cells V.row true false]++ [B]).length+1) 0 V.aQ.length 4⟩,?_,?_,?_⟩
 ·simp only[RV.ar,m2,m3,m4]
 ·rw[←hB];rfl
 obtain⟨H,hH⟩:∃H,H=h++ [aq.cells V.row true false]++ [B]:=⟨_,rfl⟩;have TP:h.length≤H.length:=by rw[hH];simp
 rw[←hH]at hf0' hf5' q1 q2 q2e q3 q3e q4 q4e;have own:cG H.length (H++g2++c1++c2++c3++c4) ⟨V.tick,V.lines,V.aJ,L2,L3,L4,V.aQ,.slice H.length 0 V.lines.length 3,s1,s2,s3,s4,.slice (H.length+1) 0 V.aQ.length 4⟩:=by
  have n0:V.lines.length= (V.lines.map cj).length:=Si
  have n5:V.aQ.length= (V.aQ.map da).length:=Si
  refine⟨(((hf0'.app _).app _).app _).app _,?_,?_,?_,?_,(((hf5'.app _).app _).app _).app _,?_,?_,?_,?_⟩
  ·exact(((q1.app _).app _).app _).low Si
  ·exact((q2.app _).app _).low (by simp only[Xs];omega)
  ·exact(q3.app _).low (by simp only[Xs];omega)
  ·exact q4.low (by simp only[Xs];omega)
  ·exact fun x hx=>(((q2e x hx).app _).app _).low (by simp only[Xs];omega)
  ·exact fun x hx=>((q3e x hx).app _).low (by simp only[Xs];omega)
  ·exact fun x hx=>(q4e x hx).low (by simp only[Xs];omega)
  ·have lay:Lay H.length (H++g2++c1++c2++c3++c4).length ([some H.length]++ ([some (H.length+1)]++ ([sB s1]++ ((sB s2::L2.map fun x=>sB x.2)++ ((sB s3::L3.map fun x=>sB x.2)++ ((sB s4::L4.map fun x=>sB x.2)++ [])))))):=by
    refine .cons (b:=H.length+1) Om .one (fun x hx=>by simp at hx;omega) ?_;refine .cons (b:=(H++g2).length) (by simp only[Xs];omega) .one (fun x hx=>by simp at hx;simp only[Xs];omega) ?_;refine .cons (b:=(H++g2++c1).length) (by simp only[Xs];omega) .one (KZ q1) ?_;refine .cons (b:=(H++g2++c1++c2).length) (by simp only[Xs];omega) q2d (fun x hx=>?_) ?_
    ·rcases X9.1 hx with hx| hx
     ·exact q2.bN hx.symm
     ·obtain⟨y,hy,UX⟩:=X2.1 hx;exact(q2e y hy).bN UX
    refine .cons (b:=(H++g2++c1++c2++c3).length) (by simp only[Xs];omega) q3d (fun x hx=>?_) ?_
    ·rcases X9.1 hx with hx| hx
     ·exact q3.bN hx.symm
     ·obtain⟨y,hy,UX⟩:=X2.1 hx;exact(q3e y hy).bN UX
    refine .cons (b:=(H++g2++c1++c2++c3++c4).length) (by simp only[Xs];omega) q4d (fun x hx=>?_) .nil;rcases X9.1 hx with hx| hx
    ·exact q4.bN hx.symm
    ·obtain⟨y,hy,UX⟩:=X2.1 hx;exact(q4e y hy).bN UX
   refine lay.P8.perm (List.perm_iff_count.2 fun a=>?_);simp only[RV.bl,sB,List.count_append,List.count_cons,List.count_nil,Yk,ZZ]
   ac_rfl
 rw[hH]at own TP;refine(own.low TP).az fun b hb=>?_
 have hbN:=(own.dN hb).1;simp only[Xt];exact CM (by simpa using hbN)
end
def aD.iZ{h V}(o:aD h V): (∀x∈V.ak,x.2.one=true)∧(∀x∈V.aE,x.2.one=true)∧(∀x∈V.aH,x.2.one=true):=
 ⟨fun x hx=>(o.e2 x hx).one,fun x hx=>(o.e3 x hx).one,fun x hx=>(o.e4 x hx).one⟩
structure ed(V:RV):Prop where
 l0:V.lines.length < 2^30
 l1:V.aJ.length < 2^30
 l2:V.ak.length < 2^30
 l3:V.aE.length < 2^30
 l4:V.aH.length < 2^30
 l5:V.aQ.length < 2^30
def fo.len{V}(w:fo V.ar):ed V:=by
 have h0:=w.l0;have h1:=w.l1;have h2:=w.l2;have h3:=w.l3;have h4:=w.l4;have h5:=w.l5;simp only[RV.ar,XB]at h0 h1 h2 h3 h4 h5;exact⟨Om,Om,Om,Om,Om,Om⟩
def gf{V:RV}:jV V.ar=V.ak.map fun x=>x.1.name:=by simp[jV,RV.ar,ZS]
def gT{V:RV}:gM V.ar=V.aE.map fun x=>x.1.name:=by simp[gM,RV.ar,ZS]
def gU{V:RV}:iA V.ar=V.aH.map fun x=>x.1.name:=by simp[iA,RV.ar,ZS]
section
variable {P:Program} (T:fA P) {h:ah}
include T
theorem r205{V}(o:aD h V)(l:ed V){n}(hn:n∈gB V.ar):aA P 205 [.agg V.row,.str n] h (fun v _=>v= .agg (cj (dF V.ar n))):=by
 refine .eF 13 T.mix T.c205 ?_;intro ts hlen t0 t1;unfold fn205;have Qm:=@aD.box _ _ o;have hlt:bj (gB V.ar) n < V.lines.length:=by have:=cP hn;simpa [gB,RV.ar]using this
 have ei:cS (fun x:gQ=>decide (x.name=n)) V.lines= (bj (gB V.ar) n:Int):=eD (f:=gQ.name) hn;have ix:aZ 3 V.s0 (.i (bj (gB V.ar) n:Int))=some (cV V.s0 3 (bj (gB V.ar) n),.az):=o.i0.dG hlt;have ld:∀{k:ah},Ext h k→ao (some 3) (cV V.s0 3 (bj (gB V.ar) n)) (fun b=>k[b]?)=some (.agg (cj (V.lines[bj (gB V.ar) n])),.az):=fun {k} e=>o.i0.kB hlt e
 have sp:dF V.ar n=V.lines[bj (gB V.ar) n]:=c9 hn;rw[sp];unfold cj at ld ⊢;refine Rs (A4 t0 t1 @Qm @fT) ?_;refine WF.ce T.c142 (r142 T (o.i0.ext Xx) (by have:=l.l0;omega) n) fun g1=>?_
 exact z119
theorem r134{V}(o:aD h V)(l:ed V){n}(hn:n∈jA V.ar):aA P 134 [.agg V.row,.str n] h (fun v _=>v= .agg (dO (jm V.ar n))):=by
 refine .eF 13 T.mix T.c134 ?_;intro ts hlen t0 t1;unfold fn134;have Qm:=@aD.box _ _ o;have hlt:bj (jA V.ar) n < V.aJ.length:=by have:=cP hn;simpa [jA,RV.ar]using this
 have ei:cS (fun x:rA=>decide (x.name=n)) V.aJ= (bj (jA V.ar) n:Int):=eD (f:=rA.name) hn;have ix:aZ 2 V.s1 (.i (bj (jA V.ar) n:Int))=some (cV V.s1 2 (bj (jA V.ar) n),.az):=o.i1.dG hlt;have ld:∀{k:ah},Ext h k→ao (some 2) (cV V.s1 2 (bj (jA V.ar) n)) (fun b=>k[b]?)=some (.agg (dO (V.aJ[bj (jA V.ar) n])),.az):=fun {k} e=>o.i1.kB hlt e
 have sp:jm V.ar n=V.aJ[bj (jA V.ar) n]:=c9 hn;rw[sp];unfold dO at ld ⊢;refine Rs (A4 t0 t1 @Qm @kU) ?_;refine WF.ce T.c143 (r143 T (o.i1.ext Xx) (by have:=l.l1;omega) n) fun g1=>?_
 exact z119
theorem r77{V:RV}(o:aD h V)(l:ed V){n:By}(hn:n∈jV V.ar):aA P 77 [.agg V.row,.str n] h (fun v _=>∃x∈V.ak,x.1=kS V.ar n∧v= .agg (bg x)):=by
 refine .eF 13 T.mix T.c77 ?_;intro ts hlen t0 t1;unfold fn77 CI;have Qm:=@aD.box _ _ o;have hlt:bj (jV V.ar) n < V.ak.length:=by have:=cP hn;simpa [jV,RV.ar]using this
 have ei:cS (fun x:jh×AV=>decide (x.1.name=n)) V.ak= (bj (jV V.ar) n:Int):=(eD (f:=fun x:jh×AV=>x.1.name) (by rw[←gf];exact hn)).trans (by rw[gf]);have ix:aZ 3 V.s2 (.i (bj (jV V.ar) n:Int))=some (cV V.s2 3 (bj (jV V.ar) n),.az):=o.i2.dG hlt;have ld:∀{k:ah},Ext h k→ao (some 3) (cV V.s2 3 (bj (jV V.ar) n)) (fun b=>k[b]?)=some (.agg (bg (V.ak[bj (jV V.ar) n])),.az):=fun {k} e=>o.i2.kB hlt e
 have sp: (V.ak[bj (jV V.ar) n]).1=kS V.ar n:=by
  have:=c9 (f:=jh.name) (l:=V.ar.ak) (n:=n) (d:=Bo) hn;rw[show kS V.ar n=_ from this];exact z124
 have on:=o.iZ.1 (V.ak[bj (jV V.ar) n]) (XJ _);have RS:V.ak[bj (jV V.ar) n]∈V.ak:=XJ _;generalize V.ak[bj (jV V.ar) n]=x at *;unfold bg at ld ⊢;refine Rs (A4 t0 t1 @Qm @eJ) ?_;refine WF.ce T.c136 (r136 T (o.i2.ext Xx) o.iZ.1 (by have:=l.l2;omega) n) fun g1=>?_
 exact Ga
theorem r245{V:RV}(o:aD h V)(l:ed V){n:By}(hn:n∈gM V.ar):aA P 245 [.agg V.row,.str n] h (fun v _=>∃x∈V.aE,x.1=fW V.ar n∧v= .agg (aU x)):=by
 refine .eF 13 T.mix T.c245 ?_;intro ts hlen t0 t1;unfold fn245;have Qm:=@aD.box _ _ o;have hlt:bj (gM V.ar) n < V.aE.length:=by have:=cP hn;simpa [gM,RV.ar]using this
 have ei:cS (fun x:gP×AV=>decide (x.1.name=n)) V.aE= (bj (gM V.ar) n:Int):=(eD (f:=fun x:gP×AV=>x.1.name) (by rw[←gT];exact hn)).trans (by rw[gT]);have ix:aZ 4 V.s3 (.i (bj (gM V.ar) n:Int))=some (cV V.s3 4 (bj (gM V.ar) n),.az):=o.i3.dG hlt;have ld:∀{k:ah},Ext h k→ao (some 4) (cV V.s3 4 (bj (gM V.ar) n)) (fun b=>k[b]?)=some (.agg (aU (V.aE[bj (gM V.ar) n])),.az):=fun {k} e=>o.i3.kB hlt e
 have sp: (V.aE[bj (gM V.ar) n]).1=fW V.ar n:=by
  have:=c9 (f:=gP.name) (l:=V.ar.aE) (n:=n) (d:=Bp) hn;rw[show fW V.ar n=_ from this];exact z124
 have on:=o.iZ.2.1 (V.aE[bj (gM V.ar) n]) (XJ _);have RS:V.aE[bj (gM V.ar) n]∈V.aE:=XJ _;generalize V.aE[bj (gM V.ar) n]=x at *;unfold aU at ld ⊢;refine Rs (A4 t0 t1 @Qm @fE) ?_;refine WF.ce T.c144 (r144 T (o.i3.ext Xx) o.iZ.2.1 (by have:=l.l3;omega) n) fun g1=>?_
 exact Ga
theorem r124{V:RV}(o:aD h V)(l:ed V){n:By}(hn:n∈iA V.ar):aA P 124 [.agg V.row,.str n] h (fun v _=>∃x∈V.aH,x.1=gh V.ar n∧v= .agg (bO x)):=by
 refine .eF 13 T.mix T.c124 ?_;intro ts hlen t0 t1;unfold fn124 CI;have Qm:=@aD.box _ _ o;have hlt:bj (iA V.ar) n < V.aH.length:=by have:=cP hn;simpa [iA,RV.ar]using this
 have ei:cS (fun x:kK×AV=>decide (x.1.name=n)) V.aH= (bj (iA V.ar) n:Int):=(eD (f:=fun x:kK×AV=>x.1.name) (by rw[←gU];exact hn)).trans (by rw[gU]);have ix:aZ 3 V.s4 (.i (bj (iA V.ar) n:Int))=some (cV V.s4 3 (bj (iA V.ar) n),.az):=o.i4.dG hlt;have ld:∀{k:ah},Ext h k→ao (some 3) (cV V.s4 3 (bj (iA V.ar) n)) (fun b=>k[b]?)=some (.agg (bO (V.aH[bj (iA V.ar) n])),.az):=fun {k} e=>o.i4.kB hlt e
 have sp: (V.aH[bj (iA V.ar) n]).1=gh V.ar n:=by
  have:=c9 (f:=kK.name) (l:=V.ar.aH) (n:=n) (d:=ze) hn;rw[show gh V.ar n=_ from this];exact z124
 have on:=o.iZ.2.2 (V.aH[bj (iA V.ar) n]) (XJ _);have RS:V.aH[bj (iA V.ar) n]∈V.aH:=XJ _;generalize V.aH[bj (iA V.ar) n]=x at *;unfold bO at ld ⊢;refine Rs (A4 t0 t1 @Qm @fS) ?_;refine WF.ce T.c145 (r145 T (o.i4.ext Xx) o.iZ.2.2 (by have:=l.l4;omega) n) fun g1=>?_
 exact Ga
theorem r218{V}(o:aD h V)(l:ed V){n}(hn:n∈kN V.ar):aA P 218 [.agg V.row,.str n] h (fun v _=>v= .agg (da (jK V.ar n))):=by
 refine .eF 13 T.mix T.c218 ?_;intro ts hlen t0 t1;unfold fn218;have Qm:=@aD.box _ _ o;have hlt:bj (kN V.ar) n < V.aQ.length:=by have:=cP hn;simpa [kN,RV.ar]using this
 have ei:cS (fun x:p6=>decide (x.name=n)) V.aQ= (bj (kN V.ar) n:Int):=eD (f:=p6.name) hn;have ix:aZ 4 V.s5 (.i (bj (kN V.ar) n:Int))=some (cV V.s5 4 (bj (kN V.ar) n),.az):=o.i5.dG hlt;have ld:∀{k:ah},Ext h k→ao (some 4) (cV V.s5 4 (bj (kN V.ar) n)) (fun b=>k[b]?)=some (.agg (da (V.aQ[bj (kN V.ar) n])),.az):=fun {k} e=>o.i5.kB hlt e
 have sp:jK V.ar n=V.aQ[bj (kN V.ar) n]:=c9 hn;rw[sp];unfold da at ld ⊢;refine Rs (A4 t0 t1 @Qm @gR) ?_;refine WF.ce T.c146 (r146 T (o.i5.ext Xx) (by have:=l.l5;omega) n) fun g1=>?_
 exact z119
theorem KS{V}(o:aD h V)(l:ed V)(n:By):aA P 86 [.agg V.row,.i 0,.str n] h (fun v _=>v= .bool (dD V.ar 0 n)):=by
 refine .nj 47 T.mix T.c86 ?_;intro ts hlen t0 t1 t2;unfold fn86;have Qm:=@aD.box _ _ o;have eh:dD V.ar 0 n=decide (0≤cS (fun x=>decide (x.name=n)) V.lines):=(eZ (f:=gQ.name)).symm;rw[eh]
 skip
 refine Rs (A7 t0 t1 t2 @Qm @fT @XS @XX) ?_;refine WF.ce T.c142 (r142 T (o.i0.ext Xx) (by have:=l.l0;omega) n) fun g1=>?_
 exact Fa
theorem KR{V}(o:aD h V)(l:ed V)(n:By):aA P 86 [.agg V.row,.i 1,.str n] h (fun v _=>v= .bool (dD V.ar 1 n)):=by
 refine .nj 47 T.mix T.c86 ?_;intro ts hlen t0 t1 t2;unfold fn86;have Qm:=@aD.box _ _ o;have eh:dD V.ar 1 n=decide (0≤cS (fun x=>decide (x.name=n)) V.aJ):=(eZ (f:=rA.name)).symm;rw[eh]
 skip
 have d0: ((1:Int)=0)=False:=YV De;refine Rs (A8 t0 t1 t2 @Qm @kU @XS @XX @d0) ?_;refine WF.ce T.c143 (r143 T (o.i1.ext Xx) (by have:=l.l1;omega) n) fun g1=>?_
 exact Fa
theorem KQ{V:RV}(o:aD h V)(l:ed V)(n:By):aA P 86 [.agg V.row,.i 2,.str n] h (fun v _=>v= .bool (dD V.ar 2 n)):=by
 refine .nj 47 T.mix T.c86 ?_;intro ts hlen t0 t1 t2;unfold fn86;have Qm:=@aD.box _ _ o;have eh:dD V.ar 2 n=decide (0≤cS (fun x=>decide (x.1.name=n)) V.ak):=by
  rw[eZ (f:=fun x:jh×AV=>x.1.name),←gf];rfl
 rw[eh]
 skip
 have d0: ((2:Int)=0)=False:=YV De;have d1: ((2:Int)=1)=False:=YV De;refine Rs (A9 t0 t1 t2 @Qm @eJ @XS @XX @d0 @d1) ?_;refine WF.ce T.c136 (r136 T (o.i2.ext Xx) o.iZ.1 (by have:=l.l2;omega) n) fun g1=>?_
 exact Fa
theorem KP{V:RV}(o:aD h V)(l:ed V)(n:By):aA P 86 [.agg V.row,.i 3,.str n] h (fun v _=>v= .bool (dD V.ar 3 n)):=by
 refine .nj 47 T.mix T.c86 ?_;intro ts hlen t0 t1 t2;unfold fn86;have Qm:=@aD.box _ _ o;have eh:dD V.ar 3 n=decide (0≤cS (fun x=>decide (x.1.name=n)) V.aE):=by
  rw[eZ (f:=fun x:gP×AV=>x.1.name),←gT];rfl
 rw[eh]
 skip
 have d0: ((3:Int)=0)=False:=YV De;have d1: ((3:Int)=1)=False:=YV De;have d2: ((3:Int)=2)=False:=YV De;refine Rs (mY t0 t1 t2 @Qm @fE @XS @XX @d0 @d1 @d2) ?_;refine WF.ce T.c144 (r144 T (o.i3.ext Xx) o.iZ.2.1 (by have:=l.l3;omega) n) fun g1=>?_
 exact Fa
theorem KO{V:RV}(o:aD h V)(l:ed V)(n:By):aA P 86 [.agg V.row,.i 4,.str n] h (fun v _=>v= .bool (dD V.ar 4 n)):=by
 refine .nj 47 T.mix T.c86 ?_;intro ts hlen t0 t1 t2;unfold fn86;have Qm:=@aD.box _ _ o;have eh:dD V.ar 4 n=decide (0≤cS (fun x=>decide (x.1.name=n)) V.aH):=by
  rw[eZ (f:=fun x:kK×AV=>x.1.name),←gU];rfl
 rw[eh]
 skip
 have d0: ((4:Int)=0)=False:=YV De;have d1: ((4:Int)=1)=False:=YV De;have d2: ((4:Int)=2)=False:=YV De;have d3: ((4:Int)=3)=False:=YV De;refine Rs (mX t0 t1 t2 @Qm @fS @XS @XX @d0 @d1 @d2 @d3) ?_;refine WF.ce T.c145 (r145 T (o.i4.ext Xx) o.iZ.2.2 (by have:=l.l4;omega) n) fun g1=>?_
 exact Fa
theorem KN{V}(o:aD h V)(l:ed V)(n:By):aA P 86 [.agg V.row,.i 5,.str n] h (fun v _=>v= .bool (dD V.ar 5 n)):=by
 refine .nj 47 T.mix T.c86 ?_;intro ts hlen t0 t1 t2;unfold fn86;have Qm:=@aD.box _ _ o;have eh:dD V.ar 5 n=decide (0≤cS (fun x=>decide (x.name=n)) V.aQ):=(eZ (f:=p6.name)).symm;rw[eh]
 skip
 have d0: ((5:Int)=0)=False:=YV De;have d1: ((5:Int)=1)=False:=YV De;have d2: ((5:Int)=2)=False:=YV De;have d3: ((5:Int)=3)=False:=YV De;have d4: ((5:Int)=4)=False:=YV De;refine Rs (pU t0 t1 t2 @Qm @gR @XS @XX @d0 @d1 @d2 @d3 @d4) ?_;refine WF.ce T.c146 (r146 T (o.i5.ext Xx) (by have:=l.l5;omega) n) fun g1=>?_
 exact Fa
theorem r86{V:RV}(o:aD h V)(l:ed V){t:Nat}(ht:t < 6)(n:By):aA P 86 [.agg V.row,.i t,.str n] h (fun v _=>v= .bool (dD V.ar t n)):=by
 match t,ht with
 | 0,_=>exact KS T o l n
 | 1,_=>exact KR T o l n
 | 2,_=>exact KQ T o l n
 | 3,_=>exact KP T o l n
 | 4,_=>exact KO T o l n
 | 5,_=>exact KN T o l n
theorem r135(x:rA)(t:Int):aA P 135 [.agg (dO x),.i t] h (fun v _=>v= .bool (decide (t≤x.last))):=by
 refine .of T.mix T.c135 ?_;unfold fn135 dO;exact Wn Tv
theorem r76{V}(o:aD h V)(l:ed V){x}(hx:aK h x.2 1 (x.1.aJ.map au))(hl:x.1.aJ.length < 2^30)(hk:∀n∈x.1.aJ,n∈jA V.ar)(t:Int):
  aA P 76 [.agg V.row,.agg (bg x),.i t] h (fun v _=>v= .bool (eI V.ar x.1 t)):=by
 refine .nj 24 T.mix T.c76 ?_;intro ts hlen t0 t1 t2;unfold fn76;have Qm:=@aD.box _ _ o;have ox:=hx.one;unfold bg at t1;refine Rs (A6 t0 t1 t2 @Qm @ox hx.aP) ?_;refine WL.inv T.mix (fun n ts h'=>∃k:Nat,k≤x.1.aJ.length∧n=x.1.aJ.length - k∧Ext (h++ [aq.b V.row]) h'∧eI V.ar x.1 t= (x.1.aJ.drop k).any (jn V.ar t)∧
   ts.length=24∧slot ts 2= .i t∧slot ts 3= .ptr h.length 0∧slot ts 7= .bool false∧slot ts 11=x.2∧slot ts 12= .i x.1.aJ.length∧slot ts 13= .i k) x.1.aJ.length
  ⟨0,Om,rfl,Xx,rfl,Sn,(Sq t2),(Sq t0),(Sq t0),(Sq t0),(Sq t0),(Qf t0)⟩ ?_
 rintro _ ts _ ⟨k,hk',rfl,⟨g,rfl⟩,hs,hlen,t2,t3,t7,t11,t12,t13⟩;by_cases hlt:k < x.1.aJ.length
 ·have hd:x.1.aJ.drop k=x.1.aJ[k]::x.1.aJ.drop (k+1):=Si
  have e3:=fk hlt;have ix:=hx.dG (kk:=.i64) hlt;have ld:∀{k':ah},Ext h k'→ao none (cV x.2 1 k) (fun b=>k'[b]?)=some (.str x.1.aJ[k],.az):=fun {k'} e=>hx.kO hlt rfl e
  refine Rs (mY t2 t3 t7 t11 t12 t13 e3 ix @ld @aF) ?_;refine WF.ce T.c134 (r134 T (o.ext Xx) l (hk _ (XJ hlt))) fun g1=>?_
  refine Rs (A6 t2 t3 t7 t11 t12 t13) ?_;refine WF.ce T.c135 (r135 T _ t) fun g2=>?_
  have hr:decide (t≤(jm V.ar x.1.aJ[k]).last)=jn V.ar t x.1.aJ[k]:=rfl;rw[hr];rw[hd,ZT]at hs;cases RD:jn V.ar t x.1.aJ[k]with
  | true=>
   rw[RD,Bool.true_or]at hs;rw[hs];exact Rs (A6 t2 t3 t7 t11 t12 t13) Tv
  | false=>
   rw[RD,ZI]at hs;have e5:IntKind.i64.wrap ((k:Int)+1)= ((k+1:Nat):Int):=wrapN Om;refine Rs (A7 t2 t3 t7 t11 t12 t13 e5) ?_;exact⟨_,Om,k+1,Om,rfl,hs,rfl⟩
 ·have e3:=gq hlt;have e4:k=x.1.aJ.length:=Om
  rw[e4,Ys]at hs;rw[hs];refine Rs (A7 t2 t3 t7 t11 t12 t13 e3) ?_;rfl
end
structure L1(V:RV):Prop where
 sh:∀x∈V.ak,(∀n∈x.1.aJ,n∈jA V.ar)∧x.1.aJ.length < 2^30
def fo.vS{V}(w:fo V.ar):L1 V:=by
 refine⟨fun x hx=>?_⟩;have:=(w.sh x.1 (XZ hx)).2.2;have hle:=qL this.1 (fun t ht=>this.2 t ht);have h1:=w.l1;have Vc: (jA V.ar).length=V.ar.aJ.length:=by simp[jA]
 exact⟨this.2,Om⟩
section
variable {P:Program} (T:fA P) {h:ah}
include T
theorem r139{V}(o:aD h V)(l:ed V)(ir:L1 V){x}(hm:x∈V.ak){t b c}(hb:h[b]? =some (.b V.row))(hc:h[c]? =some (.b [.i t])):
  aA P 139 [.agg (bg x),.ptr b 0,.ptr c 0] h (fun v _=>v= .bool (!eI V.ar x.1 t)):=by
 refine .nj 10 T.mix T.c139 ?_;intro ts hlen t0 t1 t2;unfold fn139;have ox:=(o.e2 x hm).one;have lb:∀{k:ah} {n:Option Nat} {a:Nat},Ext h k→ao n (.ptr b a) (fun z=>k[z]?)=cp n a (.b V.row):=fun e=>an (e.some hb)
 have lc:∀{k:ah} {n:Option Nat} {a:Nat},Ext h k→ao n (.ptr c a) (fun z=>k[z]?)=cp n a (.b [.i t]):=fun e=>an (e.some hc)
 have hsf:=fun(k:ah) (e:Ext h k)=>r76 T (o.ext e) l ((o.e2 x hm).ext e) (ir.sh x hm).2 (ir.sh x hm).1 t
 unfold bg at t0 hsf;refine Rs (A7 t0 t1 t2 @ox @lb @lc @aF) ?_;refine WF.ce T.c76 (hsf _ Xx) fun g1=>?_
 exact Fa
theorem r80{V}(o:aD h V)(l:ed V)(ir:L1 V)(t:Int):aA P 80 [.agg V.row,.i t] h (fun v h'=>aK h' v 1 ((eX V.ar t).map au)):=by
 refine .eF 10 T.mix T.c80 ?_;intro ts hlen t0 t1;unfold fn80;have Qm:=@aD.box _ _ o;refine Rs (A4 t0 t1 @Qm @eJ) ?_;have hm:∀x,x∈V.ak→∀k,Ext (h++ [aq.b V.row]++ [aq.b [AV.i t]]) k→bG P (.func (.func 139) [] [.ptr h.length 0,.ptr (h++ [aq.b V.row]).length 0]) [.agg (bg x)] k (fun v _=>v= .bool (!eI V.ar x.1 t)):=fun x hx k e=>
  bG.of (a:=[]) T.c139 (r139 T (o.ext (Ext.trans Xx e)) l ir hx (e.some tO) (e.some bf))
 refine WF.res T.c138 (r138 T (o.i2.ext Xx) o.iZ.1 (by have:=l.l2;omega) (fun x=>!eI V.ar x.1 t) hm) ?_;rintro s1 g1 hf;refine Rs (A2 t0 t1) ?_;have QT: (V.ak.filter fun x=>!eI V.ar x.1 t).length≤V.ak.length:=Ya _ _;refine WF.res T.c137 (r137 T hf.a8 (fun x hx=>o.iZ.1 x ((YI.1 hx).1)) (by have:=l.l2;omega) (fun x=>x.1.name) (fun x hx k e=>bG.of (a:=[]) (c:=[]) T.c140 (r140 T x (o.iZ.1 x ((YI.1 hx).1))))) ?_;rintro s2 g2 SY;have eu:eX V.ar t= (V.ak.filter fun x=>!eI V.ar x.1 t).map fun x=>x.1.name:=by
  exact IH
 rw[eu];have:=SY.a8;refine Rs (A2 t0 t1) ?_;exact this
theorem r255{x}(ox:x.2.one=true){n b}(hb:h[b]? =some (.b [.str n])):aA P 255 [.agg (bg x),.ptr b 0] h (fun v _=>v= .bool (decide (x.1.line=n))):=by
 refine .eF 8 T.mix T.c255 ?_;intro ts hlen t0 t1;unfold fn255 xO;have lb:∀{k:ah} {n':Option Nat} {a:Nat},Ext h k→ao n' (.ptr b a) (fun z=>k[z]?)=cp n' a (.b [.str n]):=fun e=>an (e.some hb)
 unfold bg at t0;exact Rs (A4 t0 t1 @ox @lb) Tv
theorem r206{V}(o:aD h V)(l:ed V)(n:By):aA P 206 [.agg V.row,.str n] h (fun v h'=>aK h' v 3 ((V.ak.filter fun x=>decide (x.1.line=n)).map bg)):=by
 refine .eF 9 T.mix T.c206 ?_;intro ts hlen t0 t1;unfold fn206;have Qm:=@aD.box _ _ o;refine Rs (A4 t0 t1 @Qm @eJ) ?_;refine WF.res T.c138 (r138 T (o.i2.ext Xx) o.iZ.1 (by have:=l.l2;omega) (fun x=>decide (x.1.line=n)) (fun x hx k e=>bG.of (a:=[]) (c:=[.ptr (h++ [aq.b V.row]).length 0]) T.c255 (r255 T (o.iZ.1 x hx) (e.some bf)))) ?_;rintro s1 g1 hf;have:=hf.a8;refine Rs (A2 t0 t1) ?_;exact this
theorem r269{x n b}(hb:h[b]? =some (.b [.str n])):aA P 269 [.agg (da x),.ptr b 0] h (fun v _=>v= .bool (decide (x.BE=n))):=by
 refine .eF 8 T.mix T.c269 ?_;intro ts hlen t0 t1;unfold fn269 xO;have lb:∀{k:ah} {n':Option Nat} {a:Nat},Ext h k→ao n' (.ptr b a) (fun z=>k[z]?)=cp n' a (.b [.str n]):=fun e=>an (e.some hb)
 unfold da at t0;exact Rs (A3 t0 t1 @lb) Tv
theorem r251{V}(o:aD h V)(l:ed V)(n:By):aA P 251 [.agg V.row,.str n] h (fun v _=>v= .bool (pP V.ar n)):=by
 refine .eF 9 T.mix T.c251 ?_;intro ts hlen t0 t1;unfold fn251;have Qm:=@aD.box _ _ o;refine Rs (A4 t0 t1 @Qm @gR) ?_;refine WF.ce T.c268 (r268 T (o.i5.ext Xx) (by have:=l.l5;omega) (fun x=>decide (x.BE=n)) (fun x hx k e=>bG.of (a:=[]) (c:=[.ptr (h++ [aq.b V.row]).length 0]) T.c269 (r269 T (e.some bf)))) fun g1=>?_
 refine Rs (A2 t0 t1) ?_;rfl
end
end Go.Abs
namespace Go.Abs
def WF.Jz{P ro ks ts h h' Q fv args d l v}(H:eU P fv args h v h')(K:WP P ro l ks (put ts d v) h' Q):WF P ro false fv args d l ks ts h Q:=
 ⟨v,h',H,fun hq=>absurd hq Si,K⟩
structure IterM(P:Program)(f:FuncId)(a c:List AV)(L:List (List AV))(pre:ah→Prop):Prop where
 run:∀ (l:Nat) (h:ah) (J:Nat→Nat→ah→Prop) (D:ah→Prop),(∀m i k,J m i k→pre k)→(∀m i k g,J m i k→J m i (k++g))→
  (∀m i (hi:i < L.length) k,J m i k→∃b k',eU P (.func (.yield l) [] []) L[i] k (.bool b) k'∧(∀x,l < x→x < m→k'[x]? =k[x]?)∧(if b=true then J m (i+1) k' else D k'))→
  (∀m k,J m L.length k→D k)→l+1=h.length→pre h→(∀g,J (h++g).length 0 (h++g))→db P f (a++ [.func (.yield l) [] []]++c) h (fun _ k=>D k)
section
variable {P:Program} {ks:List Kt} {ts:TS} {h:ah} {Q:Ex→TS→ah→Prop}
def WC.iterM(hmix:P.follows .mixedOrders=true){f A a c L pre g ps asg body}(hA:ai P f=some A)
  (hg:val ts g= .func (.func f) a c) (hi:IterM P f a c L pre) (hps:∀x∈L,x.length=ps.length) (I:Nat→Nat→ah→ah→Prop) (Fin:Ex→ah→ah→Prop)
  (h0:∀g,I (h.length+1+g.length) 0 h g) (hcl:∀m i h' g g2,I m i h' g→I m i h' (g++g2)) (hp0:∀X,pre (h++ [X])) (hpre:∀m i h' g X,h'.length=h.length→I m i h' g→pre (h'++ [X]++g))
  (step:∀m i (hi:i < L.length) h' g (R B:aq),h'.length=h.length→I m i h' g→
   WC P BG asg [] (setArgs ts ps L[i]) (h'++ [R]++g) fun e1 TD h2=>e1= .normal∧∃h1 g1,h2=h1++ [R]++g1∧h1.length=h.length∧
    WC P BG body [] TD (h1++ [B]++g1) fun e2 _ h4=>∃h3 g3,h4=h3++ [B]++g3∧h3.length=h.length∧(∀x,x+h.length+1 < m→g3[x]? =g[x]?)∧(if e2= .normal then I m (i+1) h3 g3 else Fin e2 h3 g3))
  (done:∀e h' g,h'.length=h.length→(if e= .normal then ∃m,I m L.length h' g else Fin e h' g)→WE P bR e ks ts (h'++ [aq.dead]++g) Q):WC P bR (.eA g ps asg body) ks ts h Q:=by
 let J:Nat→Nat→ah→Prop:=fun m i k=>∃h' g,k=h'++ [.loop .ready .normal ts ps asg body]++g∧h'.length=h.length∧I m i h' g
 let D:ah→Prop:=fun k=>∃e h' g st,k=h'++ [.loop st e ts ps asg body]++g∧h'.length=h.length∧st≠.busy∧(if e= .normal then ∃m,I m L.length h' g else Fin e h' g)
 obtain⟨v,h2,hs,e,h',g',st,rfl,hl,bS,RT⟩:=hi.run h.length (h++ [.loop .ready .normal ts ps asg body]) J D
  (fun m i k hJ=>by obtain⟨h',g,rfl,h1,h2⟩:=hJ;exact hpre m i h' g _ h1 h2)
  (fun m i k g2 hJ=>by obtain⟨h',g,rfl,h1,h2⟩:=hJ;exact⟨h',g++g2,by rw[Xt],h1,hcl _ _ _ _ _ h2⟩)
  (fun m i hi k hJ=>by
   obtain⟨h',g,rfl,h1,h2⟩:=hJ;obtain⟨e1,TD,k2,q1,rfl,h3,g3,rfl,h4,q2⟩:=W.sound hmix (step m i hi h' g (.loop .ready .normal ts ps asg body) (.loop .busy .normal ts ps asg body) h1 h2);obtain⟨e2,ts3,k3,q3,h5,g5,rfl,h6,q5,q4⟩:=W.sound hmix q2;have hy:eU P (.func (.yield h.length) [] []) L[i] (h'++ [.loop .ready .normal ts ps asg body]++g) (.bool (decide (e2= .normal))) (List.set (h5++ [aq.loop .busy .normal ts ps asg body]++g5) h.length (aq.loop (if e2= .normal then .ready else .done) e2 ts ps asg body)):=
    eU.yield (mJ h1) (hps _ (XJ hi)) (fun r=>q1 (some r) ⟨r,rfl⟩) (mJ h4) (fun r=>by rw[qR h4];exact q3 (some r) ⟨r,rfl⟩) (mJ h6)
   rw[qR h6]at hy;refine⟨decide (e2= .normal),_,hy,?_,?_⟩
   ·intro x hx Ru;rw[XE (by simp;omega),XE (by simp;omega)];have:=q5 (x - h.length - 1) Om;simp only[Xs,Xy,XA,h6,h1,Yk,Nat.sub_sub]at this ⊢;exact this
   by_cases he:e2= .normal
   ·exact Ji
   ·rw[XG he]at q4;simp only[he,XX,Yj,XO];exact⟨e2,h5,g5,.done,rfl,h6,Si,by rw[XG he];exact q4⟩)
  (fun m k hJ=>by obtain⟨h',g,rfl,h1,h2⟩:=hJ;exact⟨.normal,h',g,.ready,rfl,h1,Si,by rw[XI rfl];exact⟨m,h2⟩⟩)
  Si (hp0 _) (fun g=>⟨h,g,rfl,rfl,by have:=h0 g;simpa only[Xs,Xy,XA,Yk]using this⟩)
 exact Po
end
def WC.Ft{P ro c ts h Q Q'}(H:WC P ro c [] ts h Q)(hq:∀e ts' h',Q e ts' h'→Q' e ts' h'):WC P ro c [] ts h Q':=W.mono H hq
def qe{A B:ah}{K K':aq}{b:Nat}(h:b≠A.length): (A++ [K]++B)[b]? = (A++ [K']++B)[b]? :=by
 by_cases h1:b < A.length
 ·rw[Xt,Xt,Xv h1,Xv h1]
 ·exact Mb
def HP{A B:ah}{K:aq}: (A++ [K]++B)[A.length]? =some K:=by
 exact Jd
def dw(x:By×Bool):AV×AV:=(.str x.1,.bool x.2)
def fX:List (By×Bool)→By→Bool
 | [],_=>false
 | (a,b)::r,w=>if w=a then b else fX r w
def rl:List (By×Bool)→By→Bool→List (By×Bool)
 | [],w,b=>[(w,b)]
 | (a,c)::r,w,b=>if w=a then(w,b)::r else(a,c)::rl r w b
theorem rn:∀{M} {w w'} {b},fX (rl M w b) w' =if w' =w then b else fX M w'
 | [],w,w',b=>by rw[rl,fX];rfl
 | (a,c)::r,w,w',b=>by
  rw[rl];by_cases h1:w=a
  ·subst h1;rw[XI rfl,fX,fX];by_cases h2:w' =w
   ·rw[XI h2,XI h2]
   ·rw[XG h2,XG h2,XG h2]
  ·rw[XG h1,fX,fX,rn];by_cases h2:w' =a
   ·subst h2;rw[XI rfl,XG (YP h1),XI rfl]
   ·rw[XG h2,XG h2]
theorem sR:∀{M} {w},∃o:Option AV,jd .s (.str w) (M.map dw)=some o∧(o=some (.bool (fX M w))∨(o=none∧fX M w=false))
 | [],w=>⟨none,rfl,.inr ⟨rfl,rfl⟩⟩
 | (a,c)::r,w=>by
  by_cases h1:w=a
  ·subst h1;refine⟨some (.bool c),?_,.inl ?_⟩
   ·simp only[Yr,dw,jd,dh,BEq.rfl]
   ·rw[fX,XI rfl]
  ·obtain⟨o,h2,h3⟩:=sR (M:=r) (w:=w);have hb: (w==a)=false:=by simp[h1]
   refine⟨o,?_,?_⟩
   ·simp only[Yr,dw,jd,dh,hb];exact h2
   ·rw[fX,XG h1];exact h3
theorem uj:∀{M} {w} {b},oG .s (.str w) (.bool b) (M.map dw)=some ((rl M w b).map dw)
 | [],w,b=>rfl
 | (a,c)::r,w,b=>by
  by_cases h1:w=a
  ·subst h1;rw[rl,XI rfl];simp only[Yr,dw,oG,dh,BEq.rfl]
  ·have hb: (w==a)=false:=by simp[h1]
   have:=uj (M:=r) (w:=w) (b:=b);rw[rl,XG h1];show(match some (w==a)with| some true=>some ((AV.str w,AV.bool b)::r.map dw)| some false=>(oG .s (.str w) (.bool b) (r.map dw)).map ((AV.str a,AV.bool c)::·)| none=>none)=_;rw[hb,this];rfl
def tB(kk:CK)(m k x:AV)(G:Nat→Option aq):Option (AV×ia):=
 match m with
 | .map r=>
  match G r with
  | some (.bn es)=>
   match oG kk k x es with
   | some es'=>some (aB,.set r (.bn es'))
   | none=>none
  | _=>none
 | _=>none
def tA{kk r k x G es es'}(hb:G r=some (.bn es))(hu:oG kk k x es=some es'):tB kk (.map r) k x G=some (aB,.set r (.bn es')):=by
 simp only[tB,hb,hu]
def iY{kk m k x ρ G N}:stepT (.e9 kk m k x) ρ G N=tB kk (ρ m) (ρ k) (ρ x) G:=rfl
def gV(kk:CK)(z:AV)(ok:Bool)(m k:AV)(G:Nat→Option aq):Option (AV×ia):=
 match m with
 | .cR=>some (if ok then .dJ [z,.bool false]else z,.az)
 | .map r=>
  match G r with
  | some (.bn es)=>
   match jd kk k es with
   | some (some v)=>some (if ok then .dJ [v,.bool true]else v,.az)
   | some none=>some (if ok then .dJ [z,.bool false]else z,.az)
   | none=>none
  | _=>none
 | _=>none
def bT{kk z ok m k ρ G N}:stepT (.look kk z ok m k) ρ G N=gV kk z ok (ρ m) (ρ k) G:=rfl
def k5(z:AV)(ok:Bool):Option AV→Option (AV×ia)
 | some v=>some (if ok then .dJ [v,.bool true]else v,.az)
 | none=>some (if ok then .dJ [z,.bool false]else z,.az)
def qQ{kk z ok r k G es o}(hb:G r=some (.bn es))(hu:jd kk k es=some o):
  gV kk z ok (.map r) k G=k5 z ok o:=by
 simp only[gV,hb,hu];cases o<;>rfl
def oS{r w G M}(hb:G r=some (.bn (M.map dw))):gV .s (.bool false) false (.map r) (.str w) G=some (.bool (fX M w),.az):=by
 obtain⟨o,h1,h2⟩:=sR (M:=M) (w:=w);rw[qQ hb h1];rcases h2 with rfl| ⟨rfl,h2⟩
 ·rfl
 ·rw[h2];rfl
def qM{r w b G M}(hb:G r=some (.bn (M.map dw))):tB .s (.map r) (.str w) (.bool b) G=some (aB,.set r (.bn ((rl M w b).map dw))):=tA hb uj
def aj.tl:aj→aj
 | .seq _ b=>b
 | c=>c
def aj.hd:aj→aj
 | .seq a _=>a
 | c=>c
def aj.dr:Nat→aj→aj
 | 0,c=>c
 | n+1,c=>c.tl.dr n
def aj.He:aj→aj
 | .block _ a=>a
 | .loop a=>a
 | c=>c
def aj.Di:aj→aj
 | .eA _ _ a _=>a
 | c=>c
def aj.Cv:aj→aj
 | .eA _ _ _ b=>b
 | c=>c
def Fr.swap'{N A B g s es cs}(hs:Fr N (A++g) s es cs)(hA:A.length=N)(hB:B.length=N):Fr N (B++g) s es cs:=by
 subst hA;exact hs.swap hB
set_option maxRecDepth 10000
attribute [local irreducible] WP WC WE WB WR WF WL WG fV
def Km:aj:=((fn214).body.tl).hd
def GN:aj:=Km.tl.He
def Nu:aj:=(fn214).body.tl.tl
def Kl: (fn214).body= .seq ((fn214).body.hd) (.seq (.seq Km.hd (.block 0 (.eA (.t 16) [17,18] GN.Di GN.Cv))) Nu):=rfl
section
variable {P:Program} (T:fA P) {h:ah}
include T
theorem Bt{x:gP×AV}{Hm:List (By×Bool)→ah}{mb bb xb:Nat}(a1:∀M,(Hm M)[mb]? =some (.bn (M.map dw)))(a2:∀M,(Hm M)[bb]? =some (.b [.map mb]))(a3:∀M,(Hm M)[xb]? =some (.b (aU x)))
  (a4:∀M K:List (By×Bool),(Hm M).set mb (.bn (K.map dw))=Hm K) (a5:∀M,aK (Hm M) x.2 1 (x.1.bu.map au)) (hl:x.1.bu.length < 2^30) {ts:TS} (hlen:ts.length=56) (t4:slot ts 4= .ptr bb 0) (t6:slot ts 6= .ptr xb 0)
  {M:List (By×Bool)} {S:List (By)} (hM:∀w,fX M w=decide (w∈S)):
  WC P BG GN.Cv [] ts (Hm M) fun e _ h4=>e= .normal∧∃M',h4=Hm M'∧∀w,fX M' w=decide (w∈(if x.1.name∈S then S++x.1.bu else S)):=by
 have l2:∀{M n o},ao n (.ptr bb o) (fun z=>(Hm M)[z]?)=cp n o (.b [.map mb]):=fun {M _ _}=>an (a2 M)
 have l3:∀{M n o},ao n (.ptr xb o) (fun z=>(Hm M)[z]?)=cp n o (.b [.str x.1.name,.str x.1.gives,.str x.1.line,x.2]):=fun {M _ _}=>an (a3 M)
 have lk:∀{M w},gV .s (.bool false) false (.map mb) (.str w) (fun z=>(Hm M)[z]?)=some (.bool (fX M w),.az):=fun {M _}=>oS (a1 M)
 have mp:∀{M w b},tB .s (.map mb) (.str w) (.bool b) (fun z=>(Hm M)[z]?)=some (aB,.set mb (.bn ((rl M w b).map dw))):=fun {M _ _}=>qM (a1 M)
 have Tk:=fun M G=>(a5 M).aP G
 unfold GN Km fn214;simp only[aj.tl,aj.hd,aj.He,aj.Cv]
 repeat (first| simp (config:={ maxSteps:=1000000 }) only[aV,bd,bD,bE,reduceAdd,reduceMul,reduceLeDiff,reduceEqDiff,bF,hlen,XO,XR,t4,t6,l2,l3,Tk M]| simp (config:={ maxSteps:=1000000 }) (disch:=first| (simp only[Xs,Xy,XA]<;>omega)| rfl| omega| fail) only[fM,aV,bd,bD,bE,reduceAdd,reduceMul,reduceLeDiff,reduceEqDiff,bF,hlen,XO,XR,t4,t6,l2,l3,Tk M])
 refine WL.inv T.mix (fun n ts h'=>∃ (k:Nat) (M':List (By×Bool)),k≤x.1.bu.length∧n=x.1.bu.length - k∧h' =Hm M'∧(∀w,fX M' w=decide (w∈S∨(x.1.name∈S∧w∈x.1.bu.take k)))∧
   ts.length=56∧slot ts 4= .ptr bb 0∧slot ts 6= .ptr xb 0∧slot ts 20=x.2∧slot ts 21= .i x.1.bu.length∧slot ts 22= .i k) x.1.bu.length
  ⟨0,M,Om,rfl,rfl,fun w=>by rw[hM];simp,Sn,(Sq t4),(Sq t6),(Sq t6),(Sq t6),iF⟩ ?_
 clear t4 t6 hlen hM;clear M ts;rintro _ ts _ ⟨k,M,hk',rfl,rfl,hM,hlen,t4,t6,t20,t21,t22⟩;by_cases hlt:k < x.1.bu.length
 ·have e3:=fk hlt;have ix:=(a5 M).dG (kk:=.i64) hlt;have ld:ao none (cV x.2 1 k) (fun b=>(Hm M)[b]?)=some (.str x.1.bu[k],.az):=(a5 M).kO hlt rfl (Ext.refl _);have e5:IntKind.i64.wrap ((k:Int)+1)= ((k+1:Nat):Int):=wrapN Om;have hnew:∀w,fX (rl M x.1.bu[k] (fX M x.1.bu[k]|| fX M x.1.name)) w=decide (w∈S∨(x.1.name∈S∧w∈x.1.bu.take (k+1))):=by
   intro w;rw[rn];have ht:x.1.bu.take (k+1)=x.1.bu.take k++ [x.1.bu[k]]:=by rw[Ye,Xw hlt];rfl
   rw[ht];by_cases hw:w=x.1.bu[k]
   ·rw[XI hw,hM,hM,hw,←Bool.decide_or,Zi,XC,XT];constructor
    ·rintro((h1| h1)| (h1| h1))
     ·exact .inl h1
     ·exact .inr ⟨h1.1,.inl h1.2⟩
     ·exact .inr ⟨h1,.inr rfl⟩
     ·exact .inr ⟨h1.1,.inr rfl⟩
    ·rintro(h1| h1)
     ·exact .inl (.inl h1)
     ·exact .inr (.inl h1.1)
   ·rw[XG hw,hM,Zi,XC,XT];simp only[hw,Y7]
  cases hb:fX M x.1.bu[k]with
  | true=>
   rw[hb,Bool.true_or]at hnew;exact Pd
  | false=>
   rw[hb,ZI]at hnew;exact Pd
 ·have e3:=gq hlt;have e4:k=x.1.bu.length:=Om
  rw[e4,X8]at hM;refine Rs (A6 t4 t6 t20 t21 t22 e3) ?_;refine⟨M,rfl,fun w=>?_⟩;rw[hM,Zi];by_cases hx:x.1.name∈S<;>simp[hx]
end
def Ns:gP×AV:=(Bp,.af)
def sX(X:List (gP×AV)):List (List AV):=(List.range X.length).map fun j=>[.i ((X.length - 1 - j:Nat):Int),.agg (aU (X.getD (X.length - 1 - j) Ns))]
def iW{X}: (sX X).length=X.length:=by simp[sX]
def sW{X j}(hj:j < (sX X).length): (sX X)[j]= [.i ((X.length - 1 - j:Nat):Int),.agg (aU (X[X.length - 1 - j]'(by rw[iW]at hj;omega)))]:=by
 have h1:X.length - 1 - j < X.length:=by rw[iW]at hj;omega
 simp only[sX,YC,List.getElem_range,Yc,Xw h1,ZJ]
structure pT(V:RV)(m:By)(cm cr:Nat)(k:ah):Prop where
 m:k[cm]? =some (.b [.str m])
 r:k[cr]? =some (.b V.row)
 o:aD k V
theorem pT.ext{V m cm cr k k'}(p:pT V m cm cr k)(e:Ext k k'):pT V m cm cr k':=⟨e.some p.m,e.some p.r,p.o.ext e⟩
def iu(V:RV)(m:By):List (gP×AV):=V.aE.filter fun x=>decide (x.1.name∈cM m V.ar.aE.reverse)
def zf{m:By}{l:List gP}{i:Nat}(hi:i < l.length):cM m (l.take (i+1))= (if l[i].name∈cM m (l.take i)then cM m (l.take i)++l[i].bu else cM m (l.take i)):=by
 rw[Ye,Xw hi,cM,List.foldl_append];rfl
def zq{α:Type}{p:α→Bool}{l:List α}{k:Nat}(hk:k < l.length)(hp:p l[k]=true):∃h: ((l.take k).filter p).length < (l.filter p).length,(l.filter p)[((l.take k).filter p).length]=l[k]:=by
 have e:l.filter p= (l.take k).filter p++ (l[k]:: (l.drop (k+1)).filter p):=by
  conv=>lhs;rw[←YR k l,Zw hk,YQ,Zh,XI hp]
 have h: ((l.take k).filter p).length < (l.filter p).length:=by rw[e];simp
 refine⟨h,?_⟩;have: (l.filter p)[((l.take k).filter p).length]? =some l[k]:=by rw[e,XE (XH _)];simp
 exact(Xr.1 this).2
def BK{α:Type}{p:α→Bool}{l:List α}{k:Nat}(hk:k < l.length): ((l.take (k+1)).filter p).length=if p l[k]=true then((l.take k).filter p).length+1 else((l.take k).filter p).length:=by
 rw[Ye,Xw hk,YQ,Xs];cases h:p l[k]<;>simp[h]
def B1{N}:o8 .cR N=some (.ptr N 0,.push (.b [.cR])):=rfl
def JF{r N}:kL 1 0 (.map r) N (.b [.cR])=some (aB,.set N (.b [.map r])):=rfl
section
variable {P:Program} (T:fA P) {h:ah}
include T
theorem r215{s}(o:s.one=true):aA P 215 [s] h (fun v h'=>v= .func (.func 259) [] [.ptr h.length 0]∧h' =h++ [.b [s]]):=by
 refine .of T.mix T.c215 ?_;unfold fn215 xS;exact Ws @o Tv
theorem zl{b s X}(hl:X.length < 2^30):
  Iter P 259 [] [.ptr b 0] (sX X) (fun k=>k[b]? =some (.b [s])∧aK k s 4 (X.map aU)):=by
 refine⟨fun l h1 J Dn hpre happ Q3 Sj h0=>db.of T.mix T.c259 ?_⟩;obtain⟨ts,Qn⟩:∃ts,ts=aT 19 ([]++ [.func (.yield l) [] []]++ [.ptr b 0]):=⟨_,rfl⟩;have hlen:ts.length=19:=by rw[Qn];rfl
 have t0:slot ts 0= .func (.yield l) [] []:=by rw[Qn];rfl
 have t1:slot ts 1= .ptr b 0:=by rw[Qn];rfl
 unfold fn259;show WC P bR _ [] (aT 19 ([]++ [.func (.yield l) [] []]++ [.ptr b 0])) h1 _;rw[←Qn];clear Qn;have p0:=hpre 0 h1 h0;have l0:∀{n o},ao n (.ptr b o) (fun z=>h1[z]?)=cp n o (.b [s]):=fun {_ _}=>an p0.1
 have e0:IntKind.i64.wrap ((X.length:Int) - 1)= (X.length:Int) - 1 - (0:Nat):=by rw[bp Om Om];omega
 refine Rs (A5 t0 t1 @l0 p0.2.aP e0) ?_;refine WL.inv T.mix (fun n ts h'=>∃k:Nat,k≤X.length∧n=X.length - k∧J k h'∧ts.length=19∧slot ts 0= .func (.yield l) [] []∧slot ts 1= .ptr b 0∧slot ts 3= .i ((X.length:Int) - 1 - k)) X.length
  ⟨0,Om,rfl,h0,Sn,(Sq t0),(Sq t1),(Sq t0)⟩ ?_
 clear t0 t1 hlen l0 p0;clear ts;rintro _ ts h' ⟨k,hk,rfl,hJ,hlen,t0,t1,t3⟩;obtain⟨p1,p2⟩:=hpre _ _ hJ;have l0:∀{n o},ao n (.ptr b o) (fun z=>h'[z]?)=cp n o (.b [s]):=fun {_ _}=>an p1
 by_cases hlt:k < X.length
 ·have hj:X.length - 1 - k < X.length:=Om
  have ei: (X.length:Int) - 1 - k= ((X.length - 1 - k:Nat):Int):=Om
  have e3:decide ((0:Int)≤((X.length - 1 - k:Nat):Int))=true:=Xz Om;have ix:=p2.dG (kk:=.i64) hj;have ld:ao (some 4) (cV s 4 (X.length - 1 - k)) (fun b=>h'[b]?)=some (.agg (aU X[X.length - 1 - k]),.az):=p2.kB hj (Ext.refl _);have hwk:IntKind.i64.wrap (((X.length - 1 - k:Nat):Int) - 1)= (X.length:Int) - 1 - ((k+1:Nat):Int):=by rw[bp Om Om];omega
  rw[ei]at t3;refine Rs (A7 t0 t1 t3 @l0 e3 ix @ld) ?_;obtain⟨bb,k',q1,q2⟩:=Q3 k (by rw[iW];exact hlt) h' hJ;rw[sW]at q1;refine WF.Jz q1 ?_;cases bb with
  | true=>
   refine Rs (A5 t0 t1 t3 @XW @hwk) ?_;exact⟨_,Om,k+1,Om,rfl,q2,rfl⟩
  | false=>
   refine Rs (A4 t0 t1 t3 @XY) ?_;exact q2
 ·have e3:decide ((0:Int)≤(X.length:Int) - 1 - k)=false:=Xu Om;have e4:k=X.length:=Om
  refine Rs (A4 t0 t1 t3 e3) ?_;refine Sj h' ?_;rw[iW,←e4];exact hJ
theorem r119{V}(o:aD h V)(m:By):aA P 119 [.agg V.row,.str m] h (fun v h'=>v= .func (.func 214) [] [.ptr (h.length+1) 0,.ptr h.length 0]∧pT V m (h.length+1) h.length h'):=by
 refine .eF 6 T.mix T.c119 ?_;intro ts hlen t0 t1;unfold fn119;have Qm:=@aD.box _ _ o;have hl2: (h++ [aq.b V.row]).length=h.length+1:=Si
 refine Rs (A3 t0 t1 @Qm) ?_;rw[hl2];refine⟨rfl,?_,tO,o.ext Xx⟩;rw[←hl2];exact bf
theorem qW{V:RV}(l:ed V)(hin:∀x∈V.aE,x.1.bu.length < 2^30)(m:By)(cm cr:Nat):
  IterM P 214 [] [.ptr cm 0,.ptr cr 0] ((iu V m).map fun x=>[.agg (aU x)]) (pT V m cm cr):=by
 refine⟨fun lp h J Dn hpre happ Q3 Sj hlp p0 h0=>db.of T.mix T.c214 ?_⟩;obtain⟨ts,Qn⟩:∃ts,ts=aT 56 ([]++ [.func (.yield lp) [] []]++ [.ptr cm 0,.ptr cr 0]):=⟨_,rfl⟩;have hlen:ts.length=56:=by rw[Qn];rfl
 have t0:slot ts 0= .func (.yield lp) [] []:=by rw[Qn];rfl
 have t1:slot ts 1= .ptr cm 0:=by rw[Qn];rfl
 have t2:slot ts 2= .ptr cr 0:=by rw[Qn];rfl
 show WC P bR (fn214).body [] (aT 56 ([]++ [.func (.yield lp) [] []]++ [.ptr cm 0,.ptr cr 0])) h _;rw[←Qn,Kl];clear Qn;obtain⟨RR,Rg⟩:∃RR,RR=Nu:=⟨_,rfl⟩;obtain⟨RA,VV⟩:∃RA,RA=GN.Di:=⟨_,rfl⟩;obtain⟨RB,VU⟩:∃RB,RB=GN.Cv:=⟨_,rfl⟩;rw[←Rg,←VV,←VU];unfold Km fn214;simp only[aj.tl,aj.hd];have lm:∀{k n o},Ext h k→ao n (.ptr cm o) (fun z=>k[z]?)=cp n o (.b [.str m]):=fun {_ _ _} e=>an (e.some p0.m)
 have lr:∀{k n o},Ext h k→ao n (.ptr cr o) (fun z=>k[z]?)=cp n o (.b V.row):=fun {_ _ _} e=>an (e.some p0.r)
 have u0:tB .s (.map h.length) (.str m) (.bool true) (fun z=>(h++ [aq.bn []])[z]?)=some (aB,.set h.length (.bn ([(m,true)].map dw))):=qM (M:=[]) bf;refine Rs (mY t0 t1 t2 @lm @lr @iY @u0 @fE @B1 @JF) ?_;refine WF.res T.c215 (r215 T p0.o.i3.one) ?_;rintro _ g1 ⟨rfl,hg⟩;have hg:=Zk hg;subst hg;refine Rs (A3 t0 t1 t2) ?_;have hlV:V.ar.aE.length=V.aE.length:=by simp[RV.ar]
 refine WC.iter T.mix T.c259 (a:=[]) (c:=[.ptr (h++ [aq.bn (List.map dw [(m,true)])]++ [aq.b [AV.map h.length]]).length 0]) (Sq t0) (zl T (s:=V.s3) (X:=V.aE) (by have:=l.l3;omega)) (fun y hy=>by obtain⟨z,_,rfl⟩:=X2.1 hy;rfl)
  (fun i h' g=>∃M:List (By×Bool),h' =h++ [aq.bn (M.map dw)]++ [aq.b [AV.map h.length]]++ [aq.b [V.s3]]∧∀w,fX M w=decide (w∈cM m (V.ar.aE.reverse.take i))) (fun _ _ _=>False)
  ⟨[(m,true)],rfl,fun w=>?_⟩ (fun i h' g g' hI=>hI) (fun i h' g X hl hI=>?_) (fun i hi h' g R B Qz hI=>?_) (fun e h' g hl hI=>?_)
 ·show(if w=m then true else false)=decide (w∈[m]);by_cases hw:w=m<;>simp[hw]
 ·obtain⟨M,rfl,_⟩:=hI;refine⟨?_,p0.o.i3.ext Xx⟩;have e: (h++ [aq.bn (List.map dw [(m,true)])]++ [aq.b [AV.map h.length]]).length= (h++ [aq.bn (M.map dw)]++ [aq.b [AV.map h.length]]).length:=Si
  rw[e];exact zH
 ·obtain⟨M,rfl,hM⟩:=hI;have hi':i < V.aE.length:=by rw[←iW];exact hi
  have hj:V.aE.length - 1 - i < V.aE.length:=Om
  rw[sW,VV];have Ru:V.aE[V.aE.length - 1 - i]∈V.aE:=XJ _;have hxr:V.ar.aE.reverse[i]'(by rw[Zq];omega)= (V.aE[V.aE.length - 1 - i]).1:=by
   rw[List.getElem_reverse];simp only[RV.ar,YC,XB]
  have hns:=zf (m:=m) (l:=V.ar.aE.reverse) (i:=i) (by rw[Zq];omega);rw[hxr]at hns;generalize V.aE[V.aE.length - 1 - i]=x at *;have ox:=p0.o.iZ.2.1 x Ru;unfold GN Km fn214;simp only[aj.tl,aj.hd,aj.He,aj.Di,setArgs,aU];refine Rs (A4 t0 t1 t2 @ox) ?_;refine⟨_,g++ [aq.b [AV.str x.1.name,.str x.1.gives,.str x.1.line,x.2]],by rw[←Xt],Qz,?_⟩;have xin:=p0.o.e3 x Ru;rw[VU];refine WC.Ft (Bt T (x:=x) (mb:=h.length) (bb:=(h++ [aq.bn (List.map dw [(m,true)])]).length) (xb:=(h++ [aq.bn (List.map dw M)]++ [aq.b [AV.map h.length]]++ [aq.b [V.s3]]++ [R]++g).length)
   (Hm:=fun M=>h++ [aq.bn (List.map dw M)]++ [aq.b [AV.map h.length]]++ [aq.b [V.s3]]++ [B]++ (g++ [aq.b (aU x)]))
   (fun M=>tN) (fun M=>?_) (fun M'=>?_) (fun M K=>?_) (fun M=>xin.ext Xx) (hin x Ru) ?_ (Sq t0) (Sq t0) hM) ?_
  ·have eL: (h++ [aq.bn (List.map dw [(m,true)])]).length= (h++ [aq.bn (List.map dw M)]).length:=Si
   rw[eL];exact rM
  ·have eL: (h++ [aq.bn (List.map dw M)]++ [aq.b [AV.map h.length]]++ [aq.b [V.s3]]++ [B]++g).length= (h++ [aq.bn (List.map dw M')]++ [aq.b [AV.map h.length]]++ [aq.b [V.s3]]++ [B]++g).length:=Si
   rw[←Xt];have eR: (h++ [aq.bn (List.map dw M)]++ [aq.b [AV.map h.length]]++ [aq.b [V.s3]]++ [R]++g).length= (h++ [aq.bn (List.map dw M')]++ [aq.b [AV.map h.length]]++ [aq.b [V.s3]]++ [B]++g).length:=Si
   rw[eR];exact bf
  ·exact Ax
  ·simp only[bF,hlen]
  ·rintro e _ _ ⟨rfl,M',rfl,hM'⟩;refine⟨_,_,rfl,Si,?_⟩;rw[XI rfl];exact⟨M',rfl,fun w=>by rw[hM',hns]⟩
 ·by_cases QZ:e= .normal
  case neg=>rw[XG QZ]at hI;exact hI.elim
  subst QZ;rw[XI rfl]at hI;obtain⟨M,rfl,hM⟩:=hI;have hM:∀w,fX M w=decide (w∈cM m V.ar.aE.reverse):=fun w=>by
   rw[hM,Yf (by rw[Zq,iW,hlV];exact XH _)]
  rw[Rg];obtain⟨K0,UQ⟩:∃K0,K0=h++ [aq.bn (M.map dw)]++ [aq.b [AV.map h.length]]++ [aq.b [V.s3]]++ [aq.dead]++g:=⟨_,rfl⟩;have eK:Ext h K0:=by rw[UQ];exact Xx
  have k1:K0[h.length]? =some (.bn (M.map dw)):=by rw[UQ];exact tN
  have k2:K0[(h++ [aq.bn (List.map dw [(m,true)])]).length]? =some (.b [AV.map h.length]):=by
   have eL: (h++ [aq.bn (List.map dw [(m,true)])]).length= (h++ [aq.bn (List.map dw M)]).length:=Si
   rw[UQ,eL];exact rM
  have hJ0:J K0.length 0 K0:=by
   obtain⟨g',QL⟩:=eK;have:=h0 g'
   rwa [←QL]at this
  have U7: (h++ [aq.bn (List.map dw [(m,true)])]).length < K0.length:=by rw[UQ];simp only[Xs,Xy,XA];omega
  have hbb: (h++ [aq.bn (List.map dw [(m,true)])]).length=h.length+1:=Si
  rw[←UQ];generalize K0.length=mm at hJ0 U7;have lr0:∀{n o},ao n (.ptr cr o) (fun z=>K0[z]?)=cp n o (.b V.row):=fun {_ _}=>an (eK.some p0.r)
  have hlm3:=fun G=>p0.o.i3.aP G
  unfold Nu fn214;simp only[aj.tl];refine Rs (A6 t0 t1 t2 @lr0 @fE @hlm3) ?_;rw[hbb]at k2 U7;refine WL.inv T.mix (fun n ts h'=>∃k:Nat,k≤V.aE.length∧n=V.aE.length - k∧J mm ((V.aE.take k).filter fun x=>decide (x.1.name∈cM m V.ar.aE.reverse)).length h'∧h'[h.length]? =some (.bn (M.map dw))∧h'[h.length+1]? =some (.b [AV.map h.length])∧
    ts.length=56∧slot ts 0= .func (.yield lp) [] []∧slot ts 4= .ptr (h.length+1) 0∧slot ts 39=V.s3∧slot ts 40= .i V.aE.length∧slot ts 41= .i k) V.aE.length
   ⟨0,Om,rfl,hJ0,k1,k2,Sn,(Sq t0),(Sq (A2 t0 @hbb)),(Sq t0),(Sq t0),iF⟩ ?_
  clear t0 t1 t2 hlen lr lm u0 lr0 hJ0 k1 k2 hlm3;clear ts;rintro _ ts h' ⟨k,hk,rfl,hJ,k1,k2,hlen,t0,t4,t39,t40,t41⟩;by_cases hlt:k < V.aE.length
  ·have p1:=hpre _ _ _ hJ;have Ru:V.aE[k]∈V.aE:=XJ _;have ix:=p1.o.i3.dG (kk:=.i64) hlt;have ld:ao (some 4) (cV V.s3 4 k) (fun b=>h'[b]?)=some (.agg (aU V.aE[k]),.az):=p1.o.i3.kB hlt (Ext.refl _);have ox:=p1.o.iZ.2.1 _ Ru;have e3:=fk hlt;have e5:IntKind.i64.wrap ((k:Int)+1)= ((k+1:Nat):Int):=wrapN (by have:=l.l3;omega);have l2:∀{z n o},Ext h' z→ao n (.ptr (h.length+1) o) (fun b=>z[b]?)=cp n o (.b [AV.map h.length]):=fun {_ _ _} e=>an (e.some k2)
   have lk:∀{C w},gV .s (.bool false) false (.map h.length) (.str w) (fun z=>(h'++ [C])[z]?)=some (.bool (fX M w),.az):=fun {C _}=>oS ((Ext.app [C] (Ext.refl h')).some k1)
   have hf:=zq (p:=fun x:gP×AV=>decide (x.1.name∈cM m V.ar.aE.reverse)) hlt;have hs:=BK (p:=fun x:gP×AV=>decide (x.1.name∈cM m V.ar.aE.reverse)) hlt;have hMx:=hM V.aE[k].1.name;generalize V.aE[k]=x at *;unfold aU at ld;cases hb:fX M x.1.name with
   | true=>
    rw[hb]at hMx;obtain⟨TK,SY⟩:=hf hMx.symm;refine Rs (Cw t0 t4 t39 t40 t41 ix @ld @ox e3 @l2 @bT @lk @hb) ?_;obtain⟨bb,k',q1,q2,q3⟩:=Q3 mm _ (by rw[XB];exact TK) _ (happ _ _ _ [aq.b [AV.str x.1.name,.str x.1.gives,.str x.1.line,x.2]] hJ);rw[YC]at q1;have hf2': (iu V m)[((V.aE.take k).filter fun x=>decide (x.1.name∈cM m V.ar.aE.reverse)).length]'TK=x:=SY;have q1:eU P (.func (.yield lp) [] []) [AV.agg (aU x)] (h'++ [aq.b [AV.str x.1.name,.str x.1.gives,.str x.1.line,x.2]]) (.bool bb) k':=by
     refine Eq.mp ?_ q1;congr 1;exact X6 (fun y=>[AV.agg (aU y)]) hf2'
    unfold aU at q1;refine WF.Jz q1 ?_;cases bb with
    | true=>
     refine Rs (A7 t0 t4 t39 t40 t41 @XW e5) ?_;have hlt1:=(Xr.1 k1).1;have Rn:=(Xr.1 k2).1;refine⟨_,Om,k+1,Om,rfl,?_,?_,?_,rfl⟩
     ·rw[hs,←hMx,XI rfl];exact q3
     ·rw[q2 _ Om Om,Xv hlt1];exact k1
     ·rw[q2 _ Om Om,Xv Rn];exact k2
    | false=>
     refine Rs (A6 t0 t4 t39 t40 t41 @XY) ?_;exact q3
   | false=>
    rw[hb]at hMx;refine Rs (zU t0 t4 t39 t40 t41 ix @ld @ox e3 @l2 @bT @lk @hb e5) ?_;have hlt1:=(Xr.1 k1).1;have Rn:=(Xr.1 k2).1;refine⟨_,Om,k+1,Om,rfl,?_,?_,?_,rfl⟩
    ·rw[hs,←hMx,XG De];exact happ _ _ _ _ hJ
    ·rw[Xv hlt1];exact k1
    ·rw[Xv Rn];exact k2
  ·have e3:=gq hlt;have e4:k=V.aE.length:=Om
   rw[e4,X8]at hJ;refine Rs (A6 t0 t4 t39 t40 t41 e3) ?_;refine Sj mm h' ?_;rw[XB];exact hJ
end
def CJ:aj:=((fn122).body.tl.tl).hd
def JM:aj:=CJ.tl.He
def MD:aj:=(fn122).body.tl.tl.tl
def JL: (fn122).body= .seq ((fn122).body.hd) (.seq ((fn122).body.tl.hd) (.seq (.seq CJ.hd (.block 0 (.eA (.t 10) [11] JM.Di JM.Cv))) MD)):=rfl
def Gj{r N}:kL 1 0 (.map r) N (.b [.cR])=some (aB,.set N (.b [.map r])):=rfl
def oR{V m}: (iu V m).map Prod.fst=lZ V.ar m:=by
 rw[iu,lZ];show _=List.filter _ (List.map Prod.fst V.aE);rw[ZA];rfl
section
variable {P:Program} (T:fA P) {h:ah}
include T
theorem r217{x b c M}(hb:h[b]? =some (.b [.map c]))(hc:h[c]? =some (.bn (M.map dw))):aA P 217 [.agg (cj x),.ptr b 0] h (fun v _=>v= .bool (fX M x.name)):=by
 refine .eF 8 T.mix T.c217 ?_;intro ts hlen t0 t1;unfold fn217;have lb:∀{k:ah} {n':Option Nat} {a:Nat},Ext h k→ao n' (.ptr b a) (fun z=>k[z]?)=cp n' a (.b [.map c]):=fun e=>an (e.some hb)
 have lk:∀{C w},gV .s (.bool false) false (.map c) (.str w) (fun z=>(h++ [C])[z]?)=some (.bool (fX M w),.az):=fun {C _}=>oS ((Ext.app [C] (Ext.refl h)).some hc)
 unfold cj at t0;exact Rs (A5 t0 t1 @lb @bT @lk) Tv
theorem r122{V}(o:aD h V)(l:ed V)(hin:∀x∈V.aE,x.1.bu.length < 2^30)(m:By):aA P 122 [.agg V.row,.str m] h (fun v h'=>aK h' v 3 ((iG V.ar m).map cj)):=by
 refine .of T.mix T.c122 ?_;obtain⟨ts,Qn⟩:∃ts,ts=aT 19 [.agg V.row,.str m]:=⟨_,rfl⟩;have hlen:ts.length=19:=by rw[Qn];rfl
 have t0:slot ts 0= .agg V.row:=by rw[Qn];rfl
 have t1:slot ts 1= .str m:=by rw[Qn];rfl
 show WC P bR (fn122).body [] (aT 19 [.agg V.row,.str m]) h _;rw[←Qn,JL];clear Qn;obtain⟨RR,Rg⟩:∃RR,RR=MD:=⟨_,rfl⟩;obtain⟨RA,VV⟩:∃RA,RA=JM.Di:=⟨_,rfl⟩;obtain⟨RB,VU⟩:∃RB,RB=JM.Cv:=⟨_,rfl⟩;rw[←Rg,←VV,←VU];unfold CJ fn122;simp only[aj.tl,aj.hd];have Qm:=@aD.box _ _ o;refine Rs (A6 t0 t1 @Qm @B1 @Gj @aF) ?_;obtain⟨H0,Ut⟩:∃H0,H0=h++ [aq.b V.row]:=⟨_,rfl⟩;have e0:Ext h H0:=by rw[Ut];exact Xx
 rw[←Ut];refine WF.res T.c119 (r119 T (o.ext (e0.trans Xx)) m) ?_;rintro _ g1 ⟨rfl,hp⟩;refine Rs (A2 t0 t1) ?_;obtain⟨cm,UN⟩:∃cm,cm= (H0++ [aq.bn []]++ [aq.b [AV.map H0.length]]).length:=⟨_,rfl⟩;rw[←UN]at hp ⊢;have pmap:∀ (M:List (By×Bool)) (Z:ah),pT V m (cm+1) cm (H0++ [aq.bn (M.map dw)]++ [aq.b [AV.map H0.length]]++g1++Z):=by
  intro M Z;have hne:∀b,b≠H0.length→(H0++ [aq.bn (M.map dw)]++ [aq.b [AV.map H0.length]]++g1)[b]? = (H0++ [aq.bn []]++ [aq.b [AV.map H0.length]]++g1)[b]? :=fun b hb=>by
   have:=qe (A:=H0) (B:=[aq.b [AV.map H0.length]]++g1) (K:=aq.bn (M.map dw)) (K':=aq.bn []) (b:=b) hb
   simpa only[Xt]using this
  have hcl:cm=H0.length+2:=by rw[UN];simp
  refine pT.ext ⟨(hne _ Om).trans hp.m,(hne _ Om).trans hp.r,(o.ext e0).ext Xx⟩ (Ext.app Z (Ext.refl _))
 refine WC.iterM T.mix T.c214 (a:=[]) (c:=[.ptr (cm+1) 0,.ptr cm 0]) (Sq t0) (qW T l hin m (cm+1) cm) (fun y hy=>by obtain⟨z,_,rfl⟩:=X2.1 hy;rfl)
  (fun mm i h' g=>∃M:List (By×Bool),h' =H0++ [aq.bn (M.map dw)]++ [aq.b [AV.map H0.length]]++g1∧mm≤h'.length+1+g.length∧∀w,fX M w=decide (w∈((iu V m).take i).map fun x=>x.1.line)) (fun _ _ _=>False)
  (fun g=>⟨[],rfl,XH _,fun w=>rfl⟩) (fun mm i h' g g' hI=>by obtain⟨M,a1,a2,a3⟩:=hI;exact⟨M,a1,by rw[Xs];omega,a3⟩) (fun X=>pmap [] [X]) (fun mm i h' g X hl hI=>?_) (fun mm i hi h' g R B Qz hI=>?_) (fun e h' g hl hI=>?_)
 ·obtain⟨M,rfl,_⟩:=hI;rw[Xt (H0++ [aq.bn (M.map dw)]++ [aq.b [AV.map H0.length]]++g1)];exact pmap M _
 ·obtain⟨M,rfl,U7,hM⟩:=hI;have hi':i < (iu V m).length:=by simpa using hi
  rw[YC,VV,VU];have Ru: (iu V m)[i]∈V.aE:=(YI.1 (XJ hi')).1;have QJ: ((iu V m).take (i+1)).map (fun x=>x.1.line)= ((iu V m).take i).map (fun x=>x.1.line)++ [(iu V m)[i].1.line]:=by
   rw[Ye,Xw hi',XD];rfl
  generalize (iu V m)[i]=x at *;have ox:=o.iZ.2.1 x Ru;have eL:∀K:List (By×Bool),(H0++ [aq.bn (K.map dw)]).length= (H0++ [aq.bn []]).length:=fun K=>by simp
  have u0:∀{Z Y:ah},tB .s (.map H0.length) (.str x.1.line) (.bool true) (fun z=>(H0++ [aq.bn (M.map dw)]++ [aq.b [AV.map H0.length]]++g1++ [B]++Z++Y)[z]?)=some (aB,.set H0.length (.bn ((rl M x.1.line true).map dw))):=fun {Z Y}=>qM Cb
  have lb:∀{Z Y:ah} {n a},ao n (.ptr (H0++ [aq.bn []]).length a) (fun z=>(H0++ [aq.bn (M.map dw)]++ [aq.b [AV.map H0.length]]++g1++ [B]++Z++Y)[z]?)=cp n a (.b [.map H0.length]):=fun {Z Y _ _}=>by
   rw[←eL M];exact an tN
  have lx:∀{n a},ao n (.ptr (H0++ [aq.bn (M.map dw)]++ [aq.b [AV.map H0.length]]++g1++ [R]++g).length a) (fun z=>(H0++ [aq.bn (M.map dw)]++ [aq.b [AV.map H0.length]]++g1++ [B]++g++ [aq.b [AV.str x.1.name,.str x.1.gives,.str x.1.line,x.2]])[z]?)=cp n a (.b [AV.str x.1.name,.str x.1.gives,.str x.1.line,x.2]):=fun {_ _}=>by
   have: (H0++ [aq.bn (M.map dw)]++ [aq.b [AV.map H0.length]]++g1++ [R]++g).length= (H0++ [aq.bn (M.map dw)]++ [aq.b [AV.map H0.length]]++g1++ [B]++g).length:=Si
   rw[this];exact an bf
  unfold JM CJ fn122;simp only[aj.tl,aj.hd,aj.He,aj.Di,aj.Cv,setArgs,aU];refine Rs (A3 t0 t1 @ox) ?_;refine⟨_,g++ [aq.b [AV.str x.1.name,.str x.1.gives,.str x.1.line,x.2]],by rw[←Xt],Qz,?_⟩;rw[←Xt];refine Rs (A7 t0 t1 @ox @lb @lx @iY @u0) ?_;refine⟨_,g++ [aq.b [AV.str x.1.name,.str x.1.gives,.str x.1.line,x.2]],by rw[←Xt],Si,fun y hy=>Xv ?_,_,rfl,?_,fun w=>?_⟩
  ·simp only[Xs,Xy,XA]at hy U7;omega
  ·simp only[Xs,Xy,XA]at U7 ⊢;omega
  ·rw[rn,QJ];by_cases hw:w=x.1.line
   ·rw[XI hw];simp[hw]
   ·rw[XG hw,hM];simp[hw]
 ·by_cases QZ:e= .normal
  case neg=>rw[XG QZ]at hI;exact hI.elim
  subst QZ;rw[XI rfl]at hI;obtain⟨mm,M,rfl,_,hM⟩:=hI;rw[XB,X8]at hM;rw[Rg];have eL: (H0++ [aq.bn (M.map dw)]).length= (H0++ [aq.bn []]).length:=Si
  obtain⟨K0,UQ⟩:∃K0,K0=H0++ [aq.bn (M.map dw)]++ [aq.b [AV.map H0.length]]++g1++ [aq.dead]++g:=⟨_,rfl⟩;have eK:Ext H0 K0:=by rw[UQ];exact Xx
  have k1:K0[H0.length]? =some (.bn (M.map dw)):=by rw[UQ];exact tN
  have k2:K0[(H0++ [aq.bn []]).length]? =some (.b [AV.map H0.length]):=by
   rw[UQ,←eL];exact rM
  rw[←UQ];have lr:∀{k n a},Ext K0 k→ao n (.ptr h.length a) (fun z=>k[z]?)=cp n a (.b V.row):=fun {_ _ _} e=>an ((eK.trans e).some (by rw[Ut];exact bf))
  unfold MD fn122;simp only[aj.tl];refine Rs (A4 t0 t1 @lr @fT) ?_;refine WF.res T.c216 (r216 T (o.i0.ext (e0.trans (eK.trans Xx))) (by have:=l.l0;omega) (fun x=>fX M x.name) (fun x hx k e=>bG.of (a:=[]) (c:=[.ptr (H0++ [aq.bn []]).length 0]) T.c217 (r217 T (e.some k2) (e.some k1)))) ?_;rintro s1 g2 hf;have eh:=e0.trans eK;have es:V.lines.filter (fun x=>fX M x.name)=iG V.ar m:=by
   refine List.filter_congr fun x _=>?_
   rw[hM,←oR,Za];rfl
  rw[es]at hf;have:=hf.a8;refine Rs (A2 t0 t1) ?_;exact⟨Ext.app _ eh,this⟩
end
def fF(x:Nat×Bool):List AV:=[.i (x.1:Int),.bool x.2]
def jr:Kd→AV
 | .e8=>.nilFunc
 | .line=>.func (.func 148) [] []
 | .tape=>.func (.func 151) [] []
 | .fY=>.func (.func 155) [] []
 | .copy=>.func (.func 157) [] []
 | .accept=>.func (.func 159) [] []
 | .source=>.func (.func 161) [] []
 | .fL=>.func (.func 163) [] []
 | .merge=>.func (.func 165) [] []
 | .run=>.func (.func 167) [] []
 | .fK=>.func (.func 169) [] []
 | .fail=>.func (.func 171) [] []
 | .fZ=>.func (.func 173) [] []
 | .rel=>.func (.func 175) [] []
def nK:Kd→AV
 | .e8=>.nilFunc
 | .line=>.func (.func 149) [] []
 | .tape=>.func (.func 152) [] []
 | .fY=>.func (.func 156) [] []
 | .copy=>.func (.func 158) [] []
 | .accept=>.func (.func 160) [] []
 | .source=>.func (.func 162) [] []
 | .fL=>.func (.func 164) [] []
 | .merge=>.func (.func 166) [] []
 | .run=>.func (.func 168) [] []
 | .fK=>.func (.func 170) [] []
 | .fail=>.func (.func 172) [] []
 | .fZ=>.func (.func 174) [] []
 | .rel=>.func (.func 176) [] []
def DH:Kd→Option Nat
 | .e8=>none
 | .line=>some 0
 | .tape=>some 3
 | .fY=>some 1
 | .copy=>some 3
 | .accept=>some 0
 | .source=>some 1
 | .fL=>none
 | .merge=>none
 | .run=>none
 | .fK=>none
 | .fail=>none
 | .fZ=>none
 | .rel=>none
def xI(h:ah)(d:Kd)(v:AV):Prop:=
 match DH d with
 | none=>v= .nilFunc
 | some 3=>v= .func (.func 153) [] []
 | some i=>∃b,v= .func (.func 240) [] [.ptr b 0]∧h[b]? =some (.b [.i (i:Int)])
structure zS(h:ah)(d:Kd)(v:AV):Prop where
 ex:∃rs a,v= .agg [rs,.i (cB d:Int),jr d,nK d,a]∧aK h rs 2 ((bL d).map fF)∧a.one=true∧xI h d a
def NJ(vf:Kd→AV):List (AV×AV):=Fw.map fun d=>(.str (bz d),vf d)
structure uc(h:ah)(r:Nat)(vf:Kd→AV):Prop where
 m:h[r]? =some (.bn (NJ vf))
 k:∀d,zS h d (vf d)
theorem yr{vf:Kd→AV}{k:By}:∀{L:List Kd},jd .s (.str k) (L.map fun d=>(AV.str (bz d),vf d))=some ((L.find? fun d=>bz d==k).map vf)
 | []=>rfl
 | d::L=>by
  rw[Yr,List.find?_cons];by_cases hk:k=bz d
  ·subst hk;simp only[jd,dh,BEq.rfl,Zp]
  ·have h1: (k==bz d)=false:=by simp[hk]
   have h2: (bz d==k)=false:=by simp[YP hk]
   simp only[jd,dh,h1,h2];exact yr
def uc.look{h:ah}{r:Nat}{vf:Kd→AV}(o:uc h r vf){z:AV}{ok:Bool}{k:By}:gV .s z ok (.map r) (.str k) (fun b=>h[b]?)=k5 z ok ((gF k).map vf):=qQ o.m yr
def FZ(h g:ah)(s:AV)(rs:List (Nat×Bool)):Prop:=∀X,aK (h++ [X]++g) s 2 (rs.map fF)
theorem FZ.app{h g s rs}(o:FZ h g s rs)(g':ah):FZ h (g++g') s rs:=fun X=>by rw[←Xt];exact(o X).app g'
def Qk(h g:ah)(b:Nat)(i:Int):Prop:=∀X,(h++ [X]++g)[b]? =some (aq.b [.i i])
theorem xI.app{h d v}(o:xI h d v)(g:ah):xI (h++g) d v:=by
 unfold xI at *;split at o
 ·exact o
 ·exact o
 ·obtain⟨b,h1,h2⟩:=o;exact⟨b,h1,(Ext.app g (Ext.refl _)).some h2⟩
theorem zS.app{h d v}(o:zS h d v)(g:ah):zS (h++g) d v:=by
 obtain⟨rs,a,e,hs,ha,hb⟩:=o.ex;exact⟨rs,a,e,hs.app g,ha,hb.app g⟩
def k8(ds:List Kd)(vf:Kd→AV):List (AV×AV):=ds.map fun d=>(.str (bz d),vf d)
def DG(vf:Kd→AV)(d:Kd)(v:AV):Kd→AV:=fun x=>if x=d then v else vf x
def zX(a:Nat)(F:List (Nat×AV)):Bool:=decide (a < 56) && decide (a≠1) && F.all fun p=>decide (p.1≠a)
structure rz(h:ah)(ts:TS)(g:ah)(ds:List Kd)(vf:Kd→AV)(F:List (Nat×AV)):Prop where
 l:ts.length=56
 m:slot ts 1= .map h.length
 f:∀p∈F,slot ts p.1=p.2
 e:∀d∈ds,∀X,zS (h++ [X]++g) d (vf d)
def rz.put{h ts g ds vf F}(s:rz h ts g ds vf F){a v}(g':ah)(hc:zX a F=true):rz h (ts.set a v) (g++g') ds vf ((a,v)::F):=by
 simp only[zX,X4,Yg,X5]at hc;have hl:a+1≤ts.length:=by rw[s.l];omega
 refine⟨by simp only[bF,s.l],by simp only[bF,YV hc.1.2,s.m],fun p hp=>?_,fun d hd X=>?_⟩
 ·rcases X9.1 hp with rfl| hp
  ·simp only[bF,hl]
  ·simp only[bF,YV (fun e=>hc.2 p hp (Eq.symm e)),s.f p hp]
 ·rw[←Xt];exact(s.e d hd X).app g'
theorem Ah{vf k v}:∀{ds},ds.all (fun x=>!(bz x==k))=true→oG .s (.str k) v (k8 ds vf)=some (k8 ds vf++ [(.str k,v)])
 | [],_=>rfl
 | d::ds,hd=>by
  rw[YY,X4]at hd;have h2: (bz d==k)=false:=by simpa using hd.1
  have h3:¬bz d=k:=by simpa using hd.1
  have h1: (k==bz d)=false:=by simp[YP h3]
  have:=Ah (vf:=vf) (v:=v) hd.2;unfold k8 at *;simp only[Yr,oG,dh,h1,h2,this,Zp,YL]
def hP:AV.one .nilFunc=true:=rfl
section
variable {P:Program} (T:fA P) {h:ah}
include T
theorem r147(t:Int):aA P 147 [.i t] h (fun v _=>v= .agg [.i t,.bool false]):=by
 refine .of T.mix T.c147 ?_;unfold fn147;exact Wn Tv
theorem r154(t:Int):aA P 154 [.i t] h (fun v _=>v= .agg [.i t,.bool true]):=by
 refine .of T.mix T.c154 ?_;unfold fn154;exact Wn Tv
theorem r150(i:Int):aA P 150 [.i i] h (fun v h'=>v= .func (.func 240) [] [.ptr h.length 0]∧h' =h++ [.b [.i i]]):=by
 refine .of T.mix T.c150 ?_;unfold fn150 xS;exact Wn Tv
section
variable {ks:List Kt} {ts:TS} {Q:Ex→TS→ah→Prop} {g:ah} {ds:List Kd} {vf:Kd→AV} {F:List (Nat×AV)} {a:Nat} {l:List bJ}
theorem jt{t}(s:rz h ts g ds vf F)(hc:zX a F=true)(K:∀ts' g',rz h ts' (g++g') ds vf ((a,.agg [.i t,.bool false])::F)→WP P bR l ks ts' (h++ [.bn (k8 ds vf)]++ (g++g')) Q):
  WP P bR (.c a 147 [.c (.i t)]::l) ks ts (h++ [.bn (k8 ds vf)]++g) Q:=by
 refine Wn ?_;refine WF.ce T.c147 (r147 T t) fun g1=>?_
 exact I7
theorem js{t}(s:rz h ts g ds vf F)(hc:zX a F=true)(K:∀ts' g',rz h ts' (g++g') ds vf ((a,.agg [.i t,.bool true])::F)→WP P bR l ks ts' (h++ [.bn (k8 ds vf)]++ (g++g')) Q):
  WP P bR (.c a 154 [.c (.i t)]::l) ks ts (h++ [.bn (k8 ds vf)]++g) Q:=by
 refine Wn ?_;refine WF.ce T.c154 (r154 T t) fun g1=>?_
 exact I7
theorem DI{t}(s:rz h ts g ds vf F)(hc:zX a F=true)(K:∀ts' g' b,rz h ts' (g++g') ds vf ((a,.func (.func 240) [] [.ptr b 0])::F)→Qk h (g++g') b t→WP P bR l ks ts' (h++ [.bn (k8 ds vf)]++ (g++g')) Q):
  WP P bR (.c a 150 [.c (.i t)]::l) ks ts (h++ [.bn (k8 ds vf)]++g) Q:=by
 refine Wn ?_;refine WF.res T.c150 (r150 T t) ?_;rintro _ g1 ⟨rfl,hg⟩;have hg:=Zk hg;subst hg;rw[Xt (h++ [aq.bn (k8 ds vf)]) g];refine K _ _ _ (s.put _ hc) fun X=>?_
 have e: (h++ [aq.bn (k8 ds vf)]++g).length= (h++ [X]++g).length:=Si
 rw[e,←Xt];exact bf
theorem BC{N}(s:rz h ts g ds vf F)(hc:zX a []=true){n xs}(hN:N= (h++ [aq.bn (k8 ds vf)]++g).length)(hn:xs.length=n)(K:∀ts' g' s,rz h ts' (g++g') ds vf [(a,s)]→FZ h (g++g') s xs→WP P bR l ks ts' (h++ [.bn (k8 ds vf)]++ (g++g')) Q):
  WP P bR l ks (ts.set a (.slice N 0 n 2)) (h++ [.bn (k8 ds vf)]++g++ [.cells (xs.map fF).flatten true true]) Q:=by
 subst hN;subst hn;rw[Xt (h++ [aq.bn (k8 ds vf)]) g];have s0:rz h ts g ds vf []:=⟨s.l,s.m,fun _ hp=>(by cases hp),s.e⟩;refine K _ _ _ (s0.put _ hc) fun X=>?_
 have e: (h++ [aq.bn (k8 ds vf)]++g).length= (h++ [X]++g).length:=Si
 rw[e,←Xt];have:=(Fr.push (N:=0) (h:=h++ [X]++g) (X3 _) (xs.map fF) (es:=2) (by intro c hc;obtain⟨x,_,rfl⟩:=X2.1 hc;rfl)).a8
 rwa [XB]at this
theorem sM{a0 x0}(s:rz h ts g ds vf [(a0,.agg (fF x0))])(hc:zX a []=true)(K:∀ts' g' s,rz h ts' (g++g') ds vf [(a,s)]→FZ h (g++g') s [x0]→WP P bR l ks ts' (h++ [.bn (k8 ds vf)]++ (g++g')) Q):
  WP P bR (.o a (.aG 2 1 [.i 0,.bool false] [(0,.t a0)])::l) ks ts (h++ [.bn (k8 ds vf)]++g) Q:=by
 have s0:slot ts a0= .agg [.i (x0.1:Int),.bool x0.2]:=s.f (a0,.agg (fF x0)) Si;refine Ws @s0 ?_;exact BC T s hc rfl rfl K
theorem uX{a0 a1 x0 x1}(s:rz h ts g ds vf [(a1,.agg (fF x1)),(a0,.agg (fF x0))])(hc:zX a []=true)(K:∀ts' g' s,rz h ts' (g++g') ds vf [(a,s)]→FZ h (g++g') s [x0,x1]→WP P bR l ks ts' (h++ [.bn (k8 ds vf)]++ (g++g')) Q):
  WP P bR (.o a (.aG 2 2 [.i 0,.bool false] [(0,.t a0),(2,.t a1)])::l) ks ts (h++ [.bn (k8 ds vf)]++g) Q:=by
 have s0:slot ts a0= .agg [.i (x0.1:Int),.bool x0.2]:=s.f (a0,.agg (fF x0)) Si;have s1:slot ts a1= .agg [.i (x1.1:Int),.bool x1.2]:=s.f (a1,.agg (fF x1)) Si;refine Ws (A2 @s0 @s1) ?_;exact BC T s hc rfl rfl K
theorem Fy{a0 a1 a2 x0 x1 x2}(s:rz h ts g ds vf [(a2,.agg (fF x2)),(a1,.agg (fF x1)),(a0,.agg (fF x0))])(hc:zX a []=true)(K:∀ts' g' s,rz h ts' (g++g') ds vf [(a,s)]→FZ h (g++g') s [x0,x1,x2]→WP P bR l ks ts' (h++ [.bn (k8 ds vf)]++ (g++g')) Q):
  WP P bR (.o a (.aG 2 3 [.i 0,.bool false] [(0,.t a0),(2,.t a1),(4,.t a2)])::l) ks ts (h++ [.bn (k8 ds vf)]++g) Q:=by
 have s0:slot ts a0= .agg [.i (x0.1:Int),.bool x0.2]:=s.f (a0,.agg (fF x0)) Si;have s1:slot ts a1= .agg [.i (x1.1:Int),.bool x1.2]:=s.f (a1,.agg (fF x1)) Si;have s2:slot ts a2= .agg [.i (x2.1:Int),.bool x2.2]:=s.f (a2,.agg (fF x2)) Si;refine Ws (A3 @s0 @s1 @s2) ?_;exact BC T s hc rfl rfl K
theorem KH{v}:WP P bR [.o a (.aI (.c v))] ks ts h Q=WE P bR .normal ks (ts.set a v) h Q:=by
 unfold bJ.o;rw[Cq,Cn,xM,pA]
theorem KI:WP P bR (.o a .kZ::l) ks ts h Q=WP P bR l ks (ts.set a (.map h.length)) (h++ [.bn []]) Q:=vM
theorem Fx{z ps v}(d:Kd)(s:rz h ts g ds vf F)(hc:zX a []=true)(hd:ds.all (fun x=>!(bz x==bz d))=true)
  (hv:rk (eo z (ps.map fun p=>(p.1,p.2.1,val ts p.2.2)))=some v) (ok:∀X,zS (h++ [X]++g) d v)
  (K:∀ts',rz h ts' g (ds++ [d]) (DG vf d v) []→WP P bR l ks ts' (h++ [.bn (k8 (ds++ [d]) (DG vf d v))]++g) Q):
  WP P bR (.o a (.build z ps):: .x (.e9 .s (.t 1) (.c (.str (bz d))) (.t a))::l) ks ts (h++ [.bn (k8 ds vf)]++g) Q:=by
 have e1:tB .s (.map h.length) (.str (bz d)) v (fun b=>(h++ [aq.bn (k8 ds vf)]++g)[b]?)=some (aB,.set h.length (.bn (k8 ds vf++ [(.str (bz d),v)]))):=tA tO (Ah hd);have hn:∀x∈ds,x≠d:=fun x hx e=>by
  have:=X5.1 hd x hx;rw[e]at this;simp at this
 have eL:k8 ds vf++ [(.str (bz d),v)]=k8 (ds++ [d]) (DG vf d v):=by
  unfold k8;rw[XD,List.map_singleton,DG,XI rfl];exact X6 (· ++_) (List.map_congr_left fun x hx=>by rw[DG,XG (hn x hx)])
 unfold bJ.o bJ.x;rw[rr,hv,tT,tY];simp only[zX,X4,Yg]at hc;have hl:a+1≤ts.length:=by rw[s.l];omega
 have e2:val (put ts (some a) v) (.t 1)= .map h.length:=by
  simp only[pA,ui,bF,YV hc.1.2,s.m]
 have e3:val (put ts (some a) v) (.t a)=v:=by simp only[pA,ui,bF,hl]
 rw[iY,e2,e3,xM,e1,rq,Bh,pA];have e4: (h++ [aq.bn (k8 ds vf)]++g).set h.length (.bn (k8 ds vf++ [(.str (bz d),v)]))=h++ [.bn (k8 ds vf++ [(.str (bz d),v)])]++g:=x9;rw[e4,eL];refine K _ ⟨by simp only[bF,s.l],by simp only[bF,YV hc.1.2,s.m],fun _ hp=>(by cases hp),fun x hx X=>?_⟩;rcases XC.1 hx with hx| hx
 ·rw[DG,XG (hn x hx)];exact s.e x hx X
 ·rw[XT.1 hx,DG,XI rfl];exact ok X
theorem oX{i f2 f3 n x4 r a4}(d:Kd)(s:rz h ts g ds vf F)(hc:zX a []=true)(hd:ds.all (fun x=>!(bz x==bz d))=true)(hi: (i,r)∈F)(hb:FZ h g r (bL d))(h4:val ts x4=a4)(o4:a4.one=true)(b4:∀X,xI (h++ [X]++g) d a4)
  (hn: (cB d:Int)=n) (h2:jr d= .func (.func f2) [] []) (h3:nK d= .func (.func f3) [] [])
  (K:∀ts',rz h ts' g (ds++ [d]) (DG vf d (.agg [r,.i n,jr d,nK d,a4])) []→WP P bR l ks ts' (h++ [.bn (k8 (ds++ [d]) (DG vf d (.agg [r,.i n,jr d,nK d,a4])))]++g) Q):
  WP P bR (.o a (.build [.af,.i 0,.nilFunc,.nilFunc,.nilFunc] [(0,1,.t i),(1,1,.c (.i n)),(2,1,.f f2),(3,1,.f f3),(4,1,x4)]):: .x (.e9 .s (.t 1) (.c (.str (bz d))) (.t a))::l) ks ts (h++ [.bn (k8 ds vf)]++g) Q:=by
 have s0:slot ts i=r:=s.f (i,r) hi;have o0:r.one=true:=(hb (.bn [])).one;refine Fx T d s hc hd ?_ (fun X=>⟨r,a4,by rw[hn],hb X,o4,b4 X⟩) K;exact Ws (A6 @s0 @h4 @o0 @o4 @h2 @h3) Tv
end
theorem r90:aA P 90 [] h (fun v h'=>∃vf,v= .map h.length∧uc h' h.length vf):=by
 refine .P0 56 T.mix T.c90 ?_;intro ts hlen;unfold fn90;have m0:slot ((ts.set 0 AV.cR).set 1 (.map h.length)) 1= .map h.length:=by simp only[bF,hlen,reduceAdd,reduceLeDiff]
 have l0: ((ts.set 0 AV.cR).set 1 (.map h.length)).length=56:=by simp only[bF,hlen]
 dsimp only[aj.j,aj.s,aj.r];rw[ru,rv,KH T,ua,ru,rv,KI T];rw[←XU (h++ [aq.bn []])];generalize (ts.set 0 AV.cR).set 1 (.map h.length)=ts at *;clear hlen;have s:rz h ts [] [] (fun _=>aB) []:=⟨l0,m0,fun _ hp=>(by cases hp),fun _ hd=>(by cases hd)⟩;clear l0 m0;refine Fx T .e8 s rfl rfl (v:=.agg [.af,.i 0,.nilFunc,.nilFunc,.nilFunc]) rfl (fun X=>⟨_,_,rfl,.nil,rfl,rfl⟩) ?_;intro ts s;refine jt T (t:=0) s rfl ?_;intro ts g s;refine sM T (x0:=(0,false)) s rfl ?_;intro ts g r s b;refine DI T (t:=0) s rfl ?_;intro ts g p s c;refine oX T .line s rfl rfl (by simp only[X9,true_or,or_true]) (b.app g) (s.f (_,_) (Yn ..)) rfl (fun X=>⟨p,rfl,c X⟩) rfl rfl rfl ?_
 intro ts s;refine jt T (t:=1) s rfl ?_;intro ts g s;refine sM T (x0:=(1,false)) s rfl ?_;intro ts g r s b;refine oX T .tape s rfl rfl (Yn ..) b rfl rfl (fun _=>rfl) rfl rfl rfl ?_;intro ts s;refine jt T (t:=2) s rfl ?_;intro ts g s;refine js T (t:=0) s rfl ?_;intro ts g s;refine js T (t:=1) s rfl ?_;intro ts g s;refine Fy T (x0:=(2,false)) (x1:=(0,true)) (x2:=(1,true)) s rfl ?_;intro ts g r s b;refine DI T (t:=1) s rfl ?_;intro ts g p s c;refine oX T .fY s rfl rfl (by simp only[X9,true_or,or_true]) (b.app g) (s.f (_,_) (Yn ..)) rfl (fun X=>⟨p,rfl,c X⟩) rfl rfl rfl ?_;intro ts s;refine js T (t:=1) s rfl ?_
 intro ts g s;refine js T (t:=1) s rfl ?_;intro ts g s;refine uX T (x0:=(1,true)) (x1:=(1,true)) s rfl ?_;intro ts g r s b;refine oX T .copy s rfl rfl (Yn ..) b rfl rfl (fun _=>rfl) rfl rfl rfl ?_;intro ts s;refine js T (t:=0) s rfl ?_;intro ts g s;refine sM T (x0:=(0,true)) s rfl ?_;intro ts g r s b;refine DI T (t:=0) s rfl ?_;intro ts g p s c;refine oX T .accept s rfl rfl (by simp only[X9,true_or,or_true]) (b.app g) (s.f (_,_) (Yn ..)) rfl (fun X=>⟨p,rfl,c X⟩) rfl rfl rfl ?_;intro ts s;refine jt T (t:=3) s rfl ?_;intro ts g s;refine js T (t:=0) s rfl ?_;intro ts g s;refine uX T (x0:=(3,false)) (x1:=(0,true)) s rfl ?_
 intro ts g r s b;refine DI T (t:=1) s rfl ?_;intro ts g p s c;refine oX T .source s rfl rfl (by simp only[X9,true_or,or_true]) (b.app g) (s.f (_,_) (Yn ..)) rfl (fun X=>⟨p,rfl,c X⟩) rfl rfl rfl ?_;intro ts s;refine jt T (t:=3) s rfl ?_;intro ts g s;refine js T (t:=3) s rfl ?_;intro ts g s;refine uX T (x0:=(3,false)) (x1:=(3,true)) s rfl ?_;intro ts g r s b;refine oX T .fL s rfl rfl (Yn ..) b rfl rfl (fun _=>rfl) rfl rfl rfl ?_;intro ts s;refine jt T (t:=3) s rfl ?_;intro ts g s;refine js T (t:=3) s rfl ?_;intro ts g s;refine js T (t:=3) s rfl ?_;intro ts g s;refine Fy T (x0:=(3,false)) (x1:=(3,true)) (x2:=(3,true)) s rfl ?_
 intro ts g r s b;refine oX T .merge s rfl rfl (Yn ..) b rfl rfl (fun _=>rfl) rfl rfl rfl ?_;intro ts s;refine jt T (t:=4) s rfl ?_;intro ts g s;refine js T (t:=3) s rfl ?_;intro ts g s;refine uX T (x0:=(4,false)) (x1:=(3,true)) s rfl ?_;intro ts g r s b;refine oX T .run s rfl rfl (Yn ..) b rfl rfl (fun _=>rfl) rfl rfl rfl ?_;intro ts s;refine js T (t:=4) s rfl ?_;intro ts g s;refine sM T (x0:=(4,true)) s rfl ?_;intro ts g r s b;refine oX T .fK s rfl rfl (Yn ..) b rfl rfl (fun _=>rfl) rfl rfl rfl ?_;intro ts s;refine js T (t:=4) s rfl ?_;intro ts g s;refine sM T (x0:=(4,true)) s rfl ?_;intro ts g r s b
 refine oX T .fail s rfl rfl (Yn ..) b rfl rfl (fun _=>rfl) rfl rfl rfl ?_;intro ts s;refine jt T (t:=5) s rfl ?_;intro ts g s;refine js T (t:=4) s rfl ?_;intro ts g s;refine uX T (x0:=(5,false)) (x1:=(4,true)) s rfl ?_;intro ts g r s b;refine oX T .fZ s rfl rfl (Yn ..) b rfl rfl (fun _=>rfl) rfl rfl rfl ?_;intro ts s;refine js T (t:=5) s rfl ?_;intro ts g s;refine sM T (x0:=(5,true)) s rfl ?_;intro ts g r s b;refine oX T .rel s rfl rfl (Yn ..) b rfl rfl (fun _=>rfl) rfl rfl rfl ?_;intro ts s;have hlen:=s.l;have t1:=s.m;refine Rs t1 ?_;exact⟨_,tO,fun d=>s.e d (by cases d<;>decide) _⟩
end
end Go.Abs
