/- A shot that is copied from tape to tape: the loops over the lists and the tapes. No condition. · Contracts: words compared. No condition. · A shot that is copied from tape to tape: is it safe up to the end, and not later? No condition. · A shot that is copied from tape to tape: the late copy; the questions in a row. No condition. · A shot that is copied from tape to tape: the questions in a row; the whole. No condition. · The package-level variables that the Anchor rows lay: the headers' ranges, the steps of a house. No condition. -/
import Derived.Test.YtjipbemoklhnaaaGreatDoorAc8
set_option maxHeartbeats 4000000
set_option linter.all false
namespace Go.Abs
def TwE.at{M k bp b1 A1 s1 L1 b2 A2 s2 L2}(t:TwE M k bp b1 A1 s1 L1 b2 A2 s2 L2){bq:Nat}(h:bq<M\/k.length<=bq):TwE M k bq b1 A1 s1 L1 b2 A2 s2 L2:=
 ⟨t.w,t.e1,t.e2,t.z1,t.z2,λe=>(by have:=t.w.g1.ow.sBlt e;omega),λe=>(by have:=t.w.g2.ow.sBlt e;omega)⟩
def AiQ(h:AHeap)(M n i mi:Nat)(p f:Int)(b7 b8 b9:Nat):Ex->TS->AHeap->Prop:=λe ts k=>
 e=.normal/\Ext h k/\M<=k.length/\k[b7]? =some (.cells acC true false)/\(∃s1 L1 s2 L2,TwE M k b7 b8 (acL p f 0 (i+1)) s1 L1 b9 (acL p f mi (i+1)) s2 L2)/\ts.length=230/\slot ts 3=.int .i64 n/\slot ts 4=.int .i64 p/\slot ts 5=.int .i64 f/\slot ts 6=.int .i64 mi/\slot ts 7=.ptr b7 0/\slot ts 8=.ptr b8 0/\slot ts 9=.ptr b9 0/\slot ts 45=.int .i64 n/\slot ts 46=.int .i64 i
set_option maxRecDepth 10000
attribute [local irreducible] WP WC WE WB WR WF WL WG WRg WQ
section
variable {P:Program}(T:Tbl P) {h:AHeap}
include T
def ab_inner{W:AHeap}{ts:TS}{n i mi:Nat}{p f:Int}{b7 b8 b9 M:Nat}{s1 s2:AV}{L1 L2:List EV}(gl:Gl h)(eh:Ext h W)(hh8:h.length<=b8)(hh9:h.length<=b9)(hM:M<=W.length)(h89:b8≠b9)(h8M:b8<M)(h9M:b9<M)(h7:b7<M)(h78:b7≠b8)(h79:b7≠b9)
  (m7:W[b7]? =some (.cells acC true false)) (hp:1<=p/\p<=20) (hf:p<=f/\f<=29) (hi:i<n) (hn:n<=8)
  (t:TwE M W b7 b8 (acL p f 0 i) s1 L1 b9 (acL p f mi i) s2 L2) (hlen:ts.length=230) (t3:slot ts 3=.int .i64 n) (t4:slot ts 4=.int .i64 p) (t5:slot ts 5=.int .i64 f) (t6:slot ts 6=.int .i64 mi) (t7:slot ts 7=.ptr b7 0) (t8:slot ts 8=.ptr b8 0) (t9:slot ts 9=.ptr b9 0) (t45:slot ts 45=.int .i64 n) (t46:slot ts 46=.int .i64 i):
  WC P inFn acD [] ts W (AiQ h M n i mi p f b7 b8 b9):=by
 rw[ac_D];generalize hC:acF=C;unfold acE acD acB acT fn3;simp only[ICode.j,ICode.s,ICode.r,ICode.dr,ICode.tl,ICode.hd,ICode.inn];have ln2:∀{G:Nat->Option ABlk}{b:Nat},lenG .sl G (.slice b 0 2 1)=some 2:=λ{G b}=>rfl
 refine Rs (A10 @t3 @t4 @t5 @t6 @t7 @t8 @t9 @t45 @t46 @ln2) ?_;obtain⟨W0,hW0⟩:∃W0,W0=W++[ABlk.cells [.ptr b8 0,.ptr b9 0] true true]:=⟨_,rfl⟩;have mp:W0[W.length]? =some (.cells [.ptr b8 0,.ptr b9 0] true true):=by rw[hW0];exact at_new
 have eW0:Ext W W0:=by rw[hW0];exact⟨_,rfl⟩
 have hl0:W0.length=W.length+1:=by rw[hW0,List.length_append,List.length_singleton]
 rw[<-hW0];clear hW0;obtain⟨bp,hbp⟩:∃bp,bp=W.length:=⟨_,rfl⟩;have tW:=(t.at (bq:=bp) (.inr (by omega))).ext eW0;have e0:=eh.trans eW0;have m70:=eW0.some m7;rw[<-hbp]at mp ⊢;refine WL.inv T.mix (λm ts K=>∃k:Nat,k<=2/\m=2-k/\Ext h K/\bp<K.length/\K[b7]? =some (.cells acC true false)/\K[bp]? =some (.cells [.ptr b8 0,.ptr b9 0] true true)/\(∃s1 L1 s2 L2,TwE M K bp b8 (acL p f 0 (if 1<=k then i+1 else i)) s1 L1 b9 (acL p f mi (if 2<=k then i+1 else i)) s2 L2)/\ts.length=230/\slot ts 3=.int .i64 n/\slot ts 4=.int .i64 p/\slot ts 5=.int .i64 f/\slot ts 6=.int .i64 mi/\slot ts 7=.ptr b7 0/\slot ts 8=.ptr b8 0/\slot ts 9=.ptr b9 0/\slot ts 45=.int .i64 n/\slot ts 46=.int .i64 i/\slot ts 10=.int .i64 i/\slot ts 49=.slice bp 0 2 1/\slot ts 50=.int .i64 2/\slot ts 51=.int .i64 k) 2
  ⟨0,by omega,rfl,e0,by omega,m70,mp,⟨s1,L1,s2,L2,tW⟩,Sn,(Sq @t3),(Sq @t4),(Sq @t5),(Sq @t6),(Sq @t7),(Sq @t8),(Sq @t9),(Sq @t45),(Sq @t46),(Sq (A9 @t3 @t4 @t5 @t6 @t7 @t8 @t9 @t45 @t46)),(by simp only[wset,hset,dset,bset,Nat.reduceAdd,Nat.reduceMul,Nat.reduceLeDiff,Nat.reduceEqDiff,pset,hlen,if_false,if_true,t3,t4,t5,t6,t7,t8,t9,t45,t46]<;>rfl),(by simp only[wset,hset,dset,bset,Nat.reduceAdd,Nat.reduceMul,Nat.reduceLeDiff,Nat.reduceEqDiff,pset,hlen,if_false,if_true,t3,t4,t5,t6,t7,t8,t9,t45,t46]<;>rfl),(by simp only[wset,hset,dset,bset,Nat.reduceAdd,Nat.reduceMul,Nat.reduceLeDiff,Nat.reduceEqDiff,pset,hlen,if_false,if_true,t3,t4,t5,t6,t7,t8,t9,t45,t46]<;>rfl)⟩ ?_
 clear hlen t3 t4 t5 t6 t7 t8 t9 t45 t46 t tW m7 m70 mp;rintro _ ts K ⟨k,hk,rfl,eK,hKl,m7,mp,⟨s1,L1,s2,L2,t⟩,hlen,t3,t4,t5,t6,t7,t8,t9,t45,t46,t10,t49,t50,t51⟩;by_cases hlt:k<2
 case neg=>
  have hk2:k=2:=by omega
  subst hk2;have e3:decide (((2:Nat):Int)<2)=false:=rfl;refine Rs (A14 @t3 @t4 @t5 @t6 @t7 @t8 @t9 @t45 @t46 @t10 @t49 @t50 @t51 @e3) ?_;exact⟨rfl,eK,by omega,m7,⟨s1,L1,s2,L2,t.at (.inl h7)⟩,Sn,(Sq @t3),(Sq @t4),(Sq @t5),(Sq @t6),(Sq @t7),(Sq @t8),(Sq @t9),(Sq @t45),(Sq @t46)⟩
 have e3:decide ((k:Int)<2)=true:=decide_eq_true (by omega);have e5:=wrapN (n:=k) (by omega);refine Rs (A14 @t3 @t4 @t5 @t6 @t7 @t8 @t9 @t45 @t46 @t10 @t49 @t50 @t51 @e3) ?_;have hk2:k=0\/k=1:=by omega
 rcases hk2 with hk0|hk0
 ·subst hk0;have body:WC P inFn C [] (List.set ts 52 (.bool true)) K (AbQ h K M bp b8 b9 (acL p f 0 (i+1)) (acL p f mi i) s2 L2 (AbS n i 0 mi p f b7 b8 b9 bp)):=by
   rw[<-hC];refine ab_body T (q:=false) gl eK hh8 (by omega) h89 h8M h9M hKl (by omega) h7 h78 m7 mp hp hf hi hn (k:=0) (by omega) rfl (.inr rfl) (decide_eq_false h89) (λz=>by cases z) (λ_=>rfl) t ?_ ?_ ?_ ?_ ?_ ?_ ?_ ?_ ?_ ?_ ?_ ?_ ?_ ?_
   ·simp only[pset,hlen]
   ·exact(Sq @t3)
   ·exact(Sq @t4)
   ·exact(Sq @t5)
   ·exact(Sq @t6)
   ·exact(Sq @t7)
   ·exact(Sq @t8)
   ·exact(Sq @t9)
   ·exact(Sq @t45)
   ·exact(Sq @t46)
   ·exact(Sq @t10)
   ·exact(Sq @t49)
   ·exact(Sq @t50)
   ·exact(Sq @t51)
  refine WC.cut _ body ?_;rintro e ts K' ⟨he,e',hl',⟨s1',L1',t'⟩,kp,hlen,t3,t4,t5,t6,t7,t8,t9,t45,t46,t10,t49,t50,t51⟩;have m7':=(kp b7 (by omega) h78 (.inl h7)).trans m7;have mp':=(kp bp hKl (by omega) (.inr rfl)).trans mp;rcases he with rfl|rfl
  ·refine Rs (A14 @t3 @t4 @t5 @t6 @t7 @t8 @t9 @t45 @t46 @t10 @t49 @t50 @t51 @e5) ?_;exact⟨1,by omega,1,by omega,rfl,e',by omega,m7',mp',⟨s1',L1',s2,L2,t'⟩,rfl⟩
  ·refine Rs (A14 @t3 @t4 @t5 @t6 @t7 @t8 @t9 @t45 @t46 @t10 @t49 @t50 @t51 @e5) ?_;exact⟨1,by omega,1,by omega,rfl,e',by omega,m7',mp',⟨s1',L1',s2,L2,t'⟩,rfl⟩
 ·subst hk0;have body:WC P inFn C [] (List.set ts 52 (.bool true)) K (AbQ h K M bp b9 b8 (acL p f mi (i+1)) (acL p f 0 (i+1)) s1 L1 (AbS n i 1 mi p f b7 b8 b9 bp)):=by
   rw[<-hC];refine ab_body T (q:=true) gl eK hh9 (by omega) (Ne.symm h89) h9M h8M hKl (by omega) h7 h79 m7 mp hp hf hi hn (k:=1) (by omega) rfl (.inl rfl) (decide_eq_true rfl) (λ_=>rfl) (λz=>by cases z) t.swap ?_ ?_ ?_ ?_ ?_ ?_ ?_ ?_ ?_ ?_ ?_ ?_ ?_ ?_
   ·simp only[pset,hlen]
   ·exact(Sq @t3)
   ·exact(Sq @t4)
   ·exact(Sq @t5)
   ·exact(Sq @t6)
   ·exact(Sq @t7)
   ·exact(Sq @t8)
   ·exact(Sq @t9)
   ·exact(Sq @t45)
   ·exact(Sq @t46)
   ·exact(Sq @t10)
   ·exact(Sq @t49)
   ·exact(Sq @t50)
   ·exact(Sq @t51)
  refine WC.cut _ body ?_;rintro e ts K' ⟨he,e',hl',⟨s2',L2',t'⟩,kp,hlen,t3,t4,t5,t6,t7,t8,t9,t45,t46,t10,t49,t50,t51⟩;have m7':=(kp b7 (by omega) h79 (.inl h7)).trans m7;have mp':=(kp bp hKl (by omega) (.inr rfl)).trans mp;have tw:=t'.swap;rcases he with rfl|rfl
  ·refine Rs (A14 @t3 @t4 @t5 @t6 @t7 @t8 @t9 @t45 @t46 @t10 @t49 @t50 @t51 @e5) ?_;exact⟨0,by omega,2,by omega,rfl,e',by omega,m7',mp',⟨s1,L1,s2',L2',tw⟩,rfl⟩
  ·refine Rs (A14 @t3 @t4 @t5 @t6 @t7 @t8 @t9 @t45 @t46 @t10 @t49 @t50 @t51 @e5) ?_;exact⟨0,by omega,2,by omega,rfl,e',by omega,m7',mp',⟨s1,L1,s2',L2',tw⟩,rfl⟩
def ab_outer{W:AHeap}{ts:TS}{n mi:Nat}{p f:Int}{b7 b8 b9 M:Nat}{R:AV->AHeap->Prop}(gl:Gl h)(eh:Ext h W)(hh8:h.length<=b8)(hh9:h.length<=b9)(hM:M<=W.length)(h89:b8≠b9)(h8M:b8<M)(h9M:b9<M)(h7:b7<M)(h78:b7≠b8)(h79:b7≠b9)
  (m7:W[b7]? =some (.cells acC true false)) (hp:1<=p/\p<=20) (hf:p<=f/\f<=29) (hn:n<=8)
  (t:TwE M W b7 b8 [] .nilSlice [] b9 [] .nilSlice []) (hlen:ts.length=230) (t3:slot ts 3=.int .i64 n) (t4:slot ts 4=.int .i64 p) (t5:slot ts 5=.int .i64 f) (t6:slot ts 6=.int .i64 mi) (t7:slot ts 7=.ptr b7 0) (t8:slot ts 8=.ptr b8 0) (t9:slot ts 9=.ptr b9 0)
  (C:∀(K:AHeap) (ts:TS) (s1 s2:AV) (L1 L2:List EV),Ext h K->M<=K.length->K[b7]? =some (.cells acC true false)->TwE M K b7 b8 (acL p f 0 n) s1 L1 b9 (acL p f mi n) s2 L2->ts.length=230->slot ts 3=.int .i64 n->slot ts 4=.int .i64 p->slot ts 5=.int .i64 f->slot ts 6=.int .i64 mi->slot ts 7=.ptr b7 0->slot ts 8=.ptr b8 0->slot ts 9=.ptr b9 0->WC P inFn (acT 7) [] ts K (FQ [(2,none)] R)):
  WC P inFn (acT 6) [] ts W (FQ [(2,none)] R):=by
 rw[ac_6];generalize hD:acD=D;generalize hX:acT 7=X at *;unfold acB acT fn3;simp only[ICode.j,ICode.s,ICode.r,ICode.dr,ICode.tl,ICode.hd,ICode.inn];refine Rs (A7 @t3 @t4 @t5 @t6 @t7 @t8 @t9) ?_;refine WL.inv T.mix (λm ts K=>∃i:Nat,i<=n/\m=n-i/\Ext h K/\M<=K.length/\K[b7]? =some (.cells acC true false)/\(∃s1 L1 s2 L2,TwE M K b7 b8 (acL p f 0 i) s1 L1 b9 (acL p f mi i) s2 L2)/\ts.length=230/\slot ts 3=.int .i64 n/\slot ts 4=.int .i64 p/\slot ts 5=.int .i64 f/\slot ts 6=.int .i64 mi/\slot ts 7=.ptr b7 0/\slot ts 8=.ptr b8 0/\slot ts 9=.ptr b9 0/\slot ts 45=.int .i64 n/\slot ts 46=.int .i64 i) n
  ⟨0,by omega,rfl,eh,hM,m7,⟨_,_,_,_,t⟩,Sn,(Sq @t3),(Sq @t4),(Sq @t5),(Sq @t6),(Sq @t7),(Sq @t8),(Sq @t9),(by simp only[wset,hset,dset,bset,Nat.reduceAdd,Nat.reduceMul,Nat.reduceLeDiff,Nat.reduceEqDiff,pset,hlen,if_false,if_true,t3,t4,t5,t6,t7,t8,t9]<;>rfl),(by simp only[wset,hset,dset,bset,Nat.reduceAdd,Nat.reduceMul,Nat.reduceLeDiff,Nat.reduceEqDiff,pset,hlen,if_false,if_true,t3,t4,t5,t6,t7,t8,t9]<;>rfl)⟩ ?_
 clear hlen t3 t4 t5 t6 t7 t8 t9 t m7;rintro _ ts K ⟨i,hi,rfl,eK,hKl,m7,⟨s1,L1,s2,L2,t⟩,hlen,t3,t4,t5,t6,t7,t8,t9,t45,t46⟩;by_cases hlt:i<n
 case neg=>
  have hk2:i=n:=by omega
  subst hk2;have e3:=dltF hlt;refine Rs (A10 @t3 @t4 @t5 @t6 @t7 @t8 @t9 @t45 @t46 @e3) ?_;refine C K _ s1 s2 L1 L2 eK hKl m7 t ?_ ?_ ?_ ?_ ?_ ?_ ?_ ?_
  ·simp only[pset,hlen]
  ·exact(Sq @t3)
  ·exact(Sq @t4)
  ·exact(Sq @t5)
  ·exact(Sq @t6)
  ·exact(Sq @t7)
  ·exact(Sq @t8)
  ·exact(Sq @t9)
 have e3:=dltT hlt;have e5:=wrapN (n:=i) (by omega);refine Rs (A10 @t3 @t4 @t5 @t6 @t7 @t8 @t9 @t45 @t46 @e3) ?_;have body:WC P inFn D [] (List.set ts 47 (.bool true)) K (AiQ h M n i mi p f b7 b8 b9):=by
  rw[<-hD];refine ab_inner T gl eK hh8 hh9 hKl h89 h8M h9M h7 h78 h79 m7 hp hf hlt hn t ?_ ?_ ?_ ?_ ?_ ?_ ?_ ?_ ?_ ?_
  ·simp only[pset,hlen]
  ·exact(Sq @t3)
  ·exact(Sq @t4)
  ·exact(Sq @t5)
  ·exact(Sq @t6)
  ·exact(Sq @t7)
  ·exact(Sq @t8)
  ·exact(Sq @t9)
  ·exact(Sq @t45)
  ·exact(Sq @t46)
 refine WC.cut _ body ?_;rintro e ts K' ⟨rfl,e',hl',m7',t',hlen,t3,t4,t5,t6,t7,t8,t9,t45,t46⟩;refine Rs (A10 @t3 @t4 @t5 @t6 @t7 @t8 @t9 @t45 @t46 @e5) ?_;exact⟨n-(i+1),by omega,i+1,by omega,rfl,e',hl',m7',t',rfl⟩
end
end Go.Abs
namespace Go.Abs
set_option maxRecDepth 10000
attribute [local irreducible] WP WC WE WB WR WF WL WG WRg
section
variable {P:Program}(T:Tbl P) {h:AHeap}
include T
def r8{L M:List (List UInt8)}{s t:AV}(hs:IsSl h s 1 (L.map strRow))(ht:IsSl h t 1 (M.map strRow))(hl:L.length<2^40)(hm:M.length<2^40):RCall P 8 [s,t] h (λv _=>v=.bool (decide (L=M))):=by
 refine .st2 26 T.mix T.c8 ?_;intro ts hlen t0 t1;unfold fn8;by_cases h1:L.length=M.length
 case neg=>
  have q:decide ((L.length:Int)≠M.length)=true:=decide_eq_true (by omega);refine Rs (A5 @t0 @t1 hs.lenm ht.lenm @q) ?_;exact congrArg AV.bool (decide_eq_false (λ(e:L=M)=>h1 (by rw[e]))).symm
 have q:decide ((L.length:Int)≠M.length)=false:=decide_eq_false (by omega);refine Rs (A5 @t0 @t1 hs.lenm ht.lenm @q) ?_;refine WL.inv T.mix (λm ts h'=>∃k:Nat,k<=L.length/\m=L.length-k/\h' =h/\L.take k=M.take k/\ts.length=26/\slot ts 0=s/\slot ts 1=t/\slot ts 5=.int .i64 k) L.length
  ⟨0,by omega,rfl,rfl,rfl,Sn,(Sq @t0),(Sq @t1),Swr⟩ ?_
 rintro _ ts h' ⟨k,hk,rfl,rfl,hi,hlen,t0,t1,t5⟩;by_cases hlt:k<L.length
 ·have hlt':k<M.length:=by omega
  have e3:=dltT hlt;have ix:=hs.ixm (kk:=.i64) hlt;have iy:=ht.ixm (kk:=.i64) hlt';have ld:∀{kk:AHeap},Ext h' kk->_:=λ{kk} e=>hs.l1m (i:=k) (x:=.str L[k]) (k:=kk) hlt rfl e
  have ly:∀{kk:AHeap},Ext h' kk->_:=λ{kk} e=>ht.l1m (i:=k) (x:=.str M[k]) (k:=kk) hlt' rfl e
  have e5:=wrapN (n:=k) (by omega);by_cases hp:L[k]=M[k]
  ·have q:decide (L[k]≠M[k])=false:=decide_eq_false (λz=>z hp);refine Rs (A11 @t0 @t1 @t5 @e3 hs.lenm @ix @ld @iy @ly @q @e5) ?_;refine⟨_,by omega,k+1,by omega,rfl,?_,rfl⟩;rw[List.take_add_one,List.take_add_one,hi,List.getElem?_eq_getElem hlt,List.getElem?_eq_getElem hlt',hp]
  ·have q:decide (L[k]≠M[k])=true:=decide_eq_true hp;refine Rs (A10 @t0 @t1 @t5 @e3 hs.lenm @ix @ld @iy @ly @q) ?_;exact congrArg AV.bool (decide_eq_false (λ(e:L=M)=>hp (by simp only[e]))).symm
 ·have e3:=dltF hlt;have e4:k=L.length:=by omega
  refine Rs (A5 @t0 @t1 @t5 @e3 hs.lenm) ?_;rw[e4,List.take_length,h1,List.take_length]at hi;exact congrArg AV.bool (decide_eq_true hi).symm
end
end Go.Abs
namespace Go.Abs
def acG:ICode:=(acT 8).hd.tl.inn.inn
def acH:ICode:=(acG.dr 2).hd.inn
def ac_8:acT 8=.seq (.seq (acT 8).hd.hd (.block 4 (.loop (.seq acG.hd (.seq acG.tl.hd (.seq (.block 5 acH) (acG.dr 3))))))) (acT 9):=rfl
def acH_eq:acH=.seq acH.hd (.seq acH.tl.hd (.seq (acH.dr 2).hd (.seq (acH.dr 3).hd (acH.dr 4)))):=rfl
def BxS(b:Nat)(c:List AV)(g:AHeap):Prop:=g[b]? =some (.cells c true false)
def BxS.ext{b:Nat}{c:List AV}{g k:AHeap}(s:BxS b c g)(e:Ext g k):BxS b c k:=e.some s
def AcQ(W:AHeap)(n mi k:Nat)(p f lv:Int)(b7 b8 b9 br:Nat):Ex->TS->AHeap->Prop:=λe ts K=>
 e=.normal/\Ext W K/\ts.length=230/\slot ts 3=.int .i64 n/\slot ts 4=.int .i64 p/\slot ts 5=.int .i64 f/\slot ts 6=.int .i64 mi/\slot ts 7=.ptr b7 0/\slot ts 8=.ptr b8 0/\slot ts 9=.ptr b9 0/\slot ts 13=.int .i64 lv/\slot ts 128=.slice br 0 2 2/\slot ts 129=.int .i64 2/\slot ts 130=.int .i64 k
def st_bx2{s:AV}{v:Int}(o:s.one=true){n:Nat}{a b:AV}:stB 2 0 (.agg [s,.int .i64 v]) n (.cells [a,b] true false)=some (undefA,.set n (.cells [s,.int .i64 v] true false)):=
 (stB_agg rfl (by simp only[List.all_cons,List.all_nil,o];rfl) (by show 0+2<=2;omega)).trans rfl
set_option maxRecDepth 10000
attribute [local irreducible] WP WC WE WB WR WF WL WG WRg WQ WM
section
variable {P:Program}(T:Tbl P) {h:AHeap}
include T
def ab_chk{W:AHeap}{ts:TS}{n mi k:Nat}{p f lv v:Int}{b7 b8 b9 br M b:Nat}{s:AV}{L:List EV}{A:List Evt}{rows:List (AV×Int)}(gl:Gl h)(eh:Ext h W)(a:AnS M W b A s L)(hA:A.length<900)
  (ir:IsSl W (.slice br 0 2 2) 2 (rows.map λx=>[x.1,.int .i64 x.2])) (hr:rows.length=2) (hk:k<rows.length) (hx:rows[k]=(s,v)) (hv:0<=v/\v<=1000)
  (q1:safeQ A [115] v=(true,0)) (q2:safeQ A [115] (v+1)=(false,0)) (q3:unsafeQ A (v+1)=([[115]],0)) (hlen:ts.length=230) (t3:slot ts 3=.int .i64 n) (t4:slot ts 4=.int .i64 p) (t5:slot ts 5=.int .i64 f) (t6:slot ts 6=.int .i64 mi) (t7:slot ts 7=.ptr b7 0) (t8:slot ts 8=.ptr b8 0) (t9:slot ts 9=.ptr b9 0) (t13:slot ts 13=.int .i64 lv) (t128:slot ts 128=.slice br 0 2 2) (t129:slot ts 129=.int .i64 2) (t130:slot ts 130=.int .i64 k):
  WC P inFn acH [] ts W (AcQ W n mi k p f lv b7 b8 b9 br):=by
 have os:=a.g.ow.isSl.one;have ix:=ir.ixm (kk:=.i64) hk;have ld:∀{K:AHeap},Ext W K->loadF (some 2) (elp (.slice br 0 2 2) 2 k) (λz=>K[z]?)=some (.agg [s,.int .i64 v],.keep):=λ{K} e=>by
  have:=ir.ldm hk e;rw[hx]at this;exact this
 have bz:∀{N:Nat},boxF (.agg [.nilSlice,.int .i64 0]) N=some (.ptr N 0,.push (.cells [.nilSlice,.int .i64 0] true false)):=λ{N}=>rfl
 have st2:∀{n:Nat}{a b:AV},stB 2 0 (.agg [s,.int .i64 v]) n (.cells [a,b] true false)=some (undefA,.set n (.cells [s,.int .i64 v] true false)):=λ{n a b}=>st_bx2 os
 rw[acH_eq];generalize hR2:(acH.dr 2).hd=R2;generalize hR3:(acH.dr 3).hd=R3;generalize hR4:acH.dr 4=R4;unfold acH acG acT fn3;simp only[ICode.j,ICode.s,ICode.r,ICode.dr,ICode.tl,ICode.hd,ICode.inn];refine Rs (A15 @t3 @t4 @t5 @t6 @t7 @t8 @t9 @t13 @t128 @t129 @t130 @ix @ld @bz @st2) ?_;obtain⟨W0,hW0⟩:∃W0,W0=W++[ABlk.cells [s,.int .i64 v] true false]:=⟨_,rfl⟩;have e0:Ext W W0:=by rw[hW0];exact⟨_,rfl⟩
 have S0:BxS W.length [s,.int .i64 v] W0:=by rw[hW0];exact at_new
 rw[<-hW0];clear hW0;obtain⟨c,hc⟩:∃c,c=W.length:=⟨_,rfl⟩;rw[<-hc]at S0 ⊢;have ls:ldV [s,AV.int .i64 v][0]? =some (s,.keep):=rfl;have lv1:ldV [s,AV.int .i64 v][1]? =some (.int .i64 v,.keep):=rfl;have wv:IntKind.i64.wrap (v+1)=v+1:=wrap_in (by omega) (by omega);have hAl:=a.len;have sh:=a.sh hA;refine WC_opsM (BxS c [s,.int .i64 v]) ?_;refine WM_op S0 rfl rfl ?_;refine Rs (A11 @t3 @t4 @t5 @t6 @t7 @t8 @t9 @t13 @t128 @t129 @t130) ?_;have Sa:=S0.ext (k:=W0++[ABlk.cells [] true false]) ⟨_,rfl⟩;refine WM_op Sa rfl rfl ?_;refine Rs (A11 @t3 @t4 @t5 @t6 @t7 @t8 @t9 @t13 @t128 @t129 @t130) ?_;refine WM_ld Sa (v:=s) (λg hg=>?_) ?_
 ·simp only[wset,hset,dset,bset,Nat.reduceAdd,Nat.reduceMul,Nat.reduceLeDiff,Nat.reduceEqDiff,pset,hlen,if_false,if_true,loadF_at hg,ls]
 refine WM_op Sa rfl rfl ?_;refine Rs (A11 @t3 @t4 @t5 @t6 @t7 @t8 @t9 @t13 @t128 @t129 @t130) ?_;refine WR.appz (N:=W0.length) (w:=88) at_new (Nat.le_refl _) (a.g.evs.sl.ext (e0.trans ⟨_,rfl⟩)) (by rw[List.length_map];omega) λx1 y1 f1=>?_
 obtain⟨V1,hV1⟩:∃V,V=W0++[ABlk.cells [] true false]++y1:=⟨_,rfl⟩;rw[<-hV1]at f1 ⊢;have i1:Ext W0 V1:=by rw[hV1];exact(Ext.trans ⟨_,rfl⟩ ⟨_,rfl⟩)
 clear hV1 Sa;have Sa:=S0.ext i1;refine Rs (A11 @t3 @t4 @t5 @t6 @t7 @t8 @t9 @t13 @t128 @t129 @t130) ?_;refine WM_op Sa rfl rfl ?_;refine Rs (A11 @t3 @t4 @t5 @t6 @t7 @t8 @t9 @t13 @t128 @t129 @t130) ?_;refine WM_ld Sa (v:=.int .i64 v) (λg hg=>?_) ?_
 ·simp only[wset,hset,dset,bset,Nat.reduceAdd,Nat.reduceMul,Nat.reduceLeDiff,Nat.reduceEqDiff,pset,hlen,if_false,if_true,loadF_at hg,lv1]
 refine WM_op Sa rfl rfl ?_;refine Rs (A11 @t3 @t4 @t5 @t6 @t7 @t8 @t9 @t13 @t128 @t129 @t130) ?_;refine WF.ce T.c6 (r6 T ⟨f1.isSl,λx hx=>(a.g.ok x hx).ext (e0.trans i1)⟩ sh (gl.ext (eh.trans (e0.trans i1))) [115] v) λg1=>?_
 rw[a.e,q1];refine Rs (A11 @t3 @t4 @t5 @t6 @t7 @t8 @t9 @t13 @t128 @t129 @t130) ?_;refine WM_late (Sa.ext ⟨_,rfl⟩) rfl ?_;have e1:Ext W (V1++g1):=e0.trans (i1.trans ⟨_,rfl⟩);have S1:=S0.ext (k:=V1++g1) (i1.trans ⟨_,rfl⟩);obtain⟨W1,hW1⟩:∃z,z=V1++g1:=⟨_,rfl⟩;rw[<-hW1]at e1 S1 ⊢;clear hW1;refine Rs (A11 @t3 @t4 @t5 @t6 @t7 @t8 @t9 @t13 @t128 @t129 @t130) ?_;rw[<-hR2];unfold acH acG acT fn3;simp only[ICode.j,ICode.s,ICode.r,ICode.dr,ICode.tl,ICode.hd,ICode.inn];refine WC_opsM (BxS c [s,.int .i64 v]) ?_;refine WM_op S1 rfl rfl ?_;refine Rs (A11 @t3 @t4 @t5 @t6 @t7 @t8 @t9 @t13 @t128 @t129 @t130) ?_;have Sa:=S1.ext (k:=W1++[ABlk.cells [] true false]) ⟨_,rfl⟩
 refine WM_op Sa rfl rfl ?_;refine Rs (A11 @t3 @t4 @t5 @t6 @t7 @t8 @t9 @t13 @t128 @t129 @t130) ?_;refine WM_ld Sa (v:=s) (λg hg=>?_) ?_
 ·simp only[wset,hset,dset,bset,Nat.reduceAdd,Nat.reduceMul,Nat.reduceLeDiff,Nat.reduceEqDiff,pset,hlen,if_false,if_true,loadF_at hg,ls]
 refine WM_op Sa rfl rfl ?_;refine Rs (A11 @t3 @t4 @t5 @t6 @t7 @t8 @t9 @t13 @t128 @t129 @t130) ?_;refine WR.appz (N:=W1.length) (w:=88) at_new (Nat.le_refl _) (a.g.evs.sl.ext (e1.trans ⟨_,rfl⟩)) (by rw[List.length_map];omega) λx2 y2 f2=>?_
 obtain⟨V2,hV2⟩:∃V,V=W1++[ABlk.cells [] true false]++y2:=⟨_,rfl⟩;rw[<-hV2]at f2 ⊢;have i2:Ext W1 V2:=by rw[hV2];exact(Ext.trans ⟨_,rfl⟩ ⟨_,rfl⟩)
 clear hV2 Sa;have Sa:=S1.ext i2;refine Rs (A11 @t3 @t4 @t5 @t6 @t7 @t8 @t9 @t13 @t128 @t129 @t130) ?_;refine WM_op Sa rfl rfl ?_;refine Rs (A11 @t3 @t4 @t5 @t6 @t7 @t8 @t9 @t13 @t128 @t129 @t130) ?_;refine WM_ld Sa (v:=.int .i64 v) (λg hg=>?_) ?_
 ·simp only[wset,hset,dset,bset,Nat.reduceAdd,Nat.reduceMul,Nat.reduceLeDiff,Nat.reduceEqDiff,pset,hlen,if_false,if_true,loadF_at hg,lv1]
 refine WM_op Sa rfl rfl ?_;refine Rs (A12 @t3 @t4 @t5 @t6 @t7 @t8 @t9 @t13 @t128 @t129 @t130 @wv) ?_;refine WM_op Sa rfl rfl ?_;refine Rs (A11 @t3 @t4 @t5 @t6 @t7 @t8 @t9 @t13 @t128 @t129 @t130) ?_;refine WF.ce T.c6 (r6 T ⟨f2.isSl,λx hx=>(a.g.ok x hx).ext (e1.trans i2)⟩ sh (gl.ext (eh.trans (e1.trans i2))) [115] (v+1)) λg2=>?_
 rw[a.e,q2];refine Rs (A11 @t3 @t4 @t5 @t6 @t7 @t8 @t9 @t13 @t128 @t129 @t130) ?_;refine WM_late (Sa.ext ⟨_,rfl⟩) rfl ?_;have e2:Ext W (V2++g2):=e1.trans (i2.trans ⟨_,rfl⟩);have S2:=S1.ext (k:=V2++g2) (i2.trans ⟨_,rfl⟩);obtain⟨W2,hW2⟩:∃z,z=V2++g2:=⟨_,rfl⟩;rw[<-hW2]at e2 S2 ⊢;clear hW2;refine Rs (A11 @t3 @t4 @t5 @t6 @t7 @t8 @t9 @t13 @t128 @t129 @t130) ?_;rw[<-hR3];unfold acH acG acT fn3;simp only[ICode.j,ICode.s,ICode.r,ICode.dr,ICode.tl,ICode.hd,ICode.inn];refine WC_opsM (BxS c [s,.int .i64 v]) ?_;refine WM_op S2 rfl rfl ?_;refine Rs (A11 @t3 @t4 @t5 @t6 @t7 @t8 @t9 @t13 @t128 @t129 @t130) ?_;have Sa:=S2.ext (k:=W2++[ABlk.cells [] true false]) ⟨_,rfl⟩
 refine WM_op Sa rfl rfl ?_;refine Rs (A11 @t3 @t4 @t5 @t6 @t7 @t8 @t9 @t13 @t128 @t129 @t130) ?_;refine WM_ld Sa (v:=s) (λg hg=>?_) ?_
 ·simp only[wset,hset,dset,bset,Nat.reduceAdd,Nat.reduceMul,Nat.reduceLeDiff,Nat.reduceEqDiff,pset,hlen,if_false,if_true,loadF_at hg,ls]
 refine WM_op Sa rfl rfl ?_;refine Rs (A11 @t3 @t4 @t5 @t6 @t7 @t8 @t9 @t13 @t128 @t129 @t130) ?_;refine WR.appz (N:=W2.length) (w:=88) at_new (Nat.le_refl _) (a.g.evs.sl.ext (e2.trans ⟨_,rfl⟩)) (by rw[List.length_map];omega) λx3 y3 f3=>?_
 obtain⟨V3,hV3⟩:∃V,V=W2++[ABlk.cells [] true false]++y3:=⟨_,rfl⟩;rw[<-hV3]at f3 ⊢;have i3:Ext W2 V3:=by rw[hV3];exact(Ext.trans ⟨_,rfl⟩ ⟨_,rfl⟩)
 clear hV3 Sa;have Sa:=S2.ext i3;refine Rs (A11 @t3 @t4 @t5 @t6 @t7 @t8 @t9 @t13 @t128 @t129 @t130) ?_;refine WM_op Sa rfl rfl ?_;refine Rs (A11 @t3 @t4 @t5 @t6 @t7 @t8 @t9 @t13 @t128 @t129 @t130) ?_;refine WM_ld Sa (v:=.int .i64 v) (λg hg=>?_) ?_
 ·simp only[wset,hset,dset,bset,Nat.reduceAdd,Nat.reduceMul,Nat.reduceLeDiff,Nat.reduceEqDiff,pset,hlen,if_false,if_true,loadF_at hg,lv1]
 refine WM_op Sa rfl rfl ?_;refine Rs (A12 @t3 @t4 @t5 @t6 @t7 @t8 @t9 @t13 @t128 @t129 @t130 @wv) ?_;refine WM_op Sa rfl rfl ?_;refine Rs (A11 @t3 @t4 @t5 @t6 @t7 @t8 @t9 @t13 @t128 @t129 @t130) ?_;refine WF.res T.c7 (r7 T ⟨f3.isSl,λx hx=>(a.g.ok x hx).ext (e2.trans i3)⟩ sh (gl.ext (eh.trans (e2.trans i3))) (v+1)) ?_;rintro _ g3 ⟨u,rfl,iu⟩;rw[a.e,q3]at iu ⊢;refine Rs (A11 @t3 @t4 @t5 @t6 @t7 @t8 @t9 @t13 @t128 @t129 @t130) ?_;refine WM_late (Sa.ext ⟨_,rfl⟩) rfl ?_;have e3:Ext W (V3++g3):=e2.trans (i3.trans ⟨_,rfl⟩);have S3:=S2.ext (k:=V3++g3) (i3.trans ⟨_,rfl⟩);obtain⟨W3,hW3⟩:∃z,z=V3++g3:=⟨_,rfl⟩
 rw[<-hW3]at e3 S3 iu ⊢;clear hW3;refine Rs (A11 @t3 @t4 @t5 @t6 @t7 @t8 @t9 @t13 @t128 @t129 @t130) ?_;rw[<-hR4];unfold acH acG acT fn3;simp only[ICode.j,ICode.s,ICode.r,ICode.dr,ICode.tl,ICode.hd,ICode.inn];refine Rs (A13 @t3 @t4 @t5 @t6 @t7 @t8 @t9 @t13 @t128 @t129 @t130 @dz0 @Bool.not_true) ?_;refine WF.ce T.c8 (r8 T (L:=[[115]]) (M:=[[115]]) (iu.ext ⟨_,rfl⟩) (isSl_strsA (X:=W3) [[115]]) (by show 1<2^40;decide) (by show 1<2^40;decide)) λg4=>?_
 have dw:decide (([[115]] :List (List UInt8))=[[115]])=true:=rfl;rw[dw];refine Rs (A12 @t3 @t4 @t5 @t6 @t7 @t8 @t9 @t13 @t128 @t129 @t130 @Bool.not_true) ?_;exact⟨rfl,e3.trans (Ext.trans ⟨_,rfl⟩ ⟨_,rfl⟩),Sn,(Sq @t3),(Sq @t4),(Sq @t5),(Sq @t6),(Sq @t7),(Sq @t8),(Sq @t9),(Sq @t13),(Sq @t128),(Sq @t129),(Sq @t130)⟩
end
end Go.Abs
namespace Go.Abs
def ac_7:acT 7=.seq (acT 7).hd (acT 8):=rfl
def ac_9:acT 9=.seq (acT 9).hd (acT 10):=rfl
def ac_10:acT 10=.seq (acT 10).hd (.seq (acT 11).hd (acT 12)):=rfl
def AdoneQ(h:AHeap):AV->AHeap->Prop:=λv k=>Ext h k/\v=.bool true
set_option maxRecDepth 10000
attribute [local irreducible] WP WC WE WB WR WF WL WG WRg WQ WM
section
variable {P:Program}(T:Tbl P) {h:AHeap}
include T
def ab_end{K:AHeap}{ts:TS}{n mi:Nat}{p f:Int}{b7 b8 b9 M:Nat}{s1 s2:AV}{L1 L2:List EV}(rg:Rng h)(gl:Gl h)(eh:Ext h K)(m7:K[b7]? =some (.cells acC true false))(hp:1<=p/\p<=20)(hf:p<=f/\f<=29)(hn0:1<=n)(hn:n<=8)
  (t:TwE M K b7 b8 (acL p f 0 n) s1 L1 b9 (acL p f mi n) s2 L2) (hlen:ts.length=230) (t3:slot ts 3=.int .i64 n) (t4:slot ts 4=.int .i64 p) (t5:slot ts 5=.int .i64 f) (t6:slot ts 6=.int .i64 mi) (t7:slot ts 7=.ptr b7 0) (t8:slot ts 8=.ptr b8 0) (t9:slot ts 9=.ptr b9 0):
  WC P inFn (acT 9) [] ts K (FQ [(2,none)] (AdoneQ h)):=by
 rw[ac_9];generalize hX:acT 10=X;unfold acT fn3;simp only[ICode.j,ICode.s,ICode.r,ICode.dr,ICode.tl,ICode.hd,ICode.inn];by_cases h2:n<2
 ·have d2:decide ((n:Int)<2)=true:=decide_eq_true (by omega);refine Rs (A8 @t3 @t4 @t5 @t6 @t7 @t8 @t9 @d2) ?_;refine WF.ce T.c9 (r9 T (rg.ext eh) (gl.ext eh)) λg=>?_
  refine Rs (A7 @t3 @t4 @t5 @t6 @t7 @t8 @t9) ?_;exact⟨eh.trans ⟨_,rfl⟩,rfl⟩
 have d2:decide ((n:Int)<2)=false:=decide_eq_false (by omega);refine Rs (A8 @t3 @t4 @t5 @t6 @t7 @t8 @t9 @d2) ?_;rw[<-hX,ac_10];generalize hY:(acT 11).hd=Y;generalize hZ:acT 12=Z;have hip:0<=((n-2:Nat):Int)*p/\((n-2:Nat):Int)*p<=140:=⟨Int.mul_nonneg (by omega) (by omega),by
  have h1:((n-2:Nat):Int)*p<=7*p:=Int.mul_le_mul_of_nonneg_right (by omega) (by omega);omega⟩
 have e1:((n-1:Nat):Int)*p=((n-2:Nat):Int)*p+p:=by
  rw[show((n-1:Nat):Int)=((n-2:Nat):Int)+1 by omega,Int.add_mul,Int.one_mul]
 have hlA:=acL_len p f 0 n;have hAl:=t.an1.len;have w1:IntKind.i64.wrap ((n:Int)-1)=((n-1:Nat):Int):=by rw[wrap_in (by omega) (by omega)];omega
 have w2:IntKind.i64.wrap ((n:Int)-2)=((n-2:Nat):Int):=by rw[wrap_in (by omega) (by omega)];omega
 have w3:IntKind.i64.wrap (((n-2:Nat):Int)*p)=((n-2:Nat):Int)*p:=wrap_in (by omega) (by omega);have w4:IntKind.i64.wrap (((n-2:Nat):Int)*p+f)=((n-2:Nat):Int)*p+f:=wrap_in (by omega) (by omega);have w5:IntKind.i64.wrap (((n-2:Nat):Int)*p+f+1)=((n-2:Nat):Int)*p+f+1:=wrap_in (by omega) (by omega);have w6:IntKind.i64.wrap (((n-1:Nat):Int)*p)=((n-1:Nat):Int)*p:=wrap_in (by omega) (by omega);have w7:IntKind.i64.wrap ((L1.length:Int)+1)=(L1.length:Int)+1:=wrap_in (by omega) (by omega);have ia:∀{j:Nat},j<8->iadaF 8 1 (.ptr b7 0) (.int .i64 (j:Int))=some (.ptr b7 j):=λ{j} hj=>by
  rcases eight hj with rfl|rfl|rfl|rfl|rfl|rfl|rfl|rfl<;>rfl
 have ia1:=ia (j:=n-1) (by omega);have ia2:=ia (j:=n-2) (by omega);have l7:=@ldx _ _ _ m7;have li1:=acC_at (i:=n-1) (by omega);have li2:=acC_at (i:=n-2) (by omega);have l8:=@ldx _ _ _ t.w.g1.m;have lv:ldV [s1][0]? =some (s1,.keep):=rfl;have hlm:=λG=>t.w.g1.evs.sl.lenm G
 have bz:∀{N:Nat},boxF (.agg [.int .i64 0,.str [],.nilSlice,.nilSlice,.str []]) N=some (.ptr N 0,.push (.cells [.int .i64 0,.str [],.nilSlice,.nilSlice,.str []] true false)):=λ{N}=>rfl
 have bd:∀{x:Int}{a b c d a' b' c' d':Nat},fillA [.int .i64 0,.str [],.nilSlice,.nilSlice,.str []] [(0,1,.int .i64 x),(1,1,.str [99,111,112,121]),(2,1,.slice a b c d),(3,1,.slice a' b' c' d')]=some [.int .i64 x,.str [99,111,112,121],.slice a b c d,.slice a' b' c' d',.str []]:=λ{x a b c d a' b' c' d'}=>fill_ev rfl rfl
 have st5:∀{x:Int}{kd:List UInt8}{a b c d a' b' c' d':Nat}{N:Nat}{a0 a1 a2 a3 a4:AV},stB 5 0 (.agg [.int .i64 x,.str kd,.slice a b c d,.slice a' b' c' d',.str []]) N (.cells [a0,a1,a2,a3,a4] true false)=some (undefA,.set N (.cells [.int .i64 x,.str kd,.slice a b c d,.slice a' b' c' d',.str []] true false)):=λ{x kd a b c d a' b' c' d' N a0 a1 a2 a3 a4}=>(stB_agg rfl rfl (by show 0+5<=5;omega)).trans rfl
 unfold acT fn3;simp only[ICode.j,ICode.s,ICode.r,ICode.dr,ICode.tl,ICode.hd,ICode.inn]
 repeat (first|simp (config:={maxSteps:=1000000}) only[wset,hset,dset,bset,Nat.reduceAdd,Nat.reduceMul,Nat.reduceLeDiff,Nat.reduceEqDiff,pset,hlen,if_false,if_true,t3,t4,t5,t6,t7,t8,t9,l8,lv,hlm,w1,w2,w3,w4,w5,w7,ia1,ia2,l7,li1,li2,bz,bd,st5]|simp (config:={maxSteps:=1000000}) (disch:=first|(simp only[List.length_append,List.length_cons,List.length_nil]<;>omega)|rfl|omega|fail) only[kset,wset,hset,dset,bset,Nat.reduceAdd,Nat.reduceMul,Nat.reduceLeDiff,Nat.reduceEqDiff,pset,hlen,if_false,if_true,t3,t4,t5,t6,t7,t8,t9,l8,lv,hlm,w1,w2,w3,w4,w5,w7,ia1,ia2,l7,li1,li2,bz,bd,st5])
 rw[hAl];obtain⟨K1,hK1⟩:∃K1,K1=K++[ABlk.cells ([acN (n-2),acN (n-1)].map AV.str) true true]:=⟨_,rfl⟩;have on:IsSl K1 (.slice K.length 0 2 1) 1 ([acN (n-2),acN (n-1)].map strRow):=by rw[hK1];exact isSl_strsA _
 have eK1:Ext K K1:=by rw[hK1];exact⟨_,rfl⟩
 rw[show K++[ABlk.cells [AV.str (acN (n-2)),AV.str (acN (n-1))] true true]=K1 from hK1.symm];clear hK1;obtain⟨K2,hK2⟩:∃K2,K2=K1++[ABlk.cells ([((n-2:Nat):Int)*p+f+1].map (AV.int .i64)) true true]:=⟨_,rfl⟩;have ov:IsSl K2 (.slice K1.length 0 1 1) 1 ([((n-2:Nat):Int)*p+f+1].map intRow):=by rw[hK2];exact isSl_ints _
 have eK2:Ext K1 K2:=by rw[hK2];exact⟨_,rfl⟩
 rw[show K1++[ABlk.cells [AV.int .i64 (((n-2:Nat):Int)*p+f+1)] true true]=K2 from hK2.symm];clear hK2;obtain⟨X,hX⟩:∃X:EV,X=⟨evT (acL p f 0 n).length .copy [acN (n-2),acN (n-1)] [((n-2:Nat):Int)*p+f+1],.slice K.length 0 2 1,.slice K1.length 0 1 1⟩:=⟨_,rfl⟩;have oX:EvOk K2 X:=by rw[hX];exact⟨on.ext eK2,ov⟩
 have hsv:X.sv=.slice K1.length 0 1 1:=by rw[hX]
 obtain⟨K3,hK3⟩:∃K3,K3=K2++[ABlk.cells X.row true false]:=⟨_,rfl⟩;have eK3:Ext K2 K3:=by rw[hK3];exact⟨_,rfl⟩
 have m5:K3[K2.length]? =some (.cells X.row true false):=by rw[hK3];exact at_new
 rw[show K2++[ABlk.cells [AV.int .i64 (((acL p f 0 n).length:Int)+1),AV.str [99,111,112,121],AV.slice K.length 0 2 1,AV.slice K1.length 0 1 1,AV.str []] true false]=K3 by rw[hK3,hX];rfl];clear hK3;obtain⟨b5,hb5⟩:∃b,b=K2.length:=⟨_,rfl⟩;rw[<-hb5]at m5 ⊢;have eA:=eK1.trans (eK2.trans eK3);have l5:=@ldx _ _ _ m5;have lr3:ldV X.row[3]? =some (X.sv,.keep):=rfl;have lr5:ldB (some 5) 0 (.cells X.row true false)=some (.agg X.row,.keep):=rfl;rw[<-hsv]at ov;have ix:=ov.ixm (kk:=.i64) (i:=0) (by show 0<1;decide);have ix0:iadrF 1 X.sv (.int .i64 0)=some (elp X.sv 1 0,.keep):=ix;have lx:∀{k:AHeap},Ext K3 k->loadF none (elp X.sv 1 0) (λz=>k[z]?)=some (.int .i64 (((n-2:Nat):Int)*p+f+1),.keep):=λ{k} e=>ov.l1m (i:=0) (by show 0<1;decide) rfl (eK3.trans e)
 have dl:decide (((n-2:Nat):Int)*p+f+1<((n-1:Nat):Int)*p)=false:=decide_eq_false (by omega);rw[<-hY];unfold acT fn3;simp only[ICode.j,ICode.s,ICode.r,ICode.dr,ICode.tl,ICode.hd,ICode.inn];refine Rs (A14 @t3 @t4 @t5 @t6 @t7 @t8 @t9 @l5 @lr3 @ix0 @lx @w1 @w6 @dl) ?_;have l8:=@ldx _ _ _ (eA.some t.w.g1.m);rw[<-hZ];unfold acT fn3;simp only[ICode.j,ICode.s,ICode.r,ICode.dr,ICode.tl,ICode.hd,ICode.inn]
 repeat (first|simp (config:={maxSteps:=1000000}) only[wset,hset,dset,bset,Nat.reduceAdd,Nat.reduceMul,Nat.reduceLeDiff,Nat.reduceEqDiff,pset,hlen,if_false,if_true,t3,t4,t5,t6,t7,t8,t9,l5,lr5,l8,lv]|simp (config:={maxSteps:=1000000}) (disch:=first|(simp only[List.length_append,List.length_cons,List.length_nil]<;>omega)|rfl|omega|fail) only[kset,wset,hset,dset,bset,Nat.reduceAdd,Nat.reduceMul,Nat.reduceLeDiff,Nat.reduceEqDiff,pset,hlen,if_false,if_true,t3,t4,t5,t6,t7,t8,t9,l5,lr5,l8,lv])
 refine WF.ce T.c10 (r10 T (t.w.g1.evs.ext eA) (t.an1.sh (by omega)) (gl.ext (eh.trans eA)) (oX.ext eK3) (by rw[hX];exact⟨by show 2<=2^30;decide,by show 1<=2^30;decide⟩)) λg=>?_
 have hXe:X.ev=evT (acL p f 0 n).length .copy [acN (n-2),acN (n-1)] [((n-2:Nat):Int)*p+f+1]:=by rw[hX]
 rw[t.e1,hXe,ac_late hp hf (by omega) hn];have d30:decide ((30:Int)=30)=true:=rfl;refine Rs (A9 @t3 @t4 @t5 @t6 @t7 @t8 @t9 @d30 @decide_true) ?_;refine WF.ce T.c9 (r9 T (rg.ext ((eh.trans eA).trans ⟨_,rfl⟩)) (gl.ext ((eh.trans eA).trans ⟨_,rfl⟩))) λg2=>?_
 refine Rs (A7 @t3 @t4 @t5 @t6 @t7 @t8 @t9) ?_;exact⟨((eh.trans eA).trans ⟨_,rfl⟩).trans ⟨_,rfl⟩,rfl⟩
end
end Go.Abs
namespace Go.Abs
def q_of{p f:Int}{ms n:Nat}(hp:1<=p/\p<=20)(hf:p<=f/\f<=29)(h0:0<n)(h8:n<=8):safeQ (acL p f ms n) [115] (((acJ ms n-1:Nat):Int)*p+f)=(true,0)/\safeQ (acL p f ms n) [115] (((acJ ms n-1:Nat):Int)*p+f+1)=(false,0)/\unsafeQ (acL p f ms n) (((acJ ms n-1:Nat):Int)*p+f+1)=([[115]],0)/\(0<=((acJ ms n-1:Nat):Int)*p+f/\((acJ ms n-1:Nat):Int)*p+f<=1000):=by
 have hj:acJ ms n<=n:=acJ_le;have hip:0<=((acJ ms n-1:Nat):Int)*p/\((acJ ms n-1:Nat):Int)*p<=140:=⟨Int.mul_nonneg (by omega) (by omega),by
  have h1:((acJ ms n-1:Nat):Int)*p<=7*p:=Int.mul_le_mul_of_nonneg_right (by omega) (by omega);omega⟩
 have h1:=ac_safe (ms:=ms) hp hf h0 h8 (t:=((acJ ms n-1:Nat):Int)*p+f) (by omega);have h2:=ac_safe (ms:=ms) hp hf h0 h8 (t:=((acJ ms n-1:Nat):Int)*p+f+1) (by omega);refine⟨?_,?_,?_,by omega⟩
 ·rw[h1.1,decide_eq_true (by omega)]
 ·rw[h2.1,decide_eq_false (by omega)]
 ·rw[h2.2,if_neg (by omega)]
def fill_2{s:AV}{v:Int}(o:s.cells=[s]):fillA [.nilSlice,.int .i64 0] [(0,1,s),(1,1,.int .i64 v)]=some [s,.int .i64 v]:=by
 unfold fillA;rw[o,if_pos ⟨rfl,by decide⟩];unfold fillA;rw[if_pos ⟨rfl,by show 1+1<=2;omega⟩];rfl
def tf8:fillA [.str [],.str [],.str [],.str [],.str [],.str [],.str [],.str []] [(0,1,.str [97]),(1,1,.str [98]),(2,1,.str [99]),(3,1,.str [100]),(4,1,.str [101]),(5,1,.str [102]),(6,1,.str [103]),(7,1,.str [104])]=some acC:=
 (fl_p rfl (Nat.le_of_ble_eq_true rfl)).trans ((fl_p rfl (Nat.le_of_ble_eq_true rfl)).trans ((fl_p rfl (Nat.le_of_ble_eq_true rfl)).trans ((fl_p rfl (Nat.le_of_ble_eq_true rfl)).trans ((fl_p rfl (Nat.le_of_ble_eq_true rfl)).trans ((fl_p rfl (Nat.le_of_ble_eq_true rfl)).trans ((fl_p rfl (Nat.le_of_ble_eq_true rfl)).trans ((fl_p rfl (Nat.le_of_ble_eq_true rfl)).trans rfl)))))))
theorem TwE.nil{M b7 b8 b9:Nat}{k:AHeap}(m8:k[b8]? =some (.cells [.nilSlice] true false))(m9:k[b9]? =some (.cells [.nilSlice] true false)):TwE M k b7 b8 [] .nilSlice [] b9 [] .nilSlice []:=
 ⟨⟨(AnS.nil m8).g,(AnS.nil m9).g,λj e=>(by cases e),λx hx=>(by cases hx),λx hx=>(by cases hx)⟩,rfl,rfl,λx hx=>(by cases hx),λx hx=>(by cases hx),λe=>(by cases e),λe=>(by cases e)⟩
set_option maxRecDepth 10000
attribute [local irreducible] WP WC WE WB WR WF WL WG WRg WQ WM
section
variable {P:Program}(T:Tbl P) {h:AHeap}
include T
def ab_loop{W:AHeap}{ts:TS}{n mi:Nat}{p f lv x2:Int}{b7 b8 b9 br M:Nat}{s1 s2:AV}{L1 L2:List EV}(gl:Gl h)(rg:Rng h)(eh:Ext h W)(m7:W[b7]? =some (.cells acC true false))(hp:1<=p/\p<=20)(hf:p<=f/\f<=29)(hn0:1<=n)(hn:n<=8)(hmi:mi<n)
  (t:TwE M W b7 b8 (acL p f 0 n) s1 L1 b9 (acL p f mi n) s2 L2) (ir:IsSl W (.slice br 0 2 2) 2 ([(s1,lv),(s2,x2)].map λx=>[x.1,.int .i64 x.2])) (hlv:lv=((n-1:Nat):Int)*p+f) (hx2:x2=if mi=0 then lv else((mi-1:Nat):Int)*p+f) (hlen:ts.length=230) (t3:slot ts 3=.int .i64 n) (t4:slot ts 4=.int .i64 p) (t5:slot ts 5=.int .i64 f) (t6:slot ts 6=.int .i64 mi) (t7:slot ts 7=.ptr b7 0) (t8:slot ts 8=.ptr b8 0) (t9:slot ts 9=.ptr b9 0) (t13:slot ts 13=.int .i64 lv) (t128:slot ts 128=.slice br 0 2 2) (t129:slot ts 129=.int .i64 2) (t130:slot ts 130=.int .i64 (0:Nat)):
  WL P inFn (.seq acG.hd (.seq acG.tl.hd (.seq (.block 5 acH) (acG.dr 3)))) [.blockK 4,.seqK (acT 9)] ts W (FQ [(2,none)] (AdoneQ h)):=by
 have hlA:=acL_len p f 0 n;have hlB:=acL_len p f mi n;have j0:acJ 0 n=n:=if_pos rfl;obtain⟨a1,a2,a3,a0⟩:=q_of (ms:=0) hp hf (by omega) hn;rw[j0,<-hlv]at a1 a2 a3 a0;have jx:((acJ mi n-1:Nat):Int)*p+f=x2:=by
  rw[hx2];by_cases h0:mi=0
  ·rw[if_pos h0,hlv];subst h0;rw[j0]
  ·rw[if_neg h0,acJ,if_neg h0,Nat.min_eq_right (by omega)]
 obtain⟨c1,c2,c3,c0⟩:=q_of (ms:=mi) hp hf (by omega) hn;rw[jx]at c1 c2 c3 c0;generalize hD:acH=D;generalize hF:acT 9=CF;unfold acG acT fn3;simp only[ICode.j,ICode.s,ICode.r,ICode.dr,ICode.tl,ICode.hd,ICode.inn];refine WL.inv T.mix (λm ts K=>∃k:Nat,k<=2/\m=2-k/\Ext W K/\ts.length=230/\slot ts 3=.int .i64 n/\slot ts 4=.int .i64 p/\slot ts 5=.int .i64 f/\slot ts 6=.int .i64 mi/\slot ts 7=.ptr b7 0/\slot ts 8=.ptr b8 0/\slot ts 9=.ptr b9 0/\slot ts 13=.int .i64 lv/\slot ts 128=.slice br 0 2 2/\slot ts 129=.int .i64 2/\slot ts 130=.int .i64 k) 2
  ⟨0,by omega,rfl,Ext.refl _,hlen,t3,t4,t5,t6,t7,t8,t9,t13,t128,t129,t130⟩ ?_
 clear hlen t3 t4 t5 t6 t7 t8 t9 t13 t128 t129 t130;rintro _ ts K ⟨k,hk,rfl,eK,hlen,t3,t4,t5,t6,t7,t8,t9,t13,t128,t129,t130⟩;by_cases hlt:k<2
 case neg=>
  have hk2:k=2:=by omega
  subst hk2;have e3:decide (((2:Nat):Int)<2)=false:=rfl;refine Rs (A12 @t3 @t4 @t5 @t6 @t7 @t8 @t9 @t13 @t128 @t129 @t130 @e3) ?_;rw[<-hF];refine ab_end T rg gl (eh.trans eK) (eK.some m7) hp hf hn0 hn (t.ext eK) ?_ ?_ ?_ ?_ ?_ ?_ ?_ ?_
  ·simp only[pset,hlen]
  ·exact(Sq @t3)
  ·exact(Sq @t4)
  ·exact(Sq @t5)
  ·exact(Sq @t6)
  ·exact(Sq @t7)
  ·exact(Sq @t8)
  ·exact(Sq @t9)
 have e3:decide ((k:Int)<2)=true:=decide_eq_true (by omega);have e5:=wrapN (n:=k) (by omega);refine Rs (A12 @t3 @t4 @t5 @t6 @t7 @t8 @t9 @t13 @t128 @t129 @t130 @e3) ?_;have body:WC P inFn D [] (List.set ts 131 (.bool true)) K (AcQ K n mi k p f lv b7 b8 b9 br):=by
  rw[<-hD];have hk2:k=0\/k=1:=by omega
  rcases hk2 with rfl|rfl
  ·refine ab_chk T gl (eh.trans eK) (t.ext eK).an1 (by omega) (ir.ext eK) rfl (by show 0<2;decide) rfl a0 a1 a2 a3 ?_ ?_ ?_ ?_ ?_ ?_ ?_ ?_ ?_ ?_ ?_ ?_
   ·simp only[pset,hlen]
   ·exact(Sq @t3)
   ·exact(Sq @t4)
   ·exact(Sq @t5)
   ·exact(Sq @t6)
   ·exact(Sq @t7)
   ·exact(Sq @t8)
   ·exact(Sq @t9)
   ·exact(Sq @t13)
   ·exact(Sq @t128)
   ·exact(Sq @t129)
   ·exact(Sq @t130)
  ·refine ab_chk T gl (eh.trans eK) (t.ext eK).an2 (by omega) (ir.ext eK) rfl (by show 1<2;decide) rfl c0 c1 c2 c3 ?_ ?_ ?_ ?_ ?_ ?_ ?_ ?_ ?_ ?_ ?_ ?_
   ·simp only[pset,hlen]
   ·exact(Sq @t3)
   ·exact(Sq @t4)
   ·exact(Sq @t5)
   ·exact(Sq @t6)
   ·exact(Sq @t7)
   ·exact(Sq @t8)
   ·exact(Sq @t9)
   ·exact(Sq @t13)
   ·exact(Sq @t128)
   ·exact(Sq @t129)
   ·exact(Sq @t130)
 refine WC.cut _ body ?_;rintro e ts K' ⟨rfl,e',hlen,t3,t4,t5,t6,t7,t8,t9,t13,t128,t129,t130⟩;refine Rs (A12 @t3 @t4 @t5 @t6 @t7 @t8 @t9 @t13 @t128 @t129 @t130 @e5) ?_;exact⟨2-(k+1),by omega,k+1,by omega,rfl,eK.trans e',rfl⟩
def ab_tail{K:AHeap}{ts:TS}{n mi:Nat}{p f:Int}{b7 b8 b9 M:Nat}{s1 s2:AV}{L1 L2:List EV}(rg:Rng h)(gl:Gl h)(eh:Ext h K)(m7:K[b7]? =some (.cells acC true false))(hp:1<=p/\p<=20)(hf:p<=f/\f<=29)(hn0:1<=n)(hn:n<=8)(hmi:mi<n)
  (t:TwE M K b7 b8 (acL p f 0 n) s1 L1 b9 (acL p f mi n) s2 L2) (hlen:ts.length=230) (t3:slot ts 3=.int .i64 n) (t4:slot ts 4=.int .i64 p) (t5:slot ts 5=.int .i64 f) (t6:slot ts 6=.int .i64 mi) (t7:slot ts 7=.ptr b7 0) (t8:slot ts 8=.ptr b8 0) (t9:slot ts 9=.ptr b9 0):
  WC P inFn (acT 7) [] ts K (FQ [(2,none)] (AdoneQ h)):=by
 have hip:0<=((n-1:Nat):Int)*p/\((n-1:Nat):Int)*p<=140:=⟨Int.mul_nonneg (by omega) (by omega),by
  have h1:((n-1:Nat):Int)*p<=7*p:=Int.mul_le_mul_of_nonneg_right (by omega) (by omega);omega⟩
 have w1:IntKind.i64.wrap ((n:Int)-1)=((n-1:Nat):Int):=by rw[wrap_in (by omega) (by omega)];omega
 have w2:IntKind.i64.wrap (((n-1:Nat):Int)*p)=((n-1:Nat):Int)*p:=wrap_in (by omega) (by omega);have w3:IntKind.i64.wrap (((n-1:Nat):Int)*p+f)=((n-1:Nat):Int)*p+f:=wrap_in (by omega) (by omega);obtain⟨lv,hlv⟩:∃lv,lv=((n-1:Nat):Int)*p+f:=⟨_,rfl⟩;rw[<-hlv]at w3;have him:-20<=((mi:Int)-1)*p/\((mi:Int)-1)*p<=140:=by
  by_cases h0:mi=0
  ·subst h0;have:(((0:Nat):Int)-1)*p= -p:=by rw[Int.sub_mul];omega
   omega
  ·have h2:0<=((mi:Int)-1)*p:=Int.mul_nonneg (by omega) (by omega);have h1:((mi:Int)-1)*p<=7*p:=Int.mul_le_mul_of_nonneg_right (by omega) (by omega);omega
 have w4:IntKind.i64.wrap ((mi:Int)-1)=(mi:Int)-1:=wrap_in (by omega) (by omega);have w5:IntKind.i64.wrap (((mi:Int)-1)*p)=((mi:Int)-1)*p:=wrap_in (by omega) (by omega);have w6:IntKind.i64.wrap (((mi:Int)-1)*p+f)=((mi:Int)-1)*p+f:=wrap_in (by omega) (by omega);obtain⟨g,hg⟩:∃g,g=((mi:Int)-1)*p+f:=⟨_,rfl⟩;rw[<-hg]at w6;have l8:=@ldx _ _ _ t.w.g1.m;have l9:=@ldx _ _ _ t.w.g2.m;have lv1:ldV [s1][0]? =some (s1,.keep):=rfl;have lv2:ldV [s2][0]? =some (s2,.keep):=rfl;have bd1:=@fill_2 s1 lv t.w.g1.ow.isSl.cells;have bd2:=λv=>@fill_2 s2 v t.w.g2.ow.isSl.cells
 have mu1:mupF .b (.map K.length) (.bool true) (.int .i64 lv) (λz=>(K++[ABlk.mapb []])[z]?)=some (undefA,.set K.length (.mapb [(.bool true,.int .i64 lv)])):=mupF_at at_new rfl;have mu2:mupF .b (.map K.length) (.bool false) (.int .i64 g) (λz=>(K++[ABlk.mapb [(.bool true,.int .i64 lv)]])[z]?)=some (undefA,.set K.length (.mapb [(.bool true,.int .i64 lv),(.bool false,.int .i64 g)])):=mupF_at at_new rfl;have lk:lookF .b (.int .i64 0) false (.map K.length) (.bool (decide ((mi:Int)=0))) (λz=>(K++[ABlk.mapb [(.bool true,.int .i64 lv),(.bool false,.int .i64 g)]])[z]?)=some (.int .i64 (if mi=0 then lv else g),.keep):=by
  by_cases h0:mi=0
  ·rw[decide_eq_true (by omega),if_pos h0];exact(lookF_at (o:=some (.int .i64 lv)) at_new rfl).trans rfl
  ·rw[decide_eq_false (by omega),if_neg h0];exact(lookF_at (o:=some (.int .i64 g)) at_new rfl).trans rfl
 have bs2:∀{x:Int}{N:Nat},bslF 2 2 (some [s1,.int .i64 lv,s2,.int .i64 x]) N=some (.slice N 0 2 2,.push (.cells [s1,.int .i64 lv,s2,.int .i64 x] true true)):=λ{x N}=>bsl_ok (by simp only[List.all_cons,List.all_nil,t.w.g1.ow.isSl.one,t.w.g2.ow.isSl.one];rfl) rfl (by decide)
 have ln2:∀{G:Nat->Option ABlk}{b:Nat},lenG .sl G (.slice b 0 2 2)=some 2:=λ{G b}=>rfl
 rw[ac_7];generalize hX:acT 8=X;unfold acT fn3;simp only[ICode.j,ICode.s,ICode.r,ICode.dr,ICode.tl,ICode.hd,ICode.inn];refine Rs (A11 @t3 @t4 @t5 @t6 @t7 @t8 @t9 @w1 @w2 hlv.symm @w3) ?_;rw[<-hX,ac_8];generalize hA:acG.hd=CA;generalize hB:acG.tl.hd=CB;generalize hD:acH=CD;generalize hE:acG.dr 3=CE;generalize hF:acT 9=CF;unfold acT fn3;simp only[ICode.j,ICode.s,ICode.r,ICode.dr,ICode.tl,ICode.hd,ICode.inn];refine Rs (A24 @t3 @t4 @t5 @t6 @t7 @t8 @t9 @l8 @l9 @lv1 @lv2 @bd1 @bd2 @stepT_mupd @stepT_look @mu1 @mu2 @lk @w4 @w5 hg.symm @w6 @bs2 @ln2) ?_;obtain⟨K1,hK1⟩:∃K1,K1=K++[ABlk.mapb [(.bool true,.int .i64 lv),(.bool false,.int .i64 g)]]:=⟨_,rfl⟩
 have eK1:Ext K K1:=by rw[hK1];exact⟨_,rfl⟩
 rw[<-hK1];clear hK1;obtain⟨x2,hx2⟩:∃x2,x2=if mi=0 then lv else g:=⟨_,rfl⟩
 rw[<-hx2];obtain⟨W8,hW8⟩:∃W8,W8=K1++[ABlk.cells [s1,.int .i64 lv,s2,.int .i64 x2] true true]:=⟨_,rfl⟩;have e8:Ext K W8:=eK1.trans (by rw[hW8];exact⟨_,rfl⟩);have ir:IsSl W8 (.slice K1.length 0 2 2) 2 ([(s1,lv),(s2,x2)].map λx=>[x.1,.int .i64 x.2]):=by
  rw[hW8];exact(Fr.push (h:=K1) (es:=2) (N:=0) (Nat.zero_le _) ([(s1,lv),(s2,x2)].map λx=>[x.1,AV.int .i64 x.2]) (λx hx=>by obtain⟨y,_,rfl⟩:=List.mem_map.1 hx;rfl)).isSl
 rw[<-hW8];clear hW8;obtain⟨br,hbr⟩:∃br,br=K1.length:=⟨_,rfl⟩;rw[<-hbr]at ir ⊢;have hx3:x2=if mi=0 then lv else((mi-1:Nat):Int)*p+f:=by
  rw[hx2];by_cases h0:mi=0
  ·rw[if_pos h0,if_pos h0]
  ·rw[if_neg h0,if_neg h0,hg,show((mi-1:Nat):Int)=(mi:Int)-1 by omega]
 rw[<-hA,<-hB,<-hD,<-hE,<-hF];refine ab_loop T gl rg (eh.trans e8) (e8.some m7) hp hf hn0 hn hmi (t.ext e8) ir hlv hx3 ?_ ?_ ?_ ?_ ?_ ?_ ?_ ?_ ?_ ?_ ?_ ?_
 ·simp only[pset,hlen]
 ·exact(Sq @t3)
 ·exact(Sq @t4)
 ·exact(Sq @t5)
 ·exact(Sq @t6)
 ·exact(Sq @t7)
 ·exact(Sq @t8)
 ·exact(Sq @t9)
 ·exact Sw
 ·exact Sw
 ·exact(by simp only[wset,hset,dset,bset,Nat.reduceAdd,Nat.reduceMul,Nat.reduceLeDiff,Nat.reduceEqDiff,pset,hlen,if_false,if_true]<;>rfl)
 ·exact(by simp only[wset,hset,dset,bset,Nat.reduceAdd,Nat.reduceMul,Nat.reduceLeDiff,Nat.reduceEqDiff,pset,hlen,if_false,if_true]<;>rfl)
theorem r3{n0 n1 n2 n3:Int}(rg:Rng h)(gl:Gl h)(q0:0<=n0/\n0<=255)(q1:0<=n1/\n1<=255)(q2:0<=n2/\n2<=255)(q3:0<=n3/\n3<=255):RCall P 3 [.agg [.int .u8 n0,.int .u8 n1,.int .u8 n2,.int .u8 n3]] h (λv _=>v=.bool true):=by
 refine .st1 230 T.mix T.c3 ?_;intro ts hlen t0;unfold fn3;show WC P inFn (.seq _ (.seq _ (.seq _ (.seq _ (.seq _ (.seq _ (acT 6))))))) _ _ _ _;generalize hX:acT 6=X;have bx:∀{N:Nat},boxF (.agg [.int .u8 n0,.int .u8 n1,.int .u8 n2,.int .u8 n3]) N=some (.ptr N 0,.push (.cells [.int .u8 n0,.int .u8 n1,.int .u8 n2,.int .u8 n3] true false)):=λ{N}=>rfl
 have i0:∀{b:Nat},iadaF 4 1 (.ptr b 0) (.int .i64 0)=some (.ptr b 0):=λ{b}=>rfl
 have i1:∀{b:Nat},iadaF 4 1 (.ptr b 0) (.int .i64 1)=some (.ptr b 1):=λ{b}=>rfl
 have i2:∀{b:Nat},iadaF 4 1 (.ptr b 0) (.int .i64 2)=some (.ptr b 2):=λ{b}=>rfl
 have i3:∀{b:Nat},iadaF 4 1 (.ptr b 0) (.int .i64 3)=some (.ptr b 3):=λ{b}=>rfl
 have l0:ldV [AV.int .u8 n0,.int .u8 n1,.int .u8 n2,.int .u8 n3][0]? =some (.int .u8 n0,.keep):=rfl;have l1:ldV [AV.int .u8 n0,.int .u8 n1,.int .u8 n2,.int .u8 n3][1]? =some (.int .u8 n1,.keep):=rfl;have l2:ldV [AV.int .u8 n0,.int .u8 n1,.int .u8 n2,.int .u8 n3][2]? =some (.int .u8 n2,.keep):=rfl;have l3:ldV [AV.int .u8 n0,.int .u8 n1,.int .u8 n2,.int .u8 n3][3]? =some (.int .u8 n3,.keep):=rfl;have c0:IntKind.i64.wrap n0=n0:=wrap_in (by omega) (by omega);have c1:IntKind.i64.wrap n1=n1:=wrap_in (by omega) (by omega);have c2:IntKind.i64.wrap n2=n2:=wrap_in (by omega) (by omega);have c3:IntKind.i64.wrap n3=n3:=wrap_in (by omega) (by omega)
 have m0:0<=n0.tmod 8/\n0.tmod 8<8:=⟨Int.tmod_nonneg _ q0.1,Int.tmod_lt_of_pos _ (by omega)⟩;have m1:0<=n1.tmod 20/\n1.tmod 20<20:=⟨Int.tmod_nonneg _ q1.1,Int.tmod_lt_of_pos _ (by omega)⟩;have m2:0<=n2.tmod 10/\n2.tmod 10<10:=⟨Int.tmod_nonneg _ q2.1,Int.tmod_lt_of_pos _ (by omega)⟩;have r0:binK .rem (.int .i64 n0) (.int .i64 8)=some (.int .i64 (n0.tmod 8)):=bin_rem (by decide);have r1:binK .rem (.int .i64 n1) (.int .i64 20)=some (.int .i64 (n1.tmod 20)):=bin_rem (by decide);have r2:binK .rem (.int .i64 n2) (.int .i64 10)=some (.int .i64 (n2.tmod 10)):=bin_rem (by decide);obtain⟨n,hn⟩:∃n:Nat,(n:Int)=1+n0.tmod 8:=⟨(1+n0.tmod 8).toNat,by omega⟩
 obtain⟨p,hp⟩:∃p,p=1+n1.tmod 20:=⟨_,rfl⟩;obtain⟨f,hf⟩:∃f,f=p+n2.tmod 10:=⟨_,rfl⟩;have a0:IntKind.i64.wrap (1+n0.tmod 8)=(n:Int):=by rw[hn];exact wrap_in (by omega) (by omega)
 have a1:IntKind.i64.wrap (1+n1.tmod 20)=p:=by rw[hp];exact wrap_in (by omega) (by omega)
 have a2:IntKind.i64.wrap (p+n2.tmod 10)=f:=by rw[hf];exact wrap_in (by omega) (by omega)
 have m3:0<=n3.tmod n/\n3.tmod n<n:=⟨Int.tmod_nonneg _ q3.1,Int.tmod_lt_of_pos _ (by omega)⟩;obtain⟨mi,hmi⟩:∃mi:Nat,(mi:Int)=n3.tmod n:=⟨(n3.tmod n).toNat,by omega⟩;have r3:binK .rem (.int .i64 n3) (.int .i64 n)=some (.int .i64 mi):=by rw[hmi];exact bin_rem (by omega)
 have f8:=tf8;have bz8:∀{N:Nat},boxF (.agg [.str [],.str [],.str [],.str [],.str [],.str [],.str [],.str []]) N=some (.ptr N 0,.push (.cells [.str [],.str [],.str [],.str [],.str [],.str [],.str [],.str []] true false)):=λ{N}=>rfl
 have st8:∀{N:Nat},stB 8 0 (.agg acC) N (.cells [.str [],.str [],.str [],.str [],.str [],.str [],.str [],.str []] true false)=some (undefA,.set N (.cells acC true false)):=λ{N}=>(stB_agg rfl rfl (by show 0+8<=8;omega)).trans rfl
 have bz:∀{N:Nat},boxF .nilSlice N=some (.ptr N 0,.push (.cells [.nilSlice] true false)):=λ{N}=>rfl
 repeat (first|simp (config:={maxSteps:=1000000}) only[wset,hset,dset,bset,Nat.reduceAdd,Nat.reduceMul,Nat.reduceLeDiff,Nat.reduceEqDiff,pset,hlen,if_false,if_true,t0,bx,i0,i1,i2,i3,l0,l1,l2,l3,c0,c1,c2,c3,r0,r1,r2,a0,a1,a2,r3,f8,bz8,st8,bz]|simp (config:={maxSteps:=1000000}) (disch:=first|(simp only[List.length_append,List.length_cons,List.length_nil]<;>omega)|rfl|omega|fail) only[kset,wset,hset,dset,bset,Nat.reduceAdd,Nat.reduceMul,Nat.reduceLeDiff,Nat.reduceEqDiff,pset,hlen,if_false,if_true,t0,bx,i0,i1,i2,i3,l0,l1,l2,l3,c0,c1,c2,c3,r0,r1,r2,a0,a1,a2,r3,f8,bz8,st8,bz])
 obtain⟨h1,hh1⟩:∃h1,h1=h++[ABlk.cells [.int .u8 n0,.int .u8 n1,.int .u8 n2,.int .u8 n3] true false]:=⟨_,rfl⟩;have e1:Ext h h1:=by rw[hh1];exact⟨_,rfl⟩
 rw[<-hh1];clear hh1;obtain⟨b7,hb7⟩:∃b,b=h1.length:=⟨_,rfl⟩;obtain⟨b8,hb8⟩:∃b,b=(h1++[ABlk.cells acC true false]).length:=⟨_,rfl⟩;obtain⟨b9,hb9⟩:∃b,b=(h1++[ABlk.cells acC true false]++[ABlk.cells [.nilSlice] true false]).length:=⟨_,rfl⟩;obtain⟨W,hW⟩:∃W,W=h1++[ABlk.cells acC true false]++[ABlk.cells [.nilSlice] true false]++[ABlk.cells [.nilSlice] true false]:=⟨_,rfl⟩;have eW:Ext h W:=e1.trans (by rw[hW];exact(Ext.trans (Ext.trans ⟨_,rfl⟩ ⟨_,rfl⟩) ⟨_,rfl⟩));have m7:W[b7]? =some (.cells acC true false):=by rw[hW,hb7];exact at_2
 have m8:W[b8]? =some (.cells [.nilSlice] true false):=by rw[hW,hb8];exact at_1
 have m9:W[b9]? =some (.cells [.nilSlice] true false):=by rw[hW,hb9];exact at_new
 have hWl:W.length=h1.length+3:=by rw[hW];simp
 rw[<-hb8,<-hb9,<-hW,<-hb7];clear hW;simp only[List.length_append,List.length_cons,List.length_nil]at hb8 hb9;have hl1:=e1.len;rw[<-hX];refine ab_outer T (M:=W.length) (n:=n) (mi:=mi) (p:=p) (f:=f) (b7:=b7) (b8:=b8) (b9:=b9) gl eW (by omega) (by omega) (Nat.le_refl _) (by omega) (by omega) (by omega) (by omega) (by omega) (by omega) m7 (by omega) (by omega) (by omega) (TwE.nil m8 m9) ?_ ?_ ?_ ?_ ?_ ?_ ?_ ?_ ?_
 ·simp only[pset,hlen]
 ·exact Sw
 ·exact Sw
 ·exact Sw
 ·exact Sw
 ·exact Sw
 ·exact Sw
 ·exact Sw
 intro K ts s1 s2 L1 L2 eK _ m7 t hlen t3 t4 t5 t6 t7 t8 t9;exact ab_tail T rg gl eK m7 (by omega) (by omega) (by omega) (by omega) (by omega) t hlen t3 t4 t5 t6 t7 t8 t9
end
end Go.Abs
namespace Go.Abs
def globA:AHeap:=[.cells rngCells false false,.cells stC false false,.dead,.dead,.dead,.dead,.dead,.dead,.dead,.dead]
def globA_rg{k:AHeap}(e:Ext globA k):Rng k:=e.some rfl
def globA_gl{k:AHeap}(e:Ext globA k):Gl k:=⟨false,false,e.some rfl⟩
def len4a{nn:List Int}(h:nn.length=4):∃a b c d,nn=[a,b,c,d]:=by
 match nn,h with
 |[a,b,c,d],_=>exact⟨a,b,c,d,rfl⟩
end Go.Abs
