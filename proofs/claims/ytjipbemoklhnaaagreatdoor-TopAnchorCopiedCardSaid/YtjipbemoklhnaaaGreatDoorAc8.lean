/- Contracts: what events add to a register. No condition. · Contracts: what events add to a register, with lists of their own. No condition. · Contracts: acceptances, releases, tiles. No condition. · Contracts: a list of one number, many times; jobs. No condition. · Contracts: an event adds a job. No condition. · Contracts: a copy. No condition. · Contracts: a copy, walked. No condition. · Contracts: a history's register, the error of an event in it. No condition. · Contracts: an event is added to a history. No condition. · Contracts: events are replayed. No condition. · Contracts: questions about events. No condition. · Contracts: more questions about events. No condition. · Contracts: a register as of a tick, what a module needs. No condition. · Contracts: the story of a line. No condition. · Further events, the register as of a tick; plain. No condition. · Prefixes of accepted events; what a copy and an acceptance leave; plain. No condition. · A shot that is copied from tape to tape; plain. No condition. · Contracts: an event that must be accepted. No condition. · Contracts: the events of a house with a line of one shot. No condition. · Contracts: a house with a line of one shot, and a job of it. No condition. · Contracts: the fixed example of the chapters 1, 5 and 10. No condition. · A shot that is copied from tape to tape: one tape more. No condition. · A shot that is copied from tape to tape: one tape more of one list. No condition. -/
import Derived.Test.YtjipbemoklhnaaaGreatDoorAc7
set_option maxHeartbeats 4000000
set_option linter.all false
namespace Go.Abs
def DoR(B:AHeap)(b:Nat)(V:RV)(e:Evt)(d:Kd)(k:AHeap):Prop:=∃g' V',k=B++g'/\RegBk B.length (B++g') b V'/\V'.reg=actK V.reg e d
def bk_store{B g:AHeap}{b i:Nat}{V:RV}{v:AV}(hb:(B++g)[b]? =some (.b V.row))(hv:v.one=true)(hi:i<7):storeF 1 (.ptr b i) v (λz=>(B++g)[z]?)=some (undefA,.set b (.b (V.row.set i v))):=by
 rw[storeF_at hb];exact stB_one hv (by show i+1<=7;omega)
def bk_set{B g:AHeap}{b:Nat}{V:RV}(X:ABlk)(hN:B.length<=b)(hb:(B++g)[b]? =some (.b V.row)):(B++g).set b X=B++g.set (b-B.length) X/\(B++g.set (b-B.length) X)[b]? =some X/\∀i,i≠b->(B++g.set (b-B.length) X)[i]? =(B++g)[i]? :=by
 have h1:(B++g).set b X=B++g.set (b-B.length) X:=List.set_append_right _ _ hN;refine⟨h1,?_,λi hi=>?_⟩
 ·rw[<-h1,List.getElem?_set_self (List.getElem?_eq_some_iff.1 hb).1]
 ·rw[<-h1,List.getElem?_set_ne (Ne.symm hi)]
def resAll_0{ts h}:resAll [] ts h=some (.tup []):=rfl
section
variable {B g g':AHeap}{b:Nat}{V:RV}{e:Evt}{d:Kd}
def fin_0(r:RegBk B.length (B++g) b V){s:AV}{L:List LnR}(hff:Fr B.length (B++g') s 3 (L.map lnRow))(hb':∀i,sB s=some i->sB V.s0=some i\/(B++g).length<=i)(hk1:∀i,i<(B++g).length->sB V.s0≠some i->(B++g')[i]? =(B++g)[i]?)
  (hreg:{V with lines:=L,s0:=s}.reg=actK V.reg e d):DoR B b V e d ((B++g').set b (.b (V.row.set 1 s))):=by
 have hbl:=r.lt;have hnb:sB V.s0≠some b:=λz=>r.ne (by rw[<-z];simp[RV.bl])
 have mB:(B++g')[b]? =some (.b V.row):=(hk1 b hbl hnb).trans r.m;obtain⟨h1,h2,h3⟩:=bk_set (.b (V.row.set 1 s)) r.hN mB;have hsb:∀i,sB s=some i->i≠b:=λi hi z=>by
  subst z;rcases hb' i hi with z|z
  ·exact hnb z
  ·omega
 exact⟨_,_,h1,r.up0 (hff.sBkeep λi hi=>h3 i (hsb i hi)) hb' h2 (λi hi hne hnb=>(h3 i hnb).trans (hk1 i hi hne)),hreg⟩
def fin_1(r:RegBk B.length (B++g) b V){s:AV}{L:List TpR}(hff:Fr B.length (B++g') s 2 (L.map tpRow))(hb':∀i,sB s=some i->sB V.s1=some i\/(B++g).length<=i)(hk1:∀i,i<(B++g).length->sB V.s1≠some i->(B++g')[i]? =(B++g)[i]?)
  (hreg:{V with tapes:=L,s1:=s}.reg=actK V.reg e d):DoR B b V e d ((B++g').set b (.b (V.row.set 2 s))):=by
 have hbl:=r.lt;have hnb:sB V.s1≠some b:=λz=>r.ne (by rw[<-z];simp[RV.bl])
 have mB:(B++g')[b]? =some (.b V.row):=(hk1 b hbl hnb).trans r.m;obtain⟨h1,h2,h3⟩:=bk_set (.b (V.row.set 2 s)) r.hN mB;have hsb:∀i,sB s=some i->i≠b:=λi hi z=>by
  subst z;rcases hb' i hi with z|z
  ·exact hnb z
  ·omega
 exact⟨_,_,h1,r.up1 (hff.sBkeep λi hi=>h3 i (hsb i hi)) hb' h2 (λi hi hne hnb=>(h3 i hnb).trans (hk1 i hi hne)),hreg⟩
def fin_2(r:RegBk B.length (B++g) b V){s t:AV}{y:ShR}(hff:Fr B.length (B++g') s 3 ((V.shots++[(y,t)]).map shRow))(ht:Fr B.length (B++g') t 1 (y.tapes.map strRow))(hb':∀i,sB s=some i->sB V.s2=some i\/(B++g).length<=i)(hk1:∀i,i<(B++g).length->sB V.s2≠some i->(B++g')[i]? =(B++g)[i]?)(hnt:∀i,sB t=some i->(B++g).length<=i/\sB s≠some i)
  (hreg:{V with shots:=V.shots++[(y,t)],s2:=s}.reg=actK V.reg e d):DoR B b V e d ((B++g').set b (.b (V.row.set 3 s))):=by
 have hbl:=r.lt;have hnb:sB V.s2≠some b:=λz=>r.ne (by rw[<-z];simp[RV.bl])
 have mB:(B++g')[b]? =some (.b V.row):=(hk1 b hbl hnb).trans r.m;obtain⟨h1,h2,h3⟩:=bk_set (.b (V.row.set 3 s)) r.hN mB;have hsb:∀i,sB s=some i->i≠b:=λi hi z=>by
  subst z;rcases hb' i hi with z|z
  ·exact hnb z
  ·omega
 have htb:∀i,sB t=some i->i≠b:=λi hi z=>by
  subst z;have:=(hnt i hi).1;omega
 exact⟨_,_,h1,r.up2 (hff.sBkeep λi hi=>h3 i (hsb i hi)) (ht.sBkeep λi hi=>h3 i (htb i hi)) hb' hnt h2 (λi hi hne hnb=>(h3 i hnb).trans (hk1 i hi hne)),hreg⟩
def fin_3(r:RegBk B.length (B++g) b V){s t:AV}{y:MdR}(hff:Fr B.length (B++g') s 4 ((V.mods++[(y,t)]).map mdRow))(ht:Fr B.length (B++g') t 1 (y.inputs.map strRow))(hb':∀i,sB s=some i->sB V.s3=some i\/(B++g).length<=i)(hk1:∀i,i<(B++g).length->sB V.s3≠some i->(B++g')[i]? =(B++g)[i]?)(hnt:∀i,sB t=some i->(B++g).length<=i/\sB s≠some i)
  (hreg:{V with mods:=V.mods++[(y,t)],s3:=s}.reg=actK V.reg e d):DoR B b V e d ((B++g').set b (.b (V.row.set 4 s))):=by
 have hbl:=r.lt;have hnb:sB V.s3≠some b:=λz=>r.ne (by rw[<-z];simp[RV.bl])
 have mB:(B++g')[b]? =some (.b V.row):=(hk1 b hbl hnb).trans r.m;obtain⟨h1,h2,h3⟩:=bk_set (.b (V.row.set 4 s)) r.hN mB;have hsb:∀i,sB s=some i->i≠b:=λi hi z=>by
  subst z;rcases hb' i hi with z|z
  ·exact hnb z
  ·omega
 have htb:∀i,sB t=some i->i≠b:=λi hi z=>by
  subst z;have:=(hnt i hi).1;omega
 exact⟨_,_,h1,r.up3 (hff.sBkeep λi hi=>h3 i (hsb i hi)) (ht.sBkeep λi hi=>h3 i (htb i hi)) hb' hnt h2 (λi hi hne hnb=>(h3 i hnb).trans (hk1 i hi hne)),hreg⟩
def fin_4(r:RegBk B.length (B++g) b V){s t:AV}{y:JbR}(hff:Fr B.length (B++g') s 3 ((V.jobs++[(y,t)]).map jbRow))(ht:Fr B.length (B++g') t 1 (y.sums.map intRow))(hb':∀i,sB s=some i->sB V.s4=some i\/(B++g).length<=i)(hk1:∀i,i<(B++g).length->sB V.s4≠some i->(B++g')[i]? =(B++g)[i]?)(hnt:∀i,sB t=some i->(B++g).length<=i/\sB s≠some i)
  (hreg:{V with jobs:=V.jobs++[(y,t)],s4:=s}.reg=actK V.reg e d):DoR B b V e d ((B++g').set b (.b (V.row.set 5 s))):=by
 have hbl:=r.lt;have hnb:sB V.s4≠some b:=λz=>r.ne (by rw[<-z];simp[RV.bl])
 have mB:(B++g')[b]? =some (.b V.row):=(hk1 b hbl hnb).trans r.m;obtain⟨h1,h2,h3⟩:=bk_set (.b (V.row.set 5 s)) r.hN mB;have hsb:∀i,sB s=some i->i≠b:=λi hi z=>by
  subst z;rcases hb' i hi with z|z
  ·exact hnb z
  ·omega
 have htb:∀i,sB t=some i->i≠b:=λi hi z=>by
  subst z;have:=(hnt i hi).1;omega
 exact⟨_,_,h1,r.up4 (hff.sBkeep λi hi=>h3 i (hsb i hi)) (ht.sBkeep λi hi=>h3 i (htb i hi)) hb' hnt h2 (λi hi hne hnb=>(h3 i hnb).trans (hk1 i hi hne)),hreg⟩
def fin_5(r:RegBk B.length (B++g) b V){s:AV}{L:List PcR}(hff:Fr B.length (B++g') s 4 (L.map pcRow))(hb':∀i,sB s=some i->sB V.s5=some i\/(B++g).length<=i)(hk1:∀i,i<(B++g).length->sB V.s5≠some i->(B++g')[i]? =(B++g)[i]?)
  (hreg:{V with picts:=L,s5:=s}.reg=actK V.reg e d):DoR B b V e d ((B++g').set b (.b (V.row.set 6 s))):=by
 have hbl:=r.lt;have hnb:sB V.s5≠some b:=λz=>r.ne (by rw[<-z];simp[RV.bl])
 have mB:(B++g')[b]? =some (.b V.row):=(hk1 b hbl hnb).trans r.m;obtain⟨h1,h2,h3⟩:=bk_set (.b (V.row.set 6 s)) r.hN mB;have hsb:∀i,sB s=some i->i≠b:=λi hi z=>by
  subst z;rcases hb' i hi with z|z
  ·exact hnb z
  ·omega
 exact⟨_,_,h1,r.up5 (hff.sBkeep λi hi=>h3 i (hsb i hi)) hb' h2 (λi hi hne hnb=>(h3 i hnb).trans (hk1 i hi hne)),hreg⟩
end
set_option maxRecDepth 10000
attribute [local irreducible] WP WC WE WB WR WF WL WG WRg
section
variable {P:Program}(T:Tbl P) {B g:AHeap}{b:Nat}{V:RV}{x:EV}
include T
def g118(r:RegBk B.length (B++g) b V)(c:Cx (B++g) V x .line):GCall P 118 [.ptr b 0,.agg x.row] (B++g) (λ_ k=>DoR B b V x.ev .line k):=by
 refine .st2 22 T.mix T.c118 ?_;intro ts hlen t0 t1;unfold fn118;have hex:=@EvOk.box _ _ c.e;have lb:=@ldx _ _ _ r.m;have i0:iadrF 1 x.sn (.i 0)=_:=(c.nm (i:=0) (by decide)).1;have d0:=@(c.nm (i:=0) (by decide)).2;have j1:iadrF 1 x.sv (.i 1)=_:=(c.vl (i:=1) (by decide)).1;have f1:=@(c.vl (i:=1) (by decide)).2.1;have q1:=(c.vl (i:=1) (by decide)).2.2;obtain⟨y,hy⟩:∃y:LnR,y=⟨nmE x.ev 0,vlE x.ev 1,false⟩:=⟨_,rfl⟩;have hyr:lnRow y=[.str (nmE x.ev 0),.i (vlE x.ev 1),.bool false]:=by rw[hy];rfl
 refine Rs (A11 @t0 @t1 @hex @lb @row_1 @erow_2 @erow_3 @i0 @d0 @j1 @f1) ?_;rw[<-hyr];refine WR.app1 (h0:=B) (cs:=V.lines.map lnRow) (ys:=[lnRow y]) (((r.o.i0).app _).app _) (Fr.push (N:=0) (Nat.zero_le _) [lnRow y] (by simp[lnRow])).isSl (by decide) (by simp) (by have:=c.w.len.l0;simp;omega) Xx ?_;intro g' hl' hff hkp;have hrow:V.lines.map lnRow++[lnRow y]=(V.lines++[y]).map lnRow:=by rw[List.map_append];rfl
 rw[hrow]at hff;rw[hrow];have hbl:=r.lt;have hnb:sB V.s0≠some b:=λe=>r.ne (by rw[<-e];simp[RV.bl])
 have hk1:∀i,i<(B++g).length->sB V.s0≠some i->(B++g')[i]? =(B++g)[i]? :=λi hi hne=>by
  rw[hkp i (by simp only[List.length_append]at hi ⊢;omega) (λb0 o n e he z=>hne (by rw[he,z];rfl))];exact(show Ext (B++g) _ from Xx).get hi
 have mB:(B++g')[b]? =some (.b V.row):=(hk1 b hbl hnb).trans r.m;have sB1:=λ(b' o n e:Nat)=>bk_store (i:=1) (v:=.slice b' o n e) mB rfl (by decide)
 refine Rs (A4 @t0 @t1 @sB1 @resAll_0) ?_;exact fin_0 r hff (λi hi=>by cases hi;exact .inr (by simp only[List.length_append];omega)) hk1 (by rw[hy];rfl)
def g121(r:RegBk B.length (B++g) b V)(c:Cx (B++g) V x .tape):GCall P 121 [.ptr b 0,.agg x.row] (B++g) (λ_ k=>DoR B b V x.ev .tape k):=by
 refine .st2 27 T.mix T.c121 ?_;intro ts hlen t0 t1;unfold fn121;have hex:=@EvOk.box _ _ c.e;have lb:=@ldx _ _ _ r.m;have i0:iadrF 1 x.sn (.i 0)=_:=(c.nm (i:=0) (by decide)).1;have d0:=@(c.nm (i:=0) (by decide)).2;have j0:iadrF 1 x.sv (.i 0)=_:=(c.vl (i:=0) (by decide)).1;have f0:=@(c.vl (i:=0) (by decide)).2.1;have q0:=(c.vl (i:=0) (by decide)).2.2;have j1:iadrF 1 x.sv (.i 1)=_:=(c.vl (i:=1) (by decide)).1;have f1:=@(c.vl (i:=1) (by decide)).2.1;have q1:=(c.vl (i:=1) (by decide)).2.2;have hw:IntKind.i64.wrap (vlE x.ev 0+vlE x.ev 1)=vlE x.ev 0+vlE x.ev 1:=wrap_in (by omega) (by omega);obtain⟨y,hy⟩:∃y:TpR,y=⟨nmE x.ev 0,vlE x.ev 0+vlE x.ev 1⟩:=⟨_,rfl⟩
 have hyr:tpRow y=[.str (nmE x.ev 0),.i (vlE x.ev 0+vlE x.ev 1)]:=by rw[hy];rfl
 refine Rs (A14 @t0 @t1 @hex @lb @row_2 @erow_2 @erow_3 @hw @i0 @d0 @j0 @f0 @j1 @f1) ?_;rw[<-hyr];refine WR.app1 (h0:=B) (cs:=V.tapes.map tpRow) (ys:=[tpRow y]) (((r.o.i1).app _).app _) (Fr.push (N:=0) (Nat.zero_le _) [tpRow y] (by simp[tpRow])).isSl (by decide) (by simp) (by have:=c.w.len.l1;simp;omega) Xx ?_;intro g' hl' hff hkp;have hrow:V.tapes.map tpRow++[tpRow y]=(V.tapes++[y]).map tpRow:=by rw[List.map_append];rfl
 rw[hrow]at hff;rw[hrow];have hbl:=r.lt;have hnb:sB V.s1≠some b:=λe=>r.ne (by rw[<-e];simp[RV.bl])
 have hk1:∀i,i<(B++g).length->sB V.s1≠some i->(B++g')[i]? =(B++g)[i]? :=λi hi hne=>by
  rw[hkp i (by simp only[List.length_append]at hi ⊢;omega) (λb0 o n e he z=>hne (by rw[he,z];rfl))];exact(show Ext (B++g) _ from Xx).get hi
 have mB:(B++g')[b]? =some (.b V.row):=(hk1 b hbl hnb).trans r.m;have sB1:=λ(b' o n e:Nat)=>bk_store (i:=2) (v:=.slice b' o n e) mB rfl (by decide)
 refine Rs (A4 @t0 @t1 @sB1 @resAll_0) ?_;exact fin_1 r hff (λi hi=>by cases hi;exact .inr (by simp only[List.length_append];omega)) hk1 (by rw[hy];rfl)
end
end Go.Abs
namespace Go.Abs
theorem digS_bd:∀(l:List Int) (x:Int),(∀s∈l,-1<=s/\s<=999999999)->-16777213<x->x<16777213->-16777213<l.foldl (λx s=>(257*x+s).tmod 16777213) x/\l.foldl (λx s=>(257*x+s).tmod 16777213) x<16777213
 |[],x,_,h1,h2=>⟨h1,h2⟩
 |s::l,x,hs,h1,h2=>by
  have hb:-16777213<(257*x+s).tmod 16777213/\(257*x+s).tmod 16777213<16777213:=by
   constructor
   ·have:=Int.lt_tmod_of_pos (257*x+s) (show(0:Int)<16777213 by decide);exact this
   ·exact Int.tmod_lt_of_pos _ (by decide)
  exact digS_bd l _ (λt ht=>hs t (List.mem_cons_of_mem _ ht)) hb.1 hb.2
set_option maxRecDepth 10000
attribute [local irreducible] WP WC WE WB WR WF WL WG WRg
section
variable {P:Program}(T:Tbl P) {h:AHeap}
include T
def r204{s l}(hs:IsSl h s 1 (l.map intRow))(hl:l.length<2^30)(hb:∀s∈l,-1<=s/\s<=999999999):RCall P 204 [s] h (λv _=>v=.i (digS l)):=by
 refine .st1 19 T.mix T.c204 ?_;intro ts hlen t0;unfold fn204;refine Rs (A2 @t0 hs.lenm) ?_;refine WL.inv T.mix (λn ts h'=>∃k:Nat,k<=l.length/\n=l.length-k/\h' =h/\ts.length=19/\slot ts 3=.i (digS (l.take k))/\slot ts 6=s/\slot ts 7=.i l.length/\slot ts 8=.i k) l.length
  ⟨0,by omega,rfl,rfl,Sn,Swr,(Sq @t0),(Sq @t0),Swr⟩ ?_
 rintro _ ts _ ⟨k,hk,rfl,rfl,hlen,t3,t6,t7,t8⟩;by_cases hlt:k<l.length
 ·have e3:=dltT hlt;have ix:=hs.ixm (kk:=.i64) hlt;have ld:=hs.l1m (i:=k) (x:=.i l[k]) hlt rfl (Ext.refl _);have e5:=wrapN (n:=k) (by omega);have hd:=digS_bd (l.take k) 1 (λs hs=>hb s (List.mem_of_mem_take hs)) (by decide) (by decide);have hlk:=hb _ (List.getElem_mem hlt);have hd':-16777213<digS (l.take k)/\digS (l.take k)<16777213:=hd;have w1:IntKind.i64.wrap (257*digS (l.take k))=257*digS (l.take k):=wrap_in (by omega) (by omega);have w2:IntKind.i64.wrap (257*digS (l.take k)+l[k])=257*digS (l.take k)+l[k]:=wrap_in (by omega) (by omega);have er:=bin_rem (k:=.i64) (a:=257*digS (l.take k)+l[k]) (b:=16777213) (by decide)
  have htk:digS (l.take (k+1))=(257*digS (l.take k)+l[k]).tmod 16777213:=by
   rw[List.take_add_one,List.getElem?_eq_getElem hlt,digS,List.foldl_append];rfl
  rw[<-htk]at er;refine Rs (A11 @t3 @t6 @t7 @t8 @e3 @ix @ld @w1 @w2 @er @e5) ?_;exact⟨_,by omega,k+1,by omega,rfl,rfl,rfl⟩
 ·have e3:=dltF hlt;have e4:k=l.length:=by omega
  rw[e4,List.take_length]at t3;exact Rs (A5 @t3 @t6 @t7 @t8 @e3) trivial
end
section
variable {P:Program}(T:Tbl P) {B g:AHeap}{b:Nat}{V:RV}{x:EV}
include T
def g125(r:RegBk B.length (B++g) b V)(c:Cx (B++g) V x .shot):GCall P 125 [.ptr b 0,.agg x.row] (B++g) (λ_ k=>DoR B b V x.ev .shot k):=by
 refine .st2 27 T.mix T.c125 ?_;intro ts hlen t0 t1;unfold fn125;have hex:=@EvOk.box _ _ c.e;have lb:=@ldx _ _ _ r.m;have i0:iadrF 1 x.sn (.i 0)=_:=(c.nm (i:=0) (by decide)).1;have d0:=@(c.nm (i:=0) (by decide)).2;have i1:iadrF 1 x.sn (.i 1)=_:=(c.nm (i:=1) (by decide)).1;have d1:=@(c.nm (i:=1) (by decide)).2;have i2:iadrF 1 x.sn (.i 2)=_:=(c.nm (i:=2) (by decide)).1;have d2:=@(c.nm (i:=2) (by decide)).2;obtain⟨y,hy⟩:∃y:ShR,y=⟨nmE x.ev 0,nmE x.ev 1,[nmE x.ev 2]⟩:=⟨_,rfl⟩;obtain⟨t,ht⟩:∃t,t=AV.slice (B++g++[ABlk.b x.row]).length 0 1 1:=⟨_,rfl⟩;have htf:Fr (B++g).length (B++g++[ABlk.b x.row]++[ABlk.cells [.str (nmE x.ev 2)] true true]) t 1 (y.tapes.map strRow):=by
  rw[ht,hy];exact(Fr.push (h:=B++g++[ABlk.b x.row]) (N:=(B++g).length) (by simp) [strRow (nmE x.ev 2)] (by simp[strRow]))
 have hyr:shRow (y,t)=[.str (nmE x.ev 0),.str (nmE x.ev 1),t]:=by rw[hy];rfl
 refine Rs (A13 @t0 @t1 @hex @lb @row_3 @erow_2 @erow_3 @i0 @d0 @i1 @d1 @i2 @d2) ?_;rw[<-ht];have ot:=htf.isSl.one;refine Rs (A7 @t0 @t1 @ot @lb @row_3 @erow_2 @erow_3) ?_;rw[<-hyr];refine WR.app1 (h0:=B) (cs:=V.shots.map shRow) (ys:=[shRow (y,t)]) ((((r.o.i2).app _).app _).app _) (Fr.push (N:=0) (Nat.zero_le _) [shRow (y,t)] (by simp[shRow])).isSl (by decide) (by simp) (by have:=c.w.len.l2;simp;omega) Xx ?_;intro g' hl' hff hkp;have hrow:V.shots.map shRow++[shRow (y,t)]=(V.shots++[(y,t)]).map shRow:=by rw[List.map_append];rfl
 rw[hrow]at hff;rw[hrow];have hbl:=r.lt;have hnb:sB V.s2≠some b:=λe=>r.ne (by rw[<-e];simp[RV.bl])
 have hk1:∀i,i<(B++g).length->sB V.s2≠some i->(B++g')[i]? =(B++g)[i]? :=λi hi hne=>by
  rw[hkp i (by simp only[List.length_append]at hi ⊢;omega) (λb0 o n e he z=>hne (by rw[he,z];rfl))];exact(show Ext (B++g) _ from Xx).get hi
 have mB:(B++g')[b]? =some (.b V.row):=(hk1 b hbl hnb).trans r.m;have sB1:=λ(b' o n e:Nat)=>bk_store (i:=3) (v:=.slice b' o n e) mB rfl (by decide)
 refine Rs (A4 @t0 @t1 @sB1 @resAll_0) ?_;refine fin_2 r hff ?_ (λi hi=>by cases hi;exact .inr (by simp only[List.length_append];omega)) hk1 ?_ ?_
 ·exact(((htf.app _).sBkeep λi hi=>hkp i (by have:=(htf.sBlt hi).2;simp only[List.length_append]at this ⊢;omega) (λb0 o n e he z=>by
   have h1:=(htf.sBlt hi).1;have h2:=(r.o.i2.sBlt (show sB V.s2=some i by rw[he,z];rfl)).2;omega)).low (by simp))
 ·intro i hi;have h1:=htf.sBlt hi;refine⟨h1.1,λe=>?_⟩;cases e;have:=h1.2;simp only[List.length_append,List.length_cons,List.length_nil]at this;omega
 ·rw[hy];simp[RV.reg,actK]
def g131(r:RegBk B.length (B++g) b V)(c:Cx (B++g) V x .source):GCall P 131 [.ptr b 0,.agg x.row] (B++g) (λ_ k=>DoR B b V x.ev .source k):=by
 refine .st2 22 T.mix T.c131 ?_;intro ts hlen t0 t1;unfold fn131;have hex:=@EvOk.box _ _ c.e;have lb:=@ldx _ _ _ r.m;have i0:iadrF 1 x.sn (.i 0)=_:=(c.nm (i:=0) (by decide)).1;have d0:=@(c.nm (i:=0) (by decide)).2;have i1:iadrF 1 x.sn (.i 1)=_:=(c.nm (i:=1) (by decide)).1;have d1:=@(c.nm (i:=1) (by decide)).2;obtain⟨y,hy⟩:∃y:MdR,y=⟨nmE x.ev 0,gvShots,nmE x.ev 1,[]⟩:=⟨_,rfl⟩;obtain⟨t,ht⟩:∃t,t=AV.nilSlice:=⟨_,rfl⟩;have hyr:mdRow (y,t)=[.str (nmE x.ev 0),.str [115,104,111,116,115],.str (nmE x.ev 1),.nilSlice]:=by rw[hy,ht];rfl
 refine Rs (A11 @t0 @t1 @hex @lb @row_4 @erow_2 @erow_3 @i0 @d0 @i1 @d1) ?_;rw[<-hyr];refine WR.app1 (h0:=B) (cs:=V.mods.map mdRow) (ys:=[mdRow (y,t)]) (((r.o.i3).app _).app _) (Fr.push (N:=0) (Nat.zero_le _) [mdRow (y,t)] (by simp[mdRow])).isSl (by decide) (by simp) (by have:=c.w.len.l3;simp;omega) Xx ?_;intro g' hl' hff hkp;have hrow:V.mods.map mdRow++[mdRow (y,t)]=(V.mods++[(y,t)]).map mdRow:=by rw[List.map_append];rfl
 rw[hrow]at hff;rw[hrow];have hbl:=r.lt;have hnb:sB V.s3≠some b:=λe=>r.ne (by rw[<-e];simp[RV.bl])
 have hk1:∀i,i<(B++g).length->sB V.s3≠some i->(B++g')[i]? =(B++g)[i]? :=λi hi hne=>by
  rw[hkp i (by simp only[List.length_append]at hi ⊢;omega) (λb0 o n e he z=>hne (by rw[he,z];rfl))];exact(show Ext (B++g) _ from Xx).get hi
 have mB:(B++g')[b]? =some (.b V.row):=(hk1 b hbl hnb).trans r.m;have sB1:=λ(b' o n e:Nat)=>bk_store (i:=4) (v:=.slice b' o n e) mB rfl (by decide)
 refine Rs (A4 @t0 @t1 @sB1 @resAll_0) ?_;refine fin_3 r hff ?_ (λi hi=>by cases hi;exact .inr (by simp only[List.length_append];omega)) hk1 ?_ ?_
 ·rw[ht,hy];exact .nil
 ·intro i hi;rw[ht]at hi;cases hi
 ·rw[hy];simp[RV.reg,actK]
def g133(r:RegBk B.length (B++g) b V)(c:Cx (B++g) V x .modl)(hc:chkK V.reg x.ev .modl=0)(gl:Gl (B++g)):GCall P 133 [.ptr b 0,.agg x.row] (B++g) (λ_ k=>DoR B b V x.ev .modl k):=by
 refine .st2 30 T.mix T.c133 ?_;intro ts hlen t0 t1;unfold fn133;have hex:=@EvOk.box _ _ c.e;have lb:=@ldx _ _ _ r.m;have i0:iadrF 1 x.sn (.i 0)=_:=(c.nm (i:=0) (by decide)).1;have d0:=@(c.nm (i:=0) (by decide)).2;have j1:iadrF 1 x.sv (.i 1)=_:=(c.vl (i:=1) (by decide)).1;have f1:=@(c.vl (i:=1) (by decide)).2.1;have q1:=(c.vl (i:=1) (by decide)).2.2;obtain⟨gmu,gtl,hg0⟩:=gl;have hn:1<=vlE x.ev 1/\vlE x.ev 1<=4:=by
  rw[chkK]at hc;split at hc
  ·cases hc
  case isFalse hr=>exact rangeS_0 hr
 have hw:IntKind.i64.wrap (vlE x.ev 1-1)=vlE x.ev 1-1:=wrap_in (by omega) (by omega);have a1:iadaF 4 2 (.ptr 1 0) (.i (vlE x.ev 1-1))=some (.ptr 1 ((vlE x.ev 1-1).toNat*2)):=by simp only[iadaF];rw[if_pos (by omega),Nat.zero_add]
 have a2:iadaF 2 1 (.ptr 1 ((vlE x.ev 1-1).toNat*2)) (.i 1)=some (.ptr 1 ((vlE x.ev 1-1).toNat*2+1)):=by simp[iadaF]
 have lg:∀{k:AHeap},Ext (B++g) k->loadF none (.ptr 1 ((vlE x.ev 1-1).toNat*2+1)) (λb=>k[b]?)=some (.str (givesS (vlE x.ev 1)),.keep):=by
  intro k e;rw[loadF_at (e.some hg0)];have:vlE x.ev 1=1\/vlE x.ev 1=2\/vlE x.ev 1=3\/vlE x.ev 1=4:=by omega
  rcases this with z|z|z|z<;>rw[z]<;>rfl
 have hnl:1<=x.ev.names.length:=by rw[c.we.nl];decide
 have hnl2:x.ev.names.length<=3:=by rw[c.we.nl];decide
 obtain⟨s',es',hs'⟩:=c.e.n.slm (lo:=some (.i 1)) (hi:=none) (bnds_lo (k:=1) hnl);have et:List.take (x.ev.names.length-1) (List.drop 1 x.ev.names)=x.ev.names.drop 1:=List.take_of_length_le (by simp);rw[et]at hs';obtain⟨y,hy⟩:∃y:MdR,y=⟨nmE x.ev 0,givesS (vlE x.ev 1),[],x.ev.names.drop 1⟩:=⟨_,rfl⟩;refine Rs (A16 @t0 @t1 @hex @lb @row_4 @erow_2 @erow_3 @hw @a1 @a2 @lg @es' @i0 @d0 @j1 @f1) ?_;refine WF.res T.c91 (r91 T (hs'.ext Xx) (by simp;omega)) ?_;rintro t g1 htf;have hyr:mdRow (y,t)=[.str (nmE x.ev 0),.str (givesS (vlE x.ev 1)),.str [],t]:=by rw[hy];rfl
 have htf:Fr (B++g).length (B++g++[ABlk.b x.row]++g1) t 1 (y.inputs.map strRow):=by rw[hy];exact htf.low (by simp)
 have ot:=htf.isSl.one;refine Rs (A3 @t0 @t1 @ot) ?_;rw[<-hyr];refine WR.app1 (h0:=B) (cs:=V.mods.map mdRow) (ys:=[mdRow (y,t)]) ((((r.o.i3).app _).app _).app _) (Fr.push (N:=0) (Nat.zero_le _) [mdRow (y,t)] (by simp[mdRow])).isSl (by decide) (by simp) (by have:=c.w.len.l3;simp;omega) Xx ?_;intro g' hl' hff hkp;have hrow:V.mods.map mdRow++[mdRow (y,t)]=(V.mods++[(y,t)]).map mdRow:=by rw[List.map_append];rfl
 rw[hrow]at hff;rw[hrow];have hbl:=r.lt;have hnb:sB V.s3≠some b:=λe=>r.ne (by rw[<-e];simp[RV.bl])
 have hk1:∀i,i<(B++g).length->sB V.s3≠some i->(B++g')[i]? =(B++g)[i]? :=λi hi hne=>by
  rw[hkp i (by simp only[List.length_append]at hi ⊢;omega) (λb0 o n e he z=>hne (by rw[he,z];rfl))];exact(show Ext (B++g) _ from Xx).get hi
 have mB:(B++g')[b]? =some (.b V.row):=(hk1 b hbl hnb).trans r.m;have sB1:=λ(b' o n e:Nat)=>bk_store (i:=4) (v:=.slice b' o n e) mB rfl (by decide)
 refine Rs (A4 @t0 @t1 @sB1 @resAll_0) ?_;refine fin_3 r hff ?_ (λi hi=>by cases hi;exact .inr (by simp only[List.length_append];omega)) hk1 ?_ ?_
 ·refine Fr.low (N:=(B++g).length) ((show Fr (B++g).length _ t 1 _ from htf.app _).sBkeep λi hi=>hkp i ?_ (λb0 o n e he z=>?_)) (by simp)
  ·have:=(htf.sBlt hi).2;simp only[List.length_append]at this ⊢;omega
  ·have h1:=(htf.sBlt hi).1;have h2:=(r.o.i3.sBlt (show sB V.s3=some i by rw[he,z];rfl)).2;omega
 ·intro i hi;have h1:=htf.sBlt hi;refine⟨h1.1,λe=>?_⟩;cases e;have:=h1.2;simp only[List.length_append,List.length_cons,List.length_nil]at this;omega
 ·rw[hy];simp[RV.reg,actK]
def g135(r:RegBk B.length (B++g) b V)(c:Cx (B++g) V x .merge):GCall P 135 [.ptr b 0,.agg x.row] (B++g) (λ_ k=>DoR B b V x.ev .merge k):=by
 refine .st2 31 T.mix T.c135 ?_;intro ts hlen t0 t1;unfold fn135;have hex:=@EvOk.box _ _ c.e;have lb:=@ldx _ _ _ r.m;have i0:iadrF 1 x.sn (.i 0)=_:=(c.nm (i:=0) (by decide)).1;have d0:=@(c.nm (i:=0) (by decide)).2;have i1:iadrF 1 x.sn (.i 1)=_:=(c.nm (i:=1) (by decide)).1;have d1:=@(c.nm (i:=1) (by decide)).2;have hnl:1<=x.ev.names.length:=by rw[c.we.nl];decide
 have hnl2:x.ev.names.length<=3:=by rw[c.we.nl];decide
 obtain⟨s',es',hs'⟩:=c.e.n.slm (lo:=some (.i 1)) (hi:=none) (bnds_lo (k:=1) hnl);have et:List.take (x.ev.names.length-1) (List.drop 1 x.ev.names)=x.ev.names.drop 1:=List.take_of_length_le (by simp);rw[et]at hs';have k1:nmE x.ev 1∈mdN V.reg:=c.nk.kn 1 3 rfl;refine Rs (A12 @t0 @t1 @hex @lb @row_4 @row_a @erow_2 @erow_3 @i0 @d0 @i1 @d1) ?_;refine WF.res T.c194 (r194 T (c.o.ext Xx) c.w.len k1) ?_;rintro _ g1 ⟨z,hz,hz1,rfl⟩;unfold mdRow;obtain⟨y,hy⟩:∃y:MdR,y=⟨nmE x.ev 0,(modS V.reg (nmE x.ev 1)).gives,[],x.ev.names.drop 1⟩:=⟨_,rfl⟩;refine Rs (A5 @t0 @t1 @lb @erow_2 @es') ?_;refine WF.res T.c91 (r91 T (hs'.ext Xx) (by simp;omega)) ?_
 rintro t g2 htf;have hyr:mdRow (y,t)=[.str (nmE x.ev 0),.str z.1.gives,.str [],t]:=by rw[hy,hz1];rfl
 have htf:Fr (B++g).length (B++g++[ABlk.b x.row]++g1++g2) t 1 (y.inputs.map strRow):=by rw[hy];exact htf.low (by simp only[List.length_append];omega)
 have ot:=htf.isSl.one;refine Rs (A3 @t0 @t1 @ot) ?_;rw[<-hyr];refine WR.app1 (h0:=B) (cs:=V.mods.map mdRow) (ys:=[mdRow (y,t)]) (((((r.o.i3).app _).app _).app _).app _) (Fr.push (N:=0) (Nat.zero_le _) [mdRow (y,t)] (by simp[mdRow])).isSl (by decide) (by simp) (by have:=c.w.len.l3;simp;omega) Xx ?_;intro g' hl' hff hkp;have hrow:V.mods.map mdRow++[mdRow (y,t)]=(V.mods++[(y,t)]).map mdRow:=by rw[List.map_append];rfl
 rw[hrow]at hff;rw[hrow];have hbl:=r.lt;have hnb:sB V.s3≠some b:=λe=>r.ne (by rw[<-e];simp[RV.bl])
 have hk1:∀i,i<(B++g).length->sB V.s3≠some i->(B++g')[i]? =(B++g)[i]? :=λi hi hne=>by
  rw[hkp i (by simp only[List.length_append]at hi ⊢;omega) (λb0 o n e he z=>hne (by rw[he,z];rfl))];exact(show Ext (B++g) _ from Xx).get hi
 have mB:(B++g')[b]? =some (.b V.row):=(hk1 b hbl hnb).trans r.m;have sB1:=λ(b' o n e:Nat)=>bk_store (i:=4) (v:=.slice b' o n e) mB rfl (by decide)
 refine Rs (A4 @t0 @t1 @sB1 @resAll_0) ?_;refine fin_3 r hff ?_ (λi hi=>by cases hi;exact .inr (by simp only[List.length_append];omega)) hk1 ?_ ?_
 ·refine Fr.low (N:=(B++g).length) ((show Fr (B++g).length _ t 1 _ from htf.app _).sBkeep λi hi=>hkp i ?_ (λb0 o n e he z=>?_)) (by simp)
  ·have:=(htf.sBlt hi).2;simp only[List.length_append]at this ⊢;omega
  ·have h1:=(htf.sBlt hi).1;have h2:=(r.o.i3.sBlt (show sB V.s3=some i by rw[he,z];rfl)).2;omega
 ·intro i hi;have h1:=htf.sBlt hi;refine⟨h1.1,λe=>?_⟩;cases e;have:=h1.2;simp only[List.length_append,List.length_cons,List.length_nil]at this;omega
 ·rw[hy];simp[RV.reg,actK]
def g143(r:RegBk B.length (B++g) b V)(c:Cx (B++g) V x .pict):GCall P 143 [.ptr b 0,.agg x.row] (B++g) (λ_ k=>DoR B b V x.ev .pict k):=by
 refine .st2 32 T.mix T.c143 ?_;intro ts hlen t0 t1;unfold fn143;have hex:=@EvOk.box _ _ c.e;have lb:=@ldx _ _ _ r.m;have i0:iadrF 1 x.sn (.i 0)=_:=(c.nm (i:=0) (by decide)).1;have d0:=@(c.nm (i:=0) (by decide)).2;have i1:iadrF 1 x.sn (.i 1)=_:=(c.nm (i:=1) (by decide)).1;have d1:=@(c.nm (i:=1) (by decide)).2;have k1:nmE x.ev 1∈jbN V.reg:=c.nk.kn 1 4 rfl;refine Rs (A12 @t0 @t1 @hex @lb @row_6 @row_a @erow_2 @erow_3 @i0 @d0 @i1 @d1) ?_;refine WF.res T.c200 (r200 T (c.o.ext Xx) c.w.len k1) ?_;rintro _ g1 ⟨z,hz,hz1,rfl⟩;have hzb:=(c.w.jb z.1 (List.mem_map_of_mem hz)).2;unfold jbRow;refine Rs (A2 @t0 @t1) ?_
 refine WF.ce T.c204 (r204 T ((c.o.e4 z hz).ext Xx) (by omega) hzb.2.2) λg2=>?_
 obtain⟨y,hy⟩:∃y:PcR,y=⟨nmE x.ev 0,nmE x.ev 1,digS (jobS V.reg (nmE x.ev 1)).sums,false⟩:=⟨_,rfl⟩;have hyr:pcRow y=[.str (nmE x.ev 0),.str (nmE x.ev 1),.i (digS z.1.sums),.bool false]:=by rw[hy,hz1];rfl
 refine Rs (A2 @t0 @t1) ?_;rw[<-hyr];refine WR.app1 (h0:=B) (cs:=V.picts.map pcRow) (ys:=[pcRow y]) (((((r.o.i5).app _).app _).app _).app _) (Fr.push (N:=0) (Nat.zero_le _) [pcRow y] (by simp[pcRow])).isSl (by decide) (by simp) (by have:=c.w.len.l5;simp;omega) Xx ?_;intro g' hl' hff hkp;have hrow:V.picts.map pcRow++[pcRow y]=(V.picts++[y]).map pcRow:=by rw[List.map_append];rfl
 rw[hrow]at hff;rw[hrow];have hbl:=r.lt;have hnb:sB V.s5≠some b:=λe=>r.ne (by rw[<-e];simp[RV.bl])
 have hk1:∀i,i<(B++g).length->sB V.s5≠some i->(B++g')[i]? =(B++g)[i]? :=λi hi hne=>by
  rw[hkp i (by simp only[List.length_append]at hi ⊢;omega) (λb0 o n e he z=>hne (by rw[he,z];rfl))];exact(show Ext (B++g) _ from Xx).get hi
 have mB:(B++g')[b]? =some (.b V.row):=(hk1 b hbl hnb).trans r.m;have sB1:=λ(b' o n e:Nat)=>bk_store (i:=6) (v:=.slice b' o n e) mB rfl (by decide)
 refine Rs (A4 @t0 @t1 @sB1 @resAll_0) ?_;exact fin_5 r hff (λi hi=>by cases hi;exact .inr (by simp only[List.length_append];omega)) hk1 (by rw[hy];rfl)
end
end Go.Abs
namespace Go.Abs
def RegBk.upJ{N b h k V}(r:RegBk N h b V){i}(hi:i<V.jobs.length){y}(hy:y.name=V.jobs[i].1.name/\y.mod=V.jobs[i].1.mod)(hf:Fr N k V.jobs[i].2 1 (y.sums.map intRow))
  (hk:∀j,j<h.length->sB V.jobs[i].2≠some j->k[j]? =h[j]?):RegBk N k b {V with jobs:=V.jobs.set i (y,V.jobs[i].2) }:=by
 have hin:∀j,some j∈V.bl->N<=j/\j<h.length:=λj hj=>r.o.blk hj
 have hbl:{V with jobs:=V.jobs.set i (y,V.jobs[i].2) }.bl=V.bl:=by
  simp only[RV.bl,List.map_set];congr 1;have:sB V.jobs[i].2=(V.jobs.map λx=>sB x.2)[i]'(by simpa using hi):=by simp
  rw[this];exact List.set_getElem_self _
 obtain⟨h1,h2,h3⟩:=List.pairwise_append.1 (show Dis (([sB V.s0,sB V.s1,sB V.s2,sB V.s3,sB V.s4,sB V.s5]++(V.shots.map λx=>sB x.2)++(V.mods.map λx=>sB x.2))++(V.jobs.map λx=>sB x.2))from r.o.di);have hmem:sB V.jobs[i].2∈V.jobs.map λx=>sB x.2:=List.mem_map_of_mem (f:=λx:JbR×AV=>sB x.2) (List.getElem_mem hi)
 have kA:∀j,some j∈([sB V.s0,sB V.s1,sB V.s2,sB V.s3,sB V.s4,sB V.s5]++(V.shots.map λx=>sB x.2)++(V.mods.map λx=>sB x.2))->k[j]? =h[j]? :=λj hj=>
  hk j (hin j (by rw[RV.bl];exact List.mem_append.2 (.inl hj))).2 (h3 _ hj _ hmem j rfl)
 have k6:∀j,some j∈[sB V.s0,sB V.s1,sB V.s2,sB V.s3,sB V.s4,sB V.s5]->k[j]? =h[j]? :=λj hj=>kA j (by simp only[List.mem_append];exact .inl (.inl hj))
 have hrow:(V.jobs.set i (y,V.jobs[i].2)).map jbRow=V.jobs.map jbRow:=by
  rw[List.map_set];have:jbRow (y,V.jobs[i].2)=(V.jobs.map jbRow)[i]'(by simpa using hi):=by simp[jbRow,hy.1,hy.2]
  rw[this];exact List.set_getElem_self _
 have own:RegOwn N k {V with jobs:=V.jobs.set i (y,V.jobs[i].2) }:=by
  refine⟨r.o.i0.sBkeep λj hj=>k6 j (by rw[<-hj];simp),r.o.i1.sBkeep λj hj=>k6 j (by rw[<-hj];simp),r.o.i2.sBkeep λj hj=>k6 j (by rw[<-hj];simp),r.o.i3.sBkeep λj hj=>k6 j (by rw[<-hj];simp),?_,r.o.i5.sBkeep λj hj=>k6 j (by rw[<-hj];simp),?_,?_,?_,?_⟩
  ·show Fr N k V.s4 3 ((V.jobs.set i (y,V.jobs[i].2)).map jbRow);rw[hrow];exact r.o.i4.sBkeep λj hj=>k6 j (by rw[<-hj];simp)
  ·exactλx hx=>(r.o.e2 x hx).sBkeep λj hj=>kA j (by rw[<-hj];simp only[List.mem_append,List.mem_map];exact .inl (.inr ⟨x,hx,rfl⟩))
  ·exactλx hx=>(r.o.e3 x hx).sBkeep λj hj=>kA j (by rw[<-hj];simp only[List.mem_append,List.mem_map];exact .inr ⟨x,hx,rfl⟩)
  ·intro x hx;obtain⟨n,hn,rfl⟩:=List.getElem_of_mem hx;have hn':n<V.jobs.length:=by simpa using hn
   by_cases hni:n=i
   ·subst hni;simp only[List.getElem_set_self];exact hf
   ·simp only[List.getElem_set_ne (Ne.symm hni)];refine(r.o.e4 _ (List.getElem_mem hn')).sBkeep λj hj=>hk j ?_ λe=>?_
    ·exact((r.o.e4 _ (List.getElem_mem hn')).sBlt hj).2
    ·have e1:(V.jobs.map λx=>sB x.2)[n]'(by simpa using hn')=some j:=by simpa using hj
     have e2:(V.jobs.map λx=>sB x.2)[i]'(by simpa using hi)=some j:=by simpa using e
     rcases Nat.lt_or_gt_of_ne hni with hlt|hlt
     ·exact List.pairwise_iff_getElem.1 h2 n i (by simpa using hn') (by simpa using hi) hlt j e1 e2
     ·exact List.pairwise_iff_getElem.1 h2 i n (by simpa using hi) (by simpa using hn') hlt j e2 e1
  ·show Dis {V with jobs:=V.jobs.set i (y,V.jobs[i].2) }.bl;rw[hbl];exact r.o.di
 refine⟨own,r.hN,?_,by rw[hbl];exact r.ne⟩;have:sB V.jobs[i].2≠some b:=λe=>r.ne (by rw[<-e,RV.bl];exact List.mem_append.2 (.inr hmem))
 exact(hk b r.lt this).trans r.m
set_option maxRecDepth 10000
attribute [local irreducible] WP WC WE WB WR WF WL WG WRg
section
variable {P:Program}(T:Tbl P) {B g:AHeap}{b:Nat}{V:RV}{x:EV}
include T
def g129(r:RegBk B.length (B++g) b V)(c:Cx (B++g) V x .accept):GCall P 129 [.ptr b 0,.agg x.row] (B++g) (λ_ k=>DoR B b V x.ev .accept k):=by
 refine .st2 19 T.mix T.c129 ?_;intro ts hlen t0 t1;unfold fn129;have hex:=@EvOk.box _ _ c.e;have lb:=@ldx _ _ _ r.m;have i0:iadrF 1 x.sn (.i 0)=_:=(c.nm (i:=0) (by decide)).1;have d0:=@(c.nm (i:=0) (by decide)).2;have hn:nmE x.ev 0∈lnN V.reg:=c.nk.kn 0 0 rfl;have hlt:posS (lnN V.reg) (nmE x.ev 0)<V.lines.length:=by have:=posS_lt hn;simpa [lnN,RV.reg]using this
 have ei:idxS (λy:LnR=>decide (y.name=nmE x.ev 0)) V.lines=(posS (lnN V.reg) (nmE x.ev 0):Int):=idx_in (f:=LnR.name) hn;have ix:iadrF 3 V.s0 (.i (posS (lnN V.reg) (nmE x.ev 0):Int))=some (elp V.s0 3 (posS (lnN V.reg) (nmE x.ev 0)),.keep):=c.o.i0.ixm hlt;have sp:lineS V.reg (nmE x.ev 0)=V.lines[posS (lnN V.reg) (nmE x.ev 0)]:=getN_at hn;refine Rs (A8 @t0 @t1 @hex @lb @row_1 @erow_2 @i0 @d0) ?_;refine WF.ce T.c93 (r93 T (c.o.i0.ext Xx) (by have:=c.w.len.l0;omega) _) λg1=>?_
 rw[ei];refine Rs (A3 @t0 @t1 @ix) ?_;rw[List.append_assoc B g,List.append_assoc B];refine WR.put1 (h0:=B) (x':={V.lines[posS (lnN V.reg) (nmE x.ev 0)]with acc:=true}) (by rw[<-List.append_assoc,<-List.append_assoc];exact(r.o.i0.app _).app _) hlt (by decide) rfl rfl ?_;intro g' hl' hff hkp;have hbl:=r.lt;have hnb:sB V.s0≠some b:=λe=>r.ne (by rw[<-e];simp[RV.bl])
 have hk1:∀i,i<(B++g).length->sB V.s0≠some i->(B++g')[i]? =(B++g)[i]? :=λi hi hne=>by
  rw[hkp i (λb0 o n e he z=>hne (by rw[he,z];rfl)),<-List.append_assoc,<-List.append_assoc];exact(show Ext (B++g) _ from Xx).get hi
 refine Rs (A3 @t0 @t1 @resAll_0) ?_;refine⟨g',{V with lines:=V.lines.set (posS (lnN V.reg) (nmE x.ev 0)) {V.lines[posS (lnN V.reg) (nmE x.ev 0)]with acc:=true},s0:=V.s0},rfl,r.up0 hff (λi hi=>.inl hi) ((hk1 b hbl hnb).trans r.m) (λi hi h1 _=>hk1 i hi h1),?_⟩;simp only[actK,sp];rfl
def g145(r:RegBk B.length (B++g) b V)(c:Cx (B++g) V x .rel):GCall P 145 [.ptr b 0,.agg x.row] (B++g) (λ_ k=>DoR B b V x.ev .rel k):=by
 refine .st2 19 T.mix T.c145 ?_;intro ts hlen t0 t1;unfold fn145;have hex:=@EvOk.box _ _ c.e;have lb:=@ldx _ _ _ r.m;have i0:iadrF 1 x.sn (.i 0)=_:=(c.nm (i:=0) (by decide)).1;have d0:=@(c.nm (i:=0) (by decide)).2;have hn:nmE x.ev 0∈pcN V.reg:=c.nk.kn 0 5 rfl;have hlt:posS (pcN V.reg) (nmE x.ev 0)<V.picts.length:=by have:=posS_lt hn;simpa [pcN,RV.reg]using this
 have ei:idxS (λy:PcR=>decide (y.name=nmE x.ev 0)) V.picts=(posS (pcN V.reg) (nmE x.ev 0):Int):=idx_in (f:=PcR.name) hn;have ix:iadrF 4 V.s5 (.i (posS (pcN V.reg) (nmE x.ev 0):Int))=some (elp V.s5 4 (posS (pcN V.reg) (nmE x.ev 0)),.keep):=c.o.i5.ixm hlt;have sp:pictS V.reg (nmE x.ev 0)=V.picts[posS (pcN V.reg) (nmE x.ev 0)]:=getN_at hn;refine Rs (A8 @t0 @t1 @hex @lb @row_6 @erow_2 @i0 @d0) ?_;refine WF.ce T.c97 (r97 T (c.o.i5.ext Xx) (by have:=c.w.len.l5;omega) _) λg1=>?_
 rw[ei];refine Rs (A3 @t0 @t1 @ix) ?_;rw[List.append_assoc B g,List.append_assoc B];refine WR.put1 (h0:=B) (x':={V.picts[posS (pcN V.reg) (nmE x.ev 0)]with rel:=true}) (by rw[<-List.append_assoc,<-List.append_assoc];exact(r.o.i5.app _).app _) hlt (by decide) rfl rfl ?_;intro g' hl' hff hkp;have hbl:=r.lt;have hnb:sB V.s5≠some b:=λe=>r.ne (by rw[<-e];simp[RV.bl])
 have hk1:∀i,i<(B++g).length->sB V.s5≠some i->(B++g')[i]? =(B++g)[i]? :=λi hi hne=>by
  rw[hkp i (λb0 o n e he z=>hne (by rw[he,z];rfl)),<-List.append_assoc,<-List.append_assoc];exact(show Ext (B++g) _ from Xx).get hi
 refine Rs (A3 @t0 @t1 @resAll_0) ?_;refine⟨g',{V with picts:=V.picts.set (posS (pcN V.reg) (nmE x.ev 0)) {V.picts[posS (pcN V.reg) (nmE x.ev 0)]with rel:=true},s5:=V.s5},rfl,r.up5 hff (λi hi=>.inl hi) ((hk1 b hbl hnb).trans r.m) (λi hi h1 _=>hk1 i hi h1),?_⟩;simp only[actK,sp];rfl
def g201(r:RegBk B.length (B++g) b V){d}(c:Cx (B++g) V x d)(hd:1<valsK d)(h0:0<(rolesK d).length)(hn:nmE x.ev 0∈jbN V.reg)(hlt1:vlE x.ev 1<(jobS V.reg (nmE x.ev 0)).sums.length)(s:Int):
  GCall P 201 [.ptr b 0,.agg x.row,.i s] (B++g) (λ_ k=>∃g' V',k=B++g'/\RegBk B.length (B++g') b V'/\V'.reg={V.reg with jobs:=setJ V.reg x.ev s}):=by
 refine .st3 28 T.mix T.c201 ?_;intro ts hlen t0 t1 t2;unfold fn201;have hex:=@EvOk.box _ _ c.e;have lb:=@ldx _ _ _ r.m;have i0:iadrF 1 x.sn (.i 0)=_:=(c.nm (i:=0) h0).1;have d0:=@(c.nm (i:=0) h0).2;have j1:iadrF 1 x.sv (.i 1)=_:=(c.vl (i:=1) hd).1;have f1:=@(c.vl (i:=1) hd).2.1;have q1:=(c.vl (i:=1) hd).2.2;have hlt:posS (jbN V.reg) (nmE x.ev 0)<V.jobs.length:=by have:=posS_lt hn;simpa [jbN,RV.reg]using this
 have ei:idxS (λy:JbR×AV=>decide (y.1.name=nmE x.ev 0)) V.jobs=(posS (jbN V.reg) (nmE x.ev 0):Int):=(idx_in (f:=λy:JbR×AV=>y.1.name) (by rw[<-names_jb];exact hn)).trans (by rw[names_jb]);have ix:iadrF 3 V.s4 (.i (posS (jbN V.reg) (nmE x.ev 0):Int))=some (elp V.s4 3 (posS (jbN V.reg) (nmE x.ev 0)),.keep):=c.o.i4.ixm hlt;have sp:(V.jobs[posS (jbN V.reg) (nmE x.ev 0)]).1=jobS V.reg (nmE x.ev 0):=by
  have:=getN_at (f:=JbR.name) (l:=V.reg.jobs) (n:=nmE x.ev 0) (d:=noJb) hn;rw[show jobS V.reg (nmE x.ev 0)=_ from this];simp only[RV.reg,List.getElem_map];rfl
 obtain⟨p,hp⟩:∃p,p=posS (jbN V.reg) (nmE x.ev 0):=⟨_,rfl⟩;rw[<-hp]at ei ix;have hlt:p<V.jobs.length:=by rw[hp];exact hlt
 have sp:V.jobs[p].1=jobS V.reg (nmE x.ev 0):=by rw[<-sp];congr 2
 have l2:∀{k:AHeap},Ext (B++g) k->loadF none (elf V.s4 3 p 2) (λb=>k[b]?)=some (V.jobs[p].2,.keep):=λ{k} e=>c.o.i4.lfm hlt rfl e
 have oj:=r.o.e4 _ (List.getElem_mem hlt);have hsl:(vlE x.ev 1).toNat<V.jobs[p].1.sums.length:=by rw[sp];omega
 have ev1:vlE x.ev 1=((vlE x.ev 1).toNat:Int):=by omega
 have iy:iadrF 1 V.jobs[p].2 (.i (vlE x.ev 1))=some (elp V.jobs[p].2 1 (vlE x.ev 1).toNat,.keep):=by
  rw[ev1];exact oj.isSl.ixm hsl
 refine Rs (A9 @t0 @t1 @t2 @hex @lb @row_5 @erow_2 @i0 @d0) ?_;refine WF.ce T.c96 (r96 T (c.o.i4.ext Xx) c.o.ones.2.2 (by have:=c.w.len.l4;omega) _) λg1=>?_
 rw[ei];refine Rs (A9 @t0 @t1 @t2 @ix @l2 @erow_3 @j1 @f1 @iy) ?_;rw[List.append_assoc B g,List.append_assoc B];have hel:elp V.jobs[p].2 1 (vlE x.ev 1).toNat=elf V.jobs[p].2 1 (vlE x.ev 1).toNat 0:=rfl;rw[hel];refine WR.put1 (h0:=B) (x':=s) (row:=intRow) (L:=V.jobs[p].1.sums) (by rw[<-List.append_assoc,<-List.append_assoc];exact(oj.app _).app _) hsl (by decide) rfl rfl ?_;intro g' hl' hff hkp;have hk1:∀i,i<(B++g).length->sB V.jobs[p].2≠some i->(B++g')[i]? =(B++g)[i]? :=λi hi hne=>by
  rw[hkp i (λb0 o n e he z=>hne (by rw[he,z];rfl)),<-List.append_assoc,<-List.append_assoc];exact(show Ext (B++g) _ from Xx).get hi
 refine Rs (A4 @t0 @t1 @t2 @resAll_0) ?_;refine⟨g',{V with jobs:=V.jobs.set p ({V.jobs[p].1 with sums:=V.jobs[p].1.sums.set (vlE x.ev 1).toNat s},V.jobs[p].2) },rfl,r.upJ hlt ⟨rfl,rfl⟩ hff hk1,?_⟩;have e:setJ V.reg x.ev s=(V.jobs.set p ({V.jobs[p].1 with sums:=V.jobs[p].1.sums.set (vlE x.ev 1).toNat s},V.jobs[p].2)).map Prod.fst:=by
  rw[setJ,<-hp,<-sp,List.map_set];rfl
 rw[e];rfl
def g139(r:RegBk B.length (B++g) b V)(c:Cx (B++g) V x .tile)(hc:chkK V.reg x.ev .tile=0):GCall P 139 [.ptr b 0,.agg x.row] (B++g) (λ_ k=>DoR B b V x.ev .tile k):=by
 refine .st2 11 T.mix T.c139 ?_;intro ts hlen t0 t1;unfold fn139;have hex:=@EvOk.box _ _ c.e;have j2:iadrF 1 x.sv (.i 2)=_:=(c.vl (i:=2) (by decide)).1;have f2:=@(c.vl (i:=2) (by decide)).2.1;have k0:nmE x.ev 0∈jbN V.reg:=c.nk.kn 0 4 rfl;have hlt:vlE x.ev 1<(jobS V.reg (nmE x.ev 0)).sums.length:=by
  rw[chkK]at hc;split at hc
  case isTrue hb=>exact absurd hc hb
  case isFalse hb=>
   unfold chkT at hb;split at hb
   ·exact absurd (by decide) hb
   split at hb
   ·exact absurd (by decide) hb
   omega
 refine Rs (A7 @t0 @t1 @hex @erow_a @erow_3 @j2 @f2) ?_;rw[List.append_assoc B g];refine WF.gen T.c201 (g201 T (B:=B) (by rw[<-List.append_assoc];exact r.app _) (by rw[<-List.append_assoc];exact c.ext Xx) (by decide) (by decide) k0 hlt (vlE x.ev 2)) ?_;rintro _ _ ⟨g',V',rfl,h1,h2⟩;refine Rs (A3 @t0 @t1 @resAll_0) ?_;exact⟨g',V',rfl,h1,h2⟩
def g141(r:RegBk B.length (B++g) b V)(c:Cx (B++g) V x .fail)(hc:chkK V.reg x.ev .fail=0):GCall P 141 [.ptr b 0,.agg x.row] (B++g) (λ_ k=>DoR B b V x.ev .fail k):=by
 refine .st2 7 T.mix T.c141 ?_;intro ts hlen t0 t1;unfold fn141;have hex:=@EvOk.box _ _ c.e;have k0:nmE x.ev 0∈jbN V.reg:=c.nk.kn 0 4 rfl;have hlt:vlE x.ev 1<(jobS V.reg (nmE x.ev 0)).sums.length:=by
  rw[chkK]at hc;split at hc
  case isTrue hb=>exact absurd hc hb
  case isFalse hb=>
   unfold chkT at hb;split at hb
   ·exact absurd (by decide) hb
   split at hb
   ·exact absurd (by decide) hb
   omega
 refine Rs (A4 @t0 @t1 @hex @erow_a) ?_;rw[List.append_assoc B g];refine WF.gen T.c201 (g201 T (B:=B) (by rw[<-List.append_assoc];exact r.app _) (by rw[<-List.append_assoc];exact c.ext Xx) (by decide) (by decide) k0 hlt (-1)) ?_;rintro _ _ ⟨g',V',rfl,h1,h2⟩;refine Rs (A3 @t0 @t1 @resAll_0) ?_;exact⟨g',V',rfl,h1,h2⟩
end
end Go.Abs
namespace Go.Abs
def small_bits{k:Nat}(hk:k<=32):binK .and (.int .u64 (k:Int)) (.int .u64 4294967295)=some (.int .u64 (k:Int))/\binK .shr (.int .u64 (k:Int)) (.int .u64 32)=some (.int .u64 0):=by
 have:k=0\/k=1\/k=2\/k=3\/k=4\/k=5\/k=6\/k=7\/k=8\/k=9\/k=10\/k=11\/k=12\/k=13\/k=14\/k=15\/k=16\/k=17\/k=18\/k=19\/k=20\/k=21\/k=22\/k=23\/k=24\/k=25\/k=26\/k=27\/k=28\/k=29\/k=30\/k=31\/k=32:=by omega
 rcases this with rfl|rfl|rfl|rfl|rfl|rfl|rfl|rfl|rfl|rfl|rfl|rfl|rfl|rfl|rfl|rfl|rfl|rfl|rfl|rfl|rfl|rfl|rfl|rfl|rfl|rfl|rfl|rfl|rfl|rfl|rfl|rfl|rfl<;>exact⟨rfl,rfl⟩
def zero_bits:binK .and (.int .u64 0) (.int .u64 4294967295)=some (.int .u64 0)/\binK .shr (.int .u64 0) (.int .u64 32)=some (.int .u64 0):=⟨rfl,rfl⟩
def one_bits:binK .and (.int .u64 1) (.int .u64 4294967295)=some (.int .u64 1)/\binK .shr (.int .u64 1) (.int .u64 32)=some (.int .u64 0):=⟨rfl,rfl⟩
def cpy_in{x y:Opd}{ρ:Opd->AV}{h:AHeap}{b o n m N:Nat}{c:List AV}{tl:Bool}(hx:ρ x=.slice b o n 1)(hy:ρ y=.slice b 0 m 1)(hb:h[b]? =some (.cells c true tl))(hn:o+n<=c.length)(hm:m<=c.length)(h0:0<min m n):
  stepT (.cpy 1 x y) ρ (λz=>h[z]?) N=some (.i (min m n:Nat),.set b (.cells (setL c o (c.take (min m n))) true tl)):=by
 have hc:cellsG 1 (λz=>h[z]?) (ρ y)=some (c.take m,m):=by
  rw[hy];simp only[cellsG,if_true,hb,Nat.zero_add,Nat.mul_one,List.drop_zero];rw[if_pos hm]
 have e:stepT (.cpy 1 x y) ρ (λz=>h[z]?) N=(match ρ x,cellsG 1 (λz=>h[z]?) (ρ y)with
  |.slice b o n es',some (ys,k)=>
   if es' =1 then
    if min k n=0 then some (.i 0,.keep)
    else
     match h[b]? with
     |some (.cells c true tl)=>if o+min k n*1<=c.length then some (.i (min k n:Nat),.set b (.cells (setL c o (ys.take (min k n*1))) true tl))else none
     |_=>none
   else none
  |.nilSlice,some _=>some (.i 0,.keep)
  |_,_=>none):=rfl
 rw[e,hc,hx];simp only[if_true,hb,Nat.mul_one];rw[if_neg (by omega),if_pos (by omega),List.take_take,Nat.min_eq_left (Nat.min_le_left _ _)]
def cpy_one{x y ρ h b n N c v tl}(hx:ρ x=.slice b 0 n 1)(hy:IsSl h (ρ y) 1 [[v]])(hb:h[b]? =some (.cells c true tl))(hn:c.length=n)(h0:0<n):
  stepT (.cpy 1 x y) ρ (λz=>h[z]?) N=some (.i 1,.set b (.cells (c.set 0 v) true tl)):=by
 have hc:=hy.cellsG;have e:stepT (.cpy 1 x y) ρ (λz=>h[z]?) N=(match ρ x,cellsG 1 (λz=>h[z]?) (ρ y)with
  |.slice b o n es',some (ys,k)=>
   if es' =1 then
    if min k n=0 then some (.i 0,.keep)
    else
     match h[b]? with
     |some (.cells c true tl)=>if o+min k n*1<=c.length then some (.i (min k n:Nat),.set b (.cells (setL c o (ys.take (min k n*1))) true tl))else none
     |_=>none
   else none
  |.nilSlice,some _=>some (.i 0,.keep)
  |_,_=>none):=rfl
 have hm:min 1 n=1:=by omega
 rw[e,hc,hx];simp only[if_true,hb,List.length_singleton,hm,Nat.mul_one];rw[if_neg (by decide),if_pos (by omega)];rfl
def setL_rep{v z c m k}(hm:c+m<=k):setL (List.replicate c v++List.replicate (k-c) z) c (List.replicate m v)=List.replicate (c+m) v++List.replicate (k-(c+m)) z:=by
 induction m generalizing c with
 |zero=>rfl
 |succ m ih=>
  rw[List.replicate_succ,setL_cons];have hk:k-c=(k-(c+1))+1:=by omega
  have e:(List.replicate c v++List.replicate (k-c) z).set c v=List.replicate (c+1) v++List.replicate (k-(c+1)) z:=by
   rw[List.set_append_right _ _ (by simp),List.length_replicate,Nat.sub_self,hk,List.replicate_succ,List.set_cons_zero,List.replicate_succ',List.append_assoc];rfl
  rw[e,ih (by omega)];congr 2<;>omega
def take_rep{v z:AV}{c m k:Nat}(hm:m<=c):(List.replicate c v++List.replicate (k-c) z).take m=List.replicate m v:=by
 rw[List.take_append_of_le_length (by simpa using hm),List.take_replicate,Nat.min_eq_left hm]
set_option maxRecDepth 10000
attribute [local irreducible] WP WC WE WB WR WF WL WG WRg
section
variable {P:Program}(T:Tbl P) {h:AHeap}
include T
def r242{k:Nat}(hk:k<=32):RCall P 242 [.int .u64 1,.int .u64 (k:Int)] h (λv _=>v=.tup [.int .u64 0,.int .u64 (k:Int)]):=by
 refine .st2 51 T.mix T.c242 ?_;intro ts hlen t0 t1;unfold fn242;obtain⟨a1,a2⟩:=small_bits hk;obtain⟨b1,b2⟩:=zero_bits;obtain⟨c1,c2⟩:=one_bits;have w1:IntKind.u64.wrap (1*(k:Int))=(k:Int):=by rw[Int.one_mul];exact wrapU64 (by omega) (by omega)
 have w2:IntKind.u64.wrap (0*(k:Int))=0:=by rw[Int.zero_mul];rfl
 have w3:IntKind.u64.wrap (0+0)=0:=rfl;have w4:IntKind.u64.wrap (1*0)=0:=rfl;have w5:IntKind.u64.wrap (0*0)=0:=rfl;exact Rs (A13 @t0 @t1 @a1 @a2 @b1 @b2 @c1 @c2 @w1 @w2 @w3 @w4 @w5) trivial
def r218{k:Nat}(hk:k<=32):RCall P 218 [.int .u64 1,.int .u64 (k:Int)] h (λv _=>v=.tup [.int .u64 0,.int .u64 (k:Int)]):=by
 refine .st2 30 T.mix T.c218 ?_;intro ts hlen t0 t1;unfold fn218;refine Rs (A2 @t0 @t1) ?_;refine WF.ce T.c242 (r242 T hk) λg1=>?_
 exact Rs (A2 @t0 @t1) trivial
def r198{s:AV}(hs:IsSl h s 1 (([-1] :List Int).map intRow)){k:Nat}(hk:k<=32)(hk0:0<k):RCall P 198 [s,.i (k:Int)] h (λv h'=>Fr h.length h' v 1 ((List.replicate k (-1:Int)).map intRow)):=by
 refine .st2 48 T.mix T.c198 ?_;intro ts hlen t0 t1;unfold fn198;have q0:decide ((k:Int)<0)=false:=decide_eq_false (by omega);have hlm:=λG=>hs.lenm G
 have c1:IntKind.u64.wrap ((([-1] :List Int).length:Nat):Int)=1:=rfl;have c2:IntKind.u64.wrap (k:Int)=(k:Int):=wrapU64 (by omega) (by omega);have q1:decide ((0:Int)<0)=false:=rfl;have q2:decide ((9223372036854775807:Int)<(k:Int))=false:=decide_eq_false (by omega);have c3:IntKind.i64.wrap (k:Int)=(k:Int):=wrap_in (by omega) (by omega);have mk:∀{N:Nat},mkslF 1 8 [AV.i 0] (.i (k:Int)) (.i (k:Int)) N=some (.slice N 0 k 1,.push (.cells (zrep k [AV.i 0]) true true)):=mksl_ok (by omega) (by omega);refine Rs (A6 @t0 @t1 @q0 @hlm @c1 @c2) ?_;refine WF.ce T.c218 (r218 T hk) λg1=>?_
 refine Rs (A6 @t0 @t1 @q1 @q2 @c3 @mk) ?_;rw[cpy_one (b:=(h++g1).length) (n:=k) (v:=.i (-1)) (c:=zrep k [AV.i 0]) (tl:=true)]
 rotate_left
 ·exact(Sq @t0)
 ·have:IsSl (h++g1++[ABlk.cells (zrep k [AV.i 0]) true true]) s 1 [[AV.i (-1)]]:=hs.ext Xx;refine Zs @t0 ?_;exact this
 ·exact at_new
 ·rw[zrep_flat,List.flatten_replicate_singleton];simp
 ·exact hk0
 have hz:(zrep k [AV.i 0]).set 0 (.i (-1))=List.replicate 1 (AV.i (-1))++List.replicate (k-1) (AV.i 0):=by
  rw[zrep_flat,List.flatten_replicate_singleton];obtain⟨n,rfl⟩:∃n,k=n+1:=⟨k-1,by omega⟩;rw[List.replicate_succ,List.set_cons_zero];rfl
 rw[hz];refine Rs (A2 @t0 @t1) ?_;obtain⟨b0,hb0⟩:∃b0,b0=(h++g1).length:=⟨_,rfl⟩;rw[<-hb0];have hN:h.length<=b0:=by rw[hb0];simp
 refine WL.inv T.mix (λn ts h'=>∃c:Nat,1<=c/\c<=k/\n=k-c/\h' =h++g1++[ABlk.cells (List.replicate c (AV.i (-1))++List.replicate (k-c) (AV.i 0)) true true]/\ts.length=48/\slot ts 7=.slice b0 0 k 1/\slot ts 8=.i (c:Int)) (k-1)
  ⟨1,by omega,by omega,rfl,rfl,Sn,(Sq @t0),Swr⟩ ?_
 rintro _ ts _ ⟨c,h1,h2,rfl,rfl,hlen,t7,t8⟩;have hb:(h++g1++[ABlk.cells (List.replicate c (AV.i (-1))++List.replicate (k-c) (AV.i 0)) true true])[b0]? =some (.cells (List.replicate c (AV.i (-1))++List.replicate (k-c) (AV.i 0)) true true):=by rw[hb0];exact at_new
 have hln:∀G:Nat->Option ABlk,lenG .sl G (.slice b0 0 k 1)=some k:=λ_=>rfl
 by_cases hlt:c<k
 ·have e3:decide ((c:Int)<(k:Int))=true:=decide_eq_true (by omega);have s1:slF 1 (.slice b0 0 k 1) (some (.i (c:Int))) none=some (.slice b0 c (k-c) 1,.keep):=by
   simp only[slF,if_true,bnds_lo (kk:=.i64) h2,Nat.mul_one,Nat.zero_add]
  have s2:slF 1 (.slice b0 0 k 1) none (some (.i (c:Int)))=some (.slice b0 0 c 1,.keep):=by
   simp only[slF,if_true,bnds_hi (kk:=.i64) h2,Nat.mul_one,Nat.zero_add,Nat.sub_zero]
  refine Rs (A6 @t7 @t8 @hln @e3 @s1 @s2) ?_;rw[cpy_in (b:=b0) (o:=c) (n:=k-c) (m:=c) (c:=List.replicate c (AV.i (-1))++List.replicate (k-c) (AV.i 0)) (tl:=true)]
  rotate_left
  ·exact(Sq @t7)
  ·exact(Sq @t7)
  ·exact hb
  ·rw[List.length_append,List.length_replicate,List.length_replicate];omega
  ·rw[List.length_append,List.length_replicate,List.length_replicate];omega
  ·omega
  rw[take_rep (Nat.min_le_left _ _),setL_rep (by omega)];have hst:∀X:ABlk,(h++g1++[ABlk.cells (List.replicate c (AV.i (-1))++List.replicate (k-c) (AV.i 0)) true true]).set b0 X=h++g1++[X]:=λX=>by rw[hb0];exact set_0
  have hw:IntKind.i64.wrap ((c:Int)+((min c (k-c):Nat):Int))=((c+min c (k-c):Nat):Int):=by rw[wrap_in (by omega) (by omega)];rfl
  refine Rs (A4 @t7 @t8 @hst @hw) ?_;exact⟨_,by omega,c+min c (k-c),by omega,by omega,rfl,rfl,rfl⟩
 ·have e3:decide ((c:Int)<(k:Int))=false:=decide_eq_false (by omega);have e4:c=k:=by omega
  refine Rs (A4 @t7 @t8 @hln @e3) ?_;have hfl:(List.replicate c (AV.i (-1))++List.replicate (k-c) (AV.i 0))=((List.replicate k (-1:Int)).map intRow).flatten:=by
   rw[e4,Nat.sub_self,List.replicate_zero,List.append_nil,List.map_replicate,List.flatten_replicate_singleton]
  have hlr:((List.replicate k (-1:Int)).map intRow).length=k:=by simp
  rw[hfl]at hb;have:=Fr.mk (N:=h.length) (es:=1) (cs:=(List.replicate k (-1:Int)).map intRow) (b:=b0) (tl:=true) hN hb (by simp);rw[hlr]at this;rw[hfl];exact this
end
end Go.Abs
namespace Go.Abs
set_option maxRecDepth 10000
attribute [local irreducible] WP WC WE WB WR WF WL WG WRg
section
variable {P:Program}(T:Tbl P) {B g:AHeap}{b:Nat}{V:RV}{x:EV}
include T
def g137(r:RegBk B.length (B++g) b V)(c:Cx (B++g) V x .run)(hc:chkK V.reg x.ev .run=0):GCall P 137 [.ptr b 0,.agg x.row] (B++g) (λ_ k=>DoR B b V x.ev .run k):=by
 refine .st2 28 T.mix T.c137 ?_;intro ts hlen t0 t1;unfold fn137;have hex:=@EvOk.box _ _ c.e;have lb:=@ldx _ _ _ r.m;have i0:iadrF 1 x.sn (.i 0)=_:=(c.nm (i:=0) (by decide)).1;have d0:=@(c.nm (i:=0) (by decide)).2;have i1:iadrF 1 x.sn (.i 1)=_:=(c.nm (i:=1) (by decide)).1;have d1:=@(c.nm (i:=1) (by decide)).2;have j1:iadrF 1 x.sv (.i 1)=_:=(c.vl (i:=1) (by decide)).1;have f1:=@(c.vl (i:=1) (by decide)).2.1;have q1:=(c.vl (i:=1) (by decide)).2.2;have hn:1<=vlE x.ev 1/\vlE x.ev 1<=32:=by
  rw[chkK]at hc;split at hc
  ·cases hc
  split at hc
  ·cases hc
  case isFalse hr=>exact rangeS_0 hr
 obtain⟨k,hk⟩:∃k:Nat,vlE x.ev 1=(k:Int):=⟨(vlE x.ev 1).toNat,by omega⟩;rw[hk]at f1;obtain⟨y,hy⟩:∃y:JbR,y=⟨nmE x.ev 0,nmE x.ev 1,List.replicate k (-1)⟩:=⟨_,rfl⟩;refine Rs (A13 @t0 @t1 @hex @lb @row_5 @erow_2 @erow_3 @i0 @d0 @i1 @d1 @j1 @f1) ?_;refine WF.res T.c198 (r198 T (s:=.slice (B++g++[ABlk.b x.row]).length 0 1 1) (k:=k) (isSl_ints [-1]) (by omega) (by omega)) ?_;rintro t g1 htf;have hyr:jbRow (y,t)=[.str (nmE x.ev 0),.str (nmE x.ev 1),t]:=by rw[hy];rfl
 have htf:Fr (B++g).length (B++g++[ABlk.b x.row]++[ABlk.cells [AV.i (-1)] true true]++g1) t 1 (y.sums.map intRow):=by rw[hy];exact htf.low (by simp only[List.length_append,List.length_singleton];omega)
 have ot:=htf.isSl.one;refine Rs (A3 @t0 @t1 @ot) ?_;rw[<-hyr];refine WR.app1 (h0:=B) (cs:=V.jobs.map jbRow) (ys:=[jbRow (y,t)]) (((((r.o.i4).app _).app _).app _).app _) (Fr.push (N:=0) (Nat.zero_le _) [jbRow (y,t)] (by simp[jbRow])).isSl (by decide) (by simp) (by have:=c.w.len.l4;simp;omega) Xx ?_;intro g' hl' hff hkp;have hrow:V.jobs.map jbRow++[jbRow (y,t)]=(V.jobs++[(y,t)]).map jbRow:=by rw[List.map_append];rfl
 rw[hrow]at hff;rw[hrow];have hbl:=r.lt;have hnb:sB V.s4≠some b:=λe=>r.ne (by rw[<-e];simp[RV.bl])
 have hk1:∀i,i<(B++g).length->sB V.s4≠some i->(B++g')[i]? =(B++g)[i]? :=λi hi hne=>by
  rw[hkp i (by simp only[List.length_append]at hi ⊢;omega) (λb0 o n e he z=>hne (by rw[he,z];rfl))];exact(show Ext (B++g) _ from Xx).get hi
 have mB:(B++g')[b]? =some (.b V.row):=(hk1 b hbl hnb).trans r.m;have sB1:=λ(b' o n e:Nat)=>bk_store (i:=5) (v:=.slice b' o n e) mB rfl (by decide)
 refine Rs (A4 @t0 @t1 @sB1 @resAll_0) ?_;refine fin_4 r hff ?_ (λi hi=>by cases hi;exact .inr (by simp only[List.length_append,List.length_singleton];omega)) hk1 ?_ ?_
 ·refine Fr.low (N:=(B++g).length) ((show Fr (B++g).length _ t 1 _ from htf.app _).sBkeep λi hi=>hkp i ?_ (λb0 o n e he z=>?_)) (by simp)
  ·have:=(htf.sBlt hi).2;simp only[List.length_append,List.length_singleton]at this ⊢;omega
  ·have h1:=(htf.sBlt hi).1;have h2:=(r.o.i4.sBlt (show sB V.s4=some i by rw[he,z];rfl)).2;omega
 ·intro i hi;have h1:=htf.sBlt hi;refine⟨h1.1,λe=>?_⟩;cases e;have:=h1.2;simp only[List.length_append,List.length_cons,List.length_nil]at this;omega
 ·have e:(vlE x.ev 1).toNat=k:=by omega
  rw[hy];simp[RV.reg,actK,e]
end
end Go.Abs
namespace Go.Abs
section
variable {P:Program}{ro:Option Nat->Prop}{ks:List Kt}{ts:TS}{h:AHeap}{Q:Ex->TS->AHeap->Prop}{S:AHeap->Prop}{K:TS->AHeap->Prop}{l:List IOp}
def WC_opsM(S:AHeap->Prop)(H:WM P S l ts h (kq P ro ks Q .normal)):WC P ro (.opsM l) ks ts h Q:=⟨S,H⟩
def WM_op{o}(hS:S h)(hl:ldQ o=false)(hn:lateAll (o::l)=false)(H:WP P inFn [o] [] ts h (λ_ ts1 h1=>WM P S l ts1 h1 K)):WM P S (o::l) ts h K:=⟨hS,.inr ⟨hn,.inr ⟨hl,H⟩⟩⟩
def WM_late{o}(hS:S h)(hl:lateAll (o::l)=true)(H:WP P ro (o::l) ks ts h Q):WM P S (o::l) ts h (kq P ro ks Q .normal):=⟨hS,.inl ⟨hl,H⟩⟩
def WM_ld{n a d v}(hS:S h)(hv:∀g,S g->loadF n (val ts a) (λb=>g[b]?)=some (v,.keep))(H:WM P S l (put ts d v) h K)(hn:lateAll (({dst:=d,k:=.load n a,gd:=none,q:=true}:IOp)::l)=false:=by rfl):WM P S ({dst:=d,k:=.load n a,gd:=none,q:=true} ::l) ts h K:=by
 refine⟨hS,.inr ⟨hn,.inl ⟨rfl,v,λg hg=>?_,H⟩⟩⟩;refine IStep.run trivial ?_ ?_
 ·cases d<;>trivial
 ·have h1:stepT (.load n a) (val ts) (λb=>g[b]?) g.length=some (v,.keep):=hv g hg;exact stepT_ok h1
end
def RegBk.upS{N b h k V}(r:RegBk N h b V){i}(hi:i<V.shots.length){y t}(hs:Fr N k V.s2 3 ((V.shots.set i (y,t)).map shRow))(ht:Fr N k t 1 (y.tapes.map strRow))(hnt:∀j,sB t=some j->h.length<=j)
  (hk:∀j,j<h.length->sB V.s2≠some j->sB V.shots[i].2≠some j->k[j]? =h[j]?):RegBk N k b {V with shots:=V.shots.set i (y,t) }:=by
 have hin:∀j,some j∈V.bl->N<=j/\j<h.length:=λj hj=>r.o.blk hj
 let l1:List (Option Nat):=[sB V.s0,sB V.s1,sB V.s2,sB V.s3,sB V.s4,sB V.s5]++(V.shots.take i).map λx=>sB x.2
 let l2:List (Option Nat):=(V.shots.drop (i+1)).map (λx=>sB x.2)++(V.mods.map λx=>sB x.2)++(V.jobs.map λx=>sB x.2)
 have hV:V.bl=l1++sB V.shots[i].2::l2:=by
  have e:V.shots=V.shots.take i++V.shots[i]::V.shots.drop (i+1):=by rw[<-List.drop_eq_getElem_cons hi,List.take_append_drop]
  have e2:(V.shots.map λx=>sB x.2)=(V.shots.take i).map (λx=>sB x.2)++sB V.shots[i].2:: (V.shots.drop (i+1)).map (λx=>sB x.2):=by
   conv=>lhs;rw[e]
   simp only[List.map_append,List.map_cons]
  simp only[RV.bl,l1,l2,e2,List.append_assoc,List.cons_append]
 have hV':{V with shots:=V.shots.set i (y,t) }.bl=l1++sB t::l2:=by
  have e2:((V.shots.set i (y,t)).map λx=>sB x.2)=(V.shots.take i).map (λx=>sB x.2)++sB t:: (V.shots.drop (i+1)).map (λx=>sB x.2):=by
   rw[List.set_eq_take_append_cons_drop,if_pos hi];simp only[List.map_append,List.map_cons]
  simp only[RV.bl,l1,l2,e2,List.append_assoc,List.cons_append]
 have hdi:=r.o.di;rw[hV]at hdi;obtain⟨h1,h2,h3⟩:=List.pairwise_append.1 hdi;have h4:=List.pairwise_cons.1 h2;have nti:∀j,some j∈l1\/some j∈l2->sB V.shots[i].2≠some j:=λj hj e=>by
  rcases hj with hj|hj
  ·exact h3 _ hj _ (by simp) j rfl e
  ·exact h4.1 _ hj j e rfl
 have hlt:∀j,some j∈l1\/some j∈l2->j<h.length:=λj hj=>(hin j (by rw[hV];exact mem_mid hj)).2
 have ns2:∀j,(some j∈[sB V.s0,sB V.s1]\/some j∈[sB V.s3,sB V.s4,sB V.s5]++((V.shots.map λx=>sB x.2)++(V.mods.map λx=>sB x.2)++(V.jobs.map λx=>sB x.2)))->sB V.s2≠some j:=λj hj e=>by
  have hd2:Dis ([sB V.s0,sB V.s1]++sB V.s2:: ([sB V.s3,sB V.s4,sB V.s5]++((V.shots.map λx=>sB x.2)++(V.mods.map λx=>sB x.2)++(V.jobs.map λx=>sB x.2)))):=by
   have:=r.o.di;simp only[RV.bl]at this
   simpa using this
  obtain⟨a1,a2,a3⟩:=List.pairwise_append.1 hd2;rcases hj with hj|hj
  ·exact a3 _ hj _ (by simp) j rfl e
  ·exact(List.pairwise_cons.1 a2).1 _ hj j e rfl
 have kp:∀j,(some j∈l1\/some j∈l2)->sB V.s2≠some j->k[j]? =h[j]? :=λj hj hn=>hk j (hlt j hj) hn (nti j hj)
 have own:RegOwn N k {V with shots:=V.shots.set i (y,t) }:=by
  refine⟨r.o.i0.sBkeep λj hj=>kp j (.inl (by rw[<-hj];simp[l1])) (ns2 j (.inl (by rw[<-hj];simp))),r.o.i1.sBkeep λj hj=>kp j (.inl (by rw[<-hj];simp[l1])) (ns2 j (.inl (by rw[<-hj];simp))),hs,
   r.o.i3.sBkeep λj hj=>kp j (.inl (by rw[<-hj];simp[l1])) (ns2 j (.inr (by rw[<-hj];simp))),r.o.i4.sBkeep λj hj=>kp j (.inl (by rw[<-hj];simp[l1])) (ns2 j (.inr (by rw[<-hj];simp))),r.o.i5.sBkeep λj hj=>kp j (.inl (by rw[<-hj];simp[l1])) (ns2 j (.inr (by rw[<-hj];simp))),?_,?_,?_,?_⟩
  ·intro x hx;obtain⟨n,hn,rfl⟩:=List.getElem_of_mem hx;have hn':n<V.shots.length:=by simpa using hn
   by_cases hni:n=i
   ·subst hni;simp only[List.getElem_set_self];exact ht
   ·simp only[List.getElem_set_ne (Ne.symm hni)];refine(r.o.e2 _ (List.getElem_mem hn')).sBkeep λj hj=>kp j ?_ (ns2 j (.inr ?_))
    ·rcases Nat.lt_or_gt_of_ne hni with hlt|hlt
     ·left
      refine List.mem_append.2 (.inr (List.mem_map.2 ⟨V.shots[n],?_,hj⟩));exact List.mem_take_iff_getElem.2 ⟨n,by omega,rfl⟩
     ·right
      simp only[l2,List.mem_append];refine .inl (.inl (List.mem_map.2 ⟨V.shots[n],?_,hj⟩));exact List.mem_drop_iff_getElem.2 ⟨n-(i+1),by omega,by congr 1;omega⟩
    ·simp only[List.mem_append];exact .inr (.inl (.inl (List.mem_map.2 ⟨V.shots[n],List.getElem_mem hn',hj⟩)))
  ·intro x hx;refine(r.o.e3 x hx).sBkeep λj hj=>kp j (.inr ?_) (ns2 j (.inr ?_))
   ·simp only[l2,List.mem_append];exact .inl (.inr (List.mem_map.2 ⟨x,hx,hj⟩))
   ·simp only[List.mem_append];exact .inr (.inl (.inr (List.mem_map.2 ⟨x,hx,hj⟩)))
  ·intro x hx;refine(r.o.e4 x hx).sBkeep λj hj=>kp j (.inr ?_) (ns2 j (.inr ?_))
   ·simp only[l2,List.mem_append];exact .inr (List.mem_map.2 ⟨x,hx,hj⟩)
   ·simp only[List.mem_append];exact .inr (.inr (List.mem_map.2 ⟨x,hx,hj⟩))
  ·show Dis {V with shots:=V.shots.set i (y,t) }.bl;rw[hV'];refine hdi.repl λj hj=>.inr ⟨λz hz e=>?_,λz hz e=>?_⟩
   ·subst e;have:=hlt j (.inl hz);have:=hnt j hj;omega
   ·subst e;have:=hlt j (.inr hz);have:=hnt j hj;omega
 have hne:=r.ne;rw[hV]at hne;refine⟨own,r.hN,?_,λhb=>?_⟩
 ·have n1:sB V.s2≠some b:=λe=>hne (mem_mid (.inl (by rw[<-e];simp[l1])))
  have n2:sB V.shots[i].2≠some b:=λe=>hne (by rw[e];simp)
  exact(hk b r.lt n1 n2).trans r.m
 ·rw[hV']at hb;rcases mem_mid3 hb with z|z|z
  ·exact hne (mem_mid (.inl z))
  ·have:=hnt b z.symm;have:=r.lt;omega
  ·exact hne (mem_mid (.inr z))
set_option maxRecDepth 10000
attribute [local irreducible] WP WC WE WB WR WF WL WG WRg
section
variable {P:Program}(T:Tbl P) {h:AHeap}
include T
def r222{L s}(hs:IsSl h s 1 (L.map strRow))(hl:L.length<2^63)(n:List UInt8):RCall P 222 [s,.str n] h (λv _=>v=.i (idxS (λy=>decide (n=y)) L)):=by
 refine .st2 19 T.mix T.c222 ?_;intro ts hlen t0 t1;unfold fn222;refine Rs (A3 @t0 @t1 hs.lenm) ?_;refine WL.inv T.mix (λm ts h'=>∃k:Nat,k<=L.length/\m=L.length-k/\h' =h/\L.findIdx? (λy=>decide (n=y))=((L.drop k).findIdx? (λy=>decide (n=y))).map (· +k)/\ts.length=19/\slot ts 0=s/\slot ts 1=.str n/\slot ts 7=.i L.length/\slot ts 8=.i k) L.length
  ⟨0,by omega,rfl,rfl,by simp,Sn,(Sq @t0),(Sq @t1),(Sq @t0),Swr⟩ ?_
 rintro _ ts _ ⟨k,hk,rfl,rfl,hi,hlen,t0,t1,t7,t8⟩;by_cases hlt:k<L.length
 ·have hd:L.drop k=L[k]::L.drop (k+1):=by simp
  have e3:=dltT hlt;have ix:=hs.ixm (kk:=.i64) hlt;have ld:=hs.l1m (i:=k) (x:=.str L[k]) hlt rfl (Ext.refl _);have e5:=wrapN (n:=k) (by omega);by_cases hp:n=L[k]
  ·have q:decide (n=L[k])=true:=decide_eq_true hp;refine Rs (A8 @t0 @t1 @t7 @t8 @e3 @ix @ld @q) ?_;rw[idxS,hi,hd,List.findIdx?_cons,q];simp
  ·have q:decide (n=L[k])=false:=decide_eq_false hp;refine Rs (A9 @t0 @t1 @t7 @t8 @e3 @ix @ld @q @e5) ?_;refine⟨_,?_,k+1,by omega,rfl,?_,rfl⟩
   ·omega
   ·rw[hi,hd,List.findIdx?_cons,q];simp only[Bool.false_eq_true,if_false,Option.map_map];congr 1;funext i;simp only[Function.comp];omega
 ·have e3:=dltF hlt;have e4:k=L.length:=by omega
  refine Rs (A5 @t0 @t1 @t7 @t8 @e3) ?_;rw[idxS,hi,e4,List.drop_length];rfl
def r190{L:List (List UInt8)}{s:AV}(hs:IsSl h s 1 (L.map strRow))(hl:L.length<2^63)(n:List UInt8):RCall P 190 [s,.str n] h (λv _=>v=.bool (decide (n∈L))):=by
 refine .st2 9 T.mix T.c190 ?_;intro ts hlen t0 t1;unfold fn190;refine Rs (A2 @t0 @t1) ?_;refine WF.ce T.c222 (r222 T hs hl n) λg1=>?_
 refine Rs (A2 @t0 @t1) ?_;rw[idx_any];congr 1;rw[Bool.eq_iff_iff];simp[List.any_eq_true]
end
end Go.Abs
namespace Go.Abs
set_option maxRecDepth 10000
attribute [local irreducible] WP WC WE WB WR WF WL WG WRg
attribute [local irreducible] WM
section
variable {P:Program}(T:Tbl P) {B g:AHeap}{b:Nat}{V:RV}{x:EV}
include T
def g127(r:RegBk B.length (B++g) b V)(c:Cx (B++g) V x .copy):GCall P 127 [.ptr b 0,.agg x.row] (B++g) (λ_ k=>DoR B b V x.ev .copy k):=by
 refine .st2 50 T.mix T.c127 ?_;intro ts hlen t0 t1;unfold fn127;have hex:=@EvOk.box _ _ c.e;have lb:=@ldx _ _ _ r.m;have i0:iadrF 1 x.sn (.i 0)=_:=(c.nm (i:=0) (by decide)).1;have d0:=@(c.nm (i:=0) (by decide)).2;have i1:iadrF 1 x.sn (.i 1)=_:=(c.nm (i:=1) (by decide)).1;have d1:=@(c.nm (i:=1) (by decide)).2;have hll:V.shots.length<=64:=by have:=c.w.l2;simpa [RV.reg]using this
 have htp:∀y∈V.shots,y.1.tapes.length<2^30:=λy hy=>(c.w.inR.sh y hy).2
 refine Rs (A11 @t0 @t1 @hex @lb @row_3 @erow_2 @i0 @d0 @i1 @d1 c.o.i2.lenm) ?_;obtain⟨a,ha⟩:∃a,a=nmE x.ev 0:=⟨_,rfl⟩;obtain⟨z,hz⟩:∃z,z=nmE x.ev 1:=⟨_,rfl⟩;rw[<-ha,<-hz];refine WL.inv T.mix (λn ts h'=>∃(k:Nat) (g':AHeap) (U:RV),k<=V.shots.length/\n=V.shots.length-k/\h' =B++g'/\RegBk B.length (B++g') b U/\U.s2=V.s2/\U.shots.length=V.shots.length/\
   {U.reg with shots:=V.reg.shots} =V.reg/\(∀i (hi:i<U.shots.length) (hi':i<V.shots.length),(U.shots[i]).1=if i<k then cpyS a z (V.shots[i]).1 else(V.shots[i]).1)/\
   ts.length=50/\slot ts 0=.ptr b 0/\slot ts 4=.str a/\slot ts 5=.str z/\slot ts 19=V.s2/\slot ts 20=.i V.shots.length/\slot ts 21=.i k) V.shots.length
  ⟨0,g++[ABlk.b x.row],V,by omega,rfl,by rw[List.append_assoc],by rw[<-List.append_assoc];exact r.app _,rfl,rfl,rfl,λi hi hi'=>by rw[if_neg (by omega)],Sn,(Sq @t0),(Sq @t0),(Sq @t0),(Sq @t0),(Sq @t0),Swr⟩ ?_
 clear t0 t1 hlen i0 d0 i1 d1 hex lb;clear ts;rintro _ ts _ ⟨k,g',U,hk,rfl,rfl,rU,hs2,hUl,hreg,hU,hlen,t0,t4,t5,t19,t20,t21⟩;by_cases hlt:k<V.shots.length
 ·have hlU:k<U.shots.length:=by omega
  have e3:=dltT hlt;have e5:=wrapN (n:=k) (by omega);have oU:=rU.o.ok;have ix:iadrF 3 V.s2 (.i (k:Int))=some (elp V.s2 3 k,.keep):=by rw[<-hs2];exact oU.i2.ixm hlU
  have ld:∀{k':AHeap},Ext (B++g') k'->loadF (some 3) (elp V.s2 3 k) (λb=>k'[b]?)=some (.agg (shRow U.shots[k]),.keep):=λ{k'} e=>by rw[<-hs2];exact oU.i2.ldm hlU e
  have hxm:U.shots[k]∈U.shots:=List.getElem_mem _;have hx1:(U.shots[k]).1=(V.shots[k]).1:=by rw[hU k hlU hlt,if_neg (by omega)]
  have hxl:(U.shots[k]).1.tapes.length<2^30:=by rw[hx1];exact htp _ (List.getElem_mem _)
  have hfx:=rU.o.e2 _ hxm;have next:∀(U2:RV),U2.shots.length=V.shots.length->(∀i (hi:i<U2.shots.length) (hi':i<U.shots.length),(U2.shots[i]).1=if i=k then cpyS a z (U.shots[i]).1 else(U.shots[i]).1)->
    ∀i (hi:i<U2.shots.length) (hi':i<V.shots.length),(U2.shots[i]).1=if i<k+1 then cpyS a z (V.shots[i]).1 else(V.shots[i]).1:=by
   intro U2 a3 a5 i hi hi';rw[a5 i hi (by omega),hU i (by omega) hi'];by_cases hik:i=k
   ·subst hik;rw[if_pos rfl,if_neg (by omega),if_pos (by omega)]
   ·rw[if_neg hik];by_cases hil:i<k
    ·rw[if_pos hil,if_pos (by omega)]
    ·rw[if_neg hil,if_neg (by omega)]
  obtain⟨y,hy⟩:∃y,y=U.shots[k]:=⟨_,rfl⟩;rw[<-hy]at ld hfx hxl;have oy:=hfx.isSl.one;unfold shRow at ld;refine Rs (A10 @t0 @t4 @t5 @t19 @t20 @t21 @e3 @ix @ld @oy) ?_;refine WF.ce T.c190 (r190 T (hfx.isSl.ext Xx) (by omega) a) λg1=>?_
  by_cases h1:a∈y.1.tapes
  case neg=>
   have q1:decide (a∈y.1.tapes)=false:=decide_eq_false h1;rw[q1];refine Rs (A7 @t0 @t4 @t5 @t19 @t20 @t21 @e5) ?_;have hap:B++g'++[ABlk.b [AV.str y.1.name,.str y.1.line,y.2]]++g1=B++(g'++[ABlk.b [AV.str y.1.name,.str y.1.line,y.2]]++g1):=by simp only[List.append_assoc]
   refine⟨_,by omega,k+1,_,U,by omega,rfl,hap,by rw[<-hap];exact(rU.app _).app _,hs2,hUl,hreg,next U hUl (λi hi hi'=>?_),rfl⟩;split
   ·rename_i hik;subst hik;rw[<-hy,cpyS,if_neg (λw=>h1 w.1)]
   ·rfl
  have q1:decide (a∈y.1.tapes)=true:=decide_eq_true h1;rw[q1];refine Rs (A6 @t0 @t4 @t5 @t19 @t20 @t21) ?_;refine WF.ce T.c190 (r190 T (hfx.isSl.ext Xx) (by omega) z) λg2=>?_
  by_cases h2:z∈y.1.tapes
  ·have q2:decide (z∈y.1.tapes)=true:=decide_eq_true h2;rw[q2];refine Rs (A8 @t0 @t4 @t5 @t19 @t20 @t21 @Bool.not_true @e5) ?_;have hap:B++g'++[ABlk.b [AV.str y.1.name,.str y.1.line,y.2]]++g1++g2=B++(g'++[ABlk.b [AV.str y.1.name,.str y.1.line,y.2]]++g1++g2):=by simp only[List.append_assoc]
   refine⟨_,by omega,k+1,_,U,by omega,rfl,hap,by rw[<-hap];exact((rU.app _).app _).app _,hs2,hUl,hreg,next U hUl (λi hi hi'=>?_),rfl⟩;split
   ·rename_i hik;subst hik;rw[<-hy,cpyS,if_neg (λw=>w.2 h2)]
   ·rfl
  have q2:decide (z∈y.1.tapes)=false:=decide_eq_false h2;rw[q2];refine Rs (A7 @t0 @t4 @t5 @t19 @t20 @t21 @Bool.not_false) ?_;obtain⟨xb,hxb⟩:∃xb,xb=(B++g').length:=⟨_,rfl⟩;obtain⟨G,hG⟩:∃G,G=g'++[ABlk.b [AV.str y.1.name,.str y.1.line,y.2]]++g1++g2:=⟨_,rfl⟩;have hap:B++g'++[ABlk.b [AV.str y.1.name,.str y.1.line,y.2]]++g1++g2=B++G:=by rw[hG];simp only[List.append_assoc]
  have hex:Ext (B++g') (B++G):=by rw[<-hap];exact Xx
  have mx:(B++G)[xb]? =some (.b [AV.str y.1.name,.str y.1.line,y.2]):=by
   rw[<-hap,hxb,List.append_assoc _ g1,List.getElem?_append_left (by simp),List.getElem?_append_right (by omega)];simp
  have mb:(B++G)[b]? =some (.b U.row):=hex.some rU.m;have hfx2:Fr B.length (B++G) y.2 1 (y.1.tapes.map strRow):=by rw[<-hap];exact((hfx.app _).app _).app _
  have hs22:Fr B.length (B++G) V.s2 3 (U.shots.map shRow):=by rw[<-hap,<-hs2];exact((rU.o.i2.app _).app _).app _
  rw[hap,<-hxb];refine WC_opsM (λh=>h[b]? =some (.b U.row)/\h[xb]? =some (.b [AV.str y.1.name,.str y.1.line,y.2])) ?_;have hS:(λh:AHeap=>h[b]? =some (.b U.row)/\h[xb]? =some (.b [AV.str y.1.name,.str y.1.line,y.2])) (B++G):=⟨mb,mx⟩;refine WM_op hS rfl rfl ?_;refine Rs @t0 ?_;refine WM_op hS rfl rfl ?_;refine Rs @t0 ?_;refine WM_op hS rfl rfl ?_;refine Rs @t0 ?_;refine WM_ld hS (v:=V.s2) (λg hg=>?_) ?_
  ·simp only[wset,hset,dset,bset,Nat.reduceAdd,Nat.reduceMul,Nat.reduceLeDiff,Nat.reduceEqDiff,pset,hlen,if_false,if_true,t0,loadF_at hg.1,row_3,hs2]
  refine Rs @t0 ?_;refine WM_op hS rfl rfl ?_;refine Rs @t0 ?_;refine WM_op hS rfl rfl ?_;refine Rs @t0 ?_;refine WM_ld hS (v:=y.2) (λg hg=>?_) ?_
  ·simp only[wset,hset,dset,bset,Nat.reduceAdd,Nat.reduceMul,Nat.reduceLeDiff,Nat.reduceEqDiff,pset,hlen,if_false,if_true,t0,loadF_at hg.2]
  refine Rs @t0 ?_;refine WM_op hS rfl rfl ?_;refine Rs (A2 @t0 @t5) ?_;obtain⟨zr,hzr⟩:∃zr,zr=strRow z:=⟨_,rfl⟩;have hS2:(λh:AHeap=>h[b]? =some (.b U.row)/\h[xb]? =some (.b [AV.str y.1.name,.str y.1.line,y.2])) (B++G++[ABlk.cells [.str z] true true]):=⟨(Ext.app _ (Ext.refl _)).some mb,(Ext.app _ (Ext.refl _)).some mx⟩;have hxlt:xb<(B++G).length:=by
   rw[<-hap,hxb];simp only[List.length_append,List.length_cons,List.length_nil];omega
  refine WM_op hS rfl rfl ?_;refine Rs @t0 ?_;refine WM_op hS2 rfl rfl ?_;refine Rs @t0 ?_;refine WR.app1 (h0:=B) (cs:=y.1.tapes.map strRow) (ys:=[strRow z]) (hfx2.app _) (Fr.push (N:=0) (Nat.zero_le _) [strRow z] (by simp[strRow])).isSl (by decide) (by simp) (by simp only[List.length_map,List.length_cons,List.length_nil];omega) (by rw[List.append_assoc];exact⟨_,rfl⟩) ?_;intro g3 hl3 hff hkp;have hrow:y.1.tapes.map strRow++[strRow z]=(y.1.tapes++[z]).map strRow:=by rw[List.map_append];rfl
  rw[hrow]at hff;rw[hrow];obtain⟨t',ht'⟩:∃t',t' =AV.slice (B++G++[ABlk.cells [.str z] true true]).length 0 ((y.1.tapes++[z]).map strRow).length 1:=⟨_,rfl⟩;rw[<-ht']at hff;rw[<-ht'];have o1:t'.one=true:=by rw[ht'];rfl
  have hGl:(B++g').length<=(B++G).length:=hex.len;have hty:sB t' =some (B++G++[ABlk.cells [.str z] true true]).length:=by rw[ht'];rfl
  have hbl:=rU.lt;have hyb:sB y.2≠some b:=λe=>rU.ne (by rw[<-e,RV.bl,hy];simp only[List.mem_append,List.mem_map];exact .inl (.inl (.inr ⟨_,hxm,rfl⟩)))
  have hyl:∀i,sB y.2=some i->i<xb:=λi hi=>by rw[hxb];exact(hfx.sBlt hi).2
  have hk3:∀i,i<(B++G).length->sB y.2≠some i->(B++g3)[i]? =(B++G)[i]? :=λi hi hne=>by
   rw[hkp i (by simp only[List.length_append]at hi ⊢;omega) (λb0 o n e he z=>hne (by rw[he,z];rfl)),List.getElem?_append_left hi]
  have hS3:(λh:AHeap=>h[b]? =some (.b U.row)/\h[xb]? =some (.b [AV.str y.1.name,.str y.1.line,y.2])) (B++g3):=
   ⟨(hk3 b (by omega) hyb).trans mb,(hk3 xb hxlt (λe=>by have:=hyl _ e;omega)).trans mx⟩
  have hsy:∀j,sB V.s2=some j->sB y.2≠some j:=λj hj e=>by
   have hd2:Dis ([sB U.s0,sB U.s1]++sB U.s2:: ([sB U.s3,sB U.s4,sB U.s5]++((U.shots.map λx=>sB x.2)++(U.mods.map λx=>sB x.2)++(U.jobs.map λx=>sB x.2)))):=by
    have:=rU.o.di;simp only[RV.bl]at this
    simpa using this
   obtain⟨_,a2,_⟩:=List.pairwise_append.1 hd2;refine(List.pairwise_cons.1 a2).1 (sB y.2) ?_ j (by rw[hs2];exact hj) e;simp only[List.mem_append,List.mem_map];exact .inr (.inl (.inl ⟨_,hxm,by rw[<-hy]⟩))
  have hs23:Fr B.length (B++g3) V.s2 3 (U.shots.map shRow):=hs22.sBkeep λi hi=>hk3 i (hs22.sBlt hi).2 (hsy i hi)
  refine Rs @t0 ?_;refine WM_late hS3 rfl ?_;refine Rs (A3 @t0 @ix @o1) ?_;have hkU:k<U.shots.length:=hlU;refine WR.put1 (h0:=B) (x':=(⟨y.1.name,y.1.line,y.1.tapes++[z]⟩,t')) (row:=shRow) hs23 hlU (by decide) o1 (by rw[<-hy];rfl) ?_;intro g4 hl4 hff4 hkp4;have hk4:∀i,i<(B++g').length->sB V.s2≠some i->sB y.2≠some i->(B++g4)[i]? =(B++g')[i]? :=λi hi n1 n2=>by
   rw[hkp4 i (λb0 o n e he z=>n1 (by rw[he,z];rfl)),hk3 i (by omega) n2];exact hex.get hi
  have nb2:sB V.s2≠some b:=λe=>rU.ne (by rw[<-e,<-hs2];simp[RV.bl])
  have ht4:Fr B.length (B++g4) t' 1 ((y.1.tapes++[z]).map strRow):=hff.sBkeep λi hi=>by
   rw[hty]at hi;cases hi;refine hkp4 _ (λb0 o n e he zz=>?_);have:=(rU.o.i2.sBlt (show sB U.s2=some b0 by rw[hs2,he];rfl)).2;have h3:(B++g').length<=(B++G++[ABlk.cells [.str z] true true]).length:=by simp only[List.length_append]at hGl ⊢;omega
   omega
  refine Rs (A7 @t0 @t4 @t5 @t19 @t20 @t21 @e5) ?_;refine⟨_,by omega,k+1,g4,{U with shots:=U.shots.set k (⟨y.1.name,y.1.line,y.1.tapes++[z]⟩,t') },by omega,rfl,rfl,rU.upS hlU (by rw[hs2];exact hff4) ht4 (λj hj=>?_) (λj hj n1 n2=>hk4 j hj (by rw[<-hs2];exact n1) (by rw[hy];exact n2)),hs2,(by simp only[List.length_set];exact hUl),hreg,next _ (by simp only[List.length_set];exact hUl) (λi hi hi'=>?_),rfl⟩
  ·rw[hty]at hj;cases hj;simp only[List.length_append]at hGl ⊢;omega
  ·by_cases hik:i=k
   ·subst hik;simp only[List.getElem_set_self,if_true];rw[<-hy,cpyS,if_pos ⟨h1,h2⟩]
   ·rw[if_neg hik];simp only[List.getElem_set_ne (Ne.symm hik)]
 ·have e3:decide ((k:Int)<V.shots.length)=false:=decide_eq_false (by omega);have e4:k=V.shots.length:=by omega
  refine Rs (A8 @t0 @t4 @t5 @t19 @t20 @t21 @e3 @resAll_0) ?_;refine⟨g',U,rfl,rU,?_⟩;have hsh:U.reg.shots=V.reg.shots.map (cpyS a z):=by
   refine List.ext_getElem (by simp[RV.reg,hUl]) λi h1 h2=>?_
   have hi:i<U.shots.length:=by simpa [RV.reg]using h1
   have:=hU i hi (by omega);rw[if_pos (by omega)]at this
   simpa [RV.reg]using this
  have heq:∀A C:Reg,{A with shots:=C.shots} =C->A={C with shots:=A.shots}:=by
   intro A C h;cases A;cases C;simp_all
  have:=heq _ _ hreg;rw[this,hsh,actK,ha,hz]
end
end Go.Abs
namespace Go.Abs
def HV.now(V:HV):RV:=V.regs.getLastD RV.zero
def HV.now_reg(V:HV):V.now.reg=V.hst.now:=by
 rw[HV.now,HV.hst,Hst.now];show _=(V.regs.map RV.reg).getLastD Reg.zero;rw[List.getLastD_eq_getLast?,List.getLastD_eq_getLast?,List.getLast?_map];cases V.regs.getLast? <;>rfl
structure HRd(h:AHeap)(b:Nat)(V:HV):Prop where
 hb:h[b]? =some (.b [V.se,V.sc,V.sr])
 ie:IsSl h V.se 5 (V.evs.map EV.row)
 ic:IsSl h V.sc 5 (V.cnt.map EV.row)
 ig:IsSl h V.sr 7 (V.regs.map RV.row)
 ae:∀x∈V.evs,EvOk h x
 ac:∀x∈V.cnt,EvOk h x
 ag:∀x∈V.regs,RegOk h x
theorem HRd.ext{h k b V}(o:HRd h b V)(e:Ext h k):HRd k b V:=
 ⟨e.some o.hb,o.ie.ext e,o.ic.ext e,o.ig.ext e,λx hx=>(o.ae x hx).ext e,λx hx=>(o.ac x hx).ext e,λx hx=>(o.ag x hx).ext e⟩
def HstOk.rd{N h b V}(o:HstOk N h b V):HRd h b V:=
 ⟨o.hb,o.oe.isSl,o.oc.isSl,o.og.isSl,λx hx=>(o.ae x hx).sub (SubH.msk _ _),λx hx=>(o.ac x hx).sub (SubH.msk _ _),λx hx=>(o.ag x hx).sub (SubH.msk _ _)⟩
theorem HRd.now{h b V}(o:HRd h b V):RegOk h V.now:=by
 rw[HV.now,List.getLastD_eq_getLast?];cases hx:V.regs.getLast? with
 |none=>exact RegOk.zero
 |some R=>exact o.ag R (List.mem_of_getLast? hx)
def RegOk.st{h V}(o:RegOk h V){b a0 a1 a2 a3 a4 a5 a6 tl}:stB 7 0 (.agg V.row) b (.cells [a0,a1,a2,a3,a4,a5,a6] true tl)=some (undefA,.set b (.cells V.row true tl)):=by
 refine(stB_agg (l:=V.row) rfl o.row (by show 0+7<=7;omega)).trans ?_;rfl
def EvOk.st{h x}(o:EvOk h x){b a0 a1 a2 a3 a4 tl}:stB 5 0 (.agg x.row) b (.cells [a0,a1,a2,a3,a4] true tl)=some (undefA,.set b (.cells x.row true tl)):=by
 refine(stB_agg (l:=x.row) rfl o.row (by show 0+5<=5;omega)).trans ?_;rfl
def kdD_eq{e d}(hd:d≠.undo):e.kind=kdName d↔kdD e=d:=by
 rw[kdD];constructor
 ·intro h;rw[h,kdOf_name];rfl
 ·intro h;cases hk:kdOf e.kind with
  |none=>rw[hk]at h;exact absurd h.symm hd
  |some c=>rw[hk]at h;cases h;exact kdOf_some hk
structure WfH(H:Hst):Prop where
 rg:∀R∈H.regs,WfR R
 ln:H.regs.length=H.cnt.length
 le:H.cnt.length<=H.evs.length
 ev:∀e∈H.evs,∃d,WfE e d
 cn:∀e∈H.cnt,∃d,WfE e d
theorem WfH.zero:WfH Hst.zero:=by
 refine⟨?_,rfl,Nat.le_refl _,?_,?_⟩
 all_goals intro x hx;cases hx
theorem WfH.now{H}(w:WfH H):WfR H.now:=by
 rw[Hst.now,List.getLastD_eq_getLast?];cases hx:H.regs.getLast? with
 |none=>exact WfR.zero
 |some R=>exact w.rg R (List.mem_of_getLast? hx)
set_option maxRecDepth 10000
attribute [local irreducible] WP WC WE WB WR WF WL WG WRg
section
variable {P:Program}(T:Tbl P)
include T
def WF_kdDo{B g b V x d ro ks ts Q dd l}(hd:d≠.undo)(r:RegBk B.length (B++g) b V)(c:Cx (B++g) V x d)(hc:chkK V.reg x.ev d=0)(gl:Gl (B++g))
  (K:∀v h',DoR B b V x.ev d h'->WP P ro l ks (put ts dd v) h' Q):WF P ro false (kdDo d) [.ptr b 0,.agg x.row] dd l ks ts (B++g) Q:=by
 cases d with
 |undo=>exact absurd rfl hd
 |line=>exact WF.gen (a:=[]) (c:=[]) T.c118 (g118 T r c) K
 |tape=>exact WF.gen (a:=[]) (c:=[]) T.c121 (g121 T r c) K
 |shot=>exact WF.gen (a:=[]) (c:=[]) T.c125 (g125 T r c) K
 |copy=>exact WF.gen (a:=[]) (c:=[]) T.c127 (g127 T r c) K
 |accept=>exact WF.gen (a:=[]) (c:=[]) T.c129 (g129 T r c) K
 |source=>exact WF.gen (a:=[]) (c:=[]) T.c131 (g131 T r c) K
 |modl=>exact WF.gen (a:=[]) (c:=[]) T.c133 (g133 T r c hc gl) K
 |merge=>exact WF.gen (a:=[]) (c:=[]) T.c135 (g135 T r c) K
 |run=>exact WF.gen (a:=[]) (c:=[]) T.c137 (g137 T r c hc) K
 |tile=>exact WF.gen (a:=[]) (c:=[]) T.c139 (g139 T r c hc) K
 |fail=>exact WF.gen (a:=[]) (c:=[]) T.c141 (g141 T r c hc) K
 |pict=>exact WF.gen (a:=[]) (c:=[]) T.c143 (g143 T r c) K
 |rel=>exact WF.gen (a:=[]) (c:=[]) T.c145 (g145 T r c) K
variable {h:AHeap}
def r28{V b}(o:HRd h b V)(hl:V.regs.length<=1000):RCall P 28 [.ptr b 0] h (λv _=>v=.agg V.now.row):=by
 refine .st1 20 T.mix T.c28 ?_;intro ts hlen t0;unfold fn28;have hb:=o.hb;have lb:=@ldx _ _ _ hb;refine Rs (A3 @t0 @lb o.ig.lenm) ?_;rcases List.eq_nil_or_concat V.regs with hn|⟨L,R,hn⟩
 ·have hlen0:V.regs.length=0:=by rw[hn];rfl
  have e1:decide ((0:Int)<(V.regs.length:Int))=false:=decide_eq_false (by omega);refine Rs (A2 @t0 @e1) ?_;rw[HV.now,hn];rfl
 ·have hlenR:V.regs.length=L.length+1:=by rw[hn];simp
  have e1:decide ((0:Int)<(V.regs.length:Int))=true:=decide_eq_true (by omega);have e2:IntKind.i64.wrap ((V.regs.length:Int)-1)=(L.length:Int):=by rw[wrap_in (by omega) (by omega)];omega
  have hLl:L.length<V.regs.length:=by omega
  have ix:=o.ig.ixm (kk:=.i64) hLl;have ld:∀{k':AHeap},Ext h k'->_:=λ{k'} e=>o.ig.ldm hLl e
  have hR:V.regs[L.length]=R:=by simp only[hn];simp
  rw[hR]at ld;have st:=@RegOk.st h R (o.ag R (by rw[hn];simp));refine Rs (A8 @t0 @e1 @e2 @lb @ix @ld @st @row_a) ?_;rw[HV.now,hn];simp
def r35{V b x d}(o:HRd h b V)(w:WfH V.hst)(hl:V.evs.length<=1000)(ox:EvOk h x)(wx:WfE x.ev d)(gl:Gl h):
  RCall P 35 [.ptr b 0,.agg x.row] h (λv _=>v=.i (accS V.hst x.ev)):=by
 have hcl:V.cnt.length<=V.evs.length:=by have:=w.le;simpa [HV.hst]using this
 have hrl:V.regs.length=V.cnt.length:=by have:=w.ln;simpa [HV.hst]using this
 refine .st2 106 T.mix T.c35 ?_;intro ts hlen t0 t1;unfold fn35;have hb:=o.hb;have lb:=@ldx _ _ _ hb;have hex:=@EvOk.box _ _ ox;have ew:IntKind.i64.wrap ((V.evs.length:Int)+1)=(V.evs.length:Int)+1:=wrap_in (by omega) (by omega);by_cases h1:x.ev.num=(V.evs.length:Int)+1
 case neg=>
  have q1:decide (x.ev.num≠(V.evs.length:Int)+1)=true:=decide_eq_true h1;refine Rs (A8 @t0 @t1 @lb @hex @erow_0 o.ie.lenm @ew @q1) ?_;rw[accS,if_pos (by simpa [HV.hst]using h1)]
 have q1:decide (x.ev.num≠(V.evs.length:Int)+1)=false:=decide_eq_false (λz=>z h1);have hkd:kdD x.ev=d:=by rw[kdD,wx.kd];rfl
 rw[accS,if_neg (by simpa [HV.hst]using h1),hkd];by_cases h2:d=.undo
 ·have q2:decide (x.ev.kind=[117,110,100,111])=true:=decide_eq_true (by rw[kdOf_some wx.kd,h2];rfl);rw[if_pos h2];refine Rs (A11 @t0 @t1 @lb @hex @erow_0 @erow_1 o.ie.lenm o.ic.lenm @ew @q1 @q2) ?_;rcases List.eq_nil_or_concat V.cnt with hn|⟨L,c,hn⟩
  ·have hlen0:V.cnt.length=0:=by rw[hn];rfl
   have e1:decide ((V.cnt.length:Int)=0)=true:=decide_eq_true (by omega);refine Rs (A2 @t0 @e1) ?_;simp only[HV.hst,hn];rfl
  ·have hlenR:V.cnt.length=L.length+1:=by rw[hn];simp
   have e1:decide ((V.cnt.length:Int)=0)=false:=decide_eq_false (by omega);have e2:IntKind.i64.wrap ((V.cnt.length:Int)-1)=(L.length:Int):=by rw[wrap_in (by omega) (by omega)];omega
   have hLl:L.length<V.cnt.length:=by omega
   have ix:=o.ic.ixm (kk:=.i64) hLl;have hR:V.cnt[L.length]=c:=by simp only[hn];simp
   have lf:∀{k':AHeap},Ext h k'->loadF none (elf V.sc 5 L.length 1) (λb=>k'[b]?)=some (.str c.ev.kind,.keep):=λ{k'} e=>by
    refine o.ic.lfm hLl ?_ e;rw[hR];rfl
   refine Rs (A6 @t0 @e1 @e2 @lb @ix @lf) ?_;refine WF.ce T.c34 (r34 T _ _) λg1=>?_
   refine Rs @t0 ?_;have e3:decide (c.ev.kind=[114,101,108,101,97,115,101])=decide (kdD c.ev=.rel):=decide_eq_decide.2 (kdD_eq (d:=.rel) (by decide));have e4:V.hst.cnt.getLast? =some c.ev:=by simp[HV.hst,hn]
   rw[e3,e4];by_cases h5:kdD c.ev=.rel<;>simp[whenS,h5]
 have q2:decide (x.ev.kind=[117,110,100,111])=false:=decide_eq_false λz=>h2 (by
  have:=wx.kd;rw[z]at this;exact(Option.some.inj ((kdOf_name .undo).symm.trans this)).symm)
 rw[if_neg h2,<-V.now_reg];have wn:WfR V.now.reg:=by rw[V.now_reg];exact w.now
 have on:=o.now;have ltk:0<valsK d:=by cases d<;>first|exact absurd rfl h2|decide
 have hvl:0<x.ev.vals.length:=by rw[wx.vl];exact ltk
 have ix0:iadrF 1 x.sv (.i 0)=some (elp x.sv 1 0,.keep):=ox.v.ix0 hvl;have ev0:vlE x.ev 0=x.ev.vals[0]:=by rw[vlE,List.getD_eq_getElem?_getD,List.getElem?_eq_getElem hvl];rfl
 have ld0:∀{k':AHeap},Ext h k'->loadF none (elp x.sv 1 0) (λb=>k'[b]?)=some (.i (vlE x.ev 0),.keep):=λ{k'} e=>by
  rw[ev0];exact ox.v.l1m hvl rfl e
 refine Rs (A11 @t0 @t1 @lb @hex @erow_0 @erow_1 o.ie.lenm o.ic.lenm @ew @q1 @q2) ?_;refine WF.ce T.c28 (r28 T (o.ext Xx) (by omega)) λg1=>?_
 have st:=@RegOk.st h V.now on;rw[errS];by_cases h3:vlE x.ev 0<V.now.reg.tick
 ·have q3:decide (vlE x.ev 0<V.now.tick)=true:=decide_eq_true h3;refine Rs (A8 @t0 @t1 @st @row_0 @erow_3 @ix0 @ld0 @q3) ?_;rw[if_pos h3]
 have q3:decide (vlE x.ev 0<V.now.tick)=false:=decide_eq_false h3;rw[if_neg h3];refine Rs (A8 @t0 @t1 @st @row_0 @erow_3 @ix0 @ld0 @q3) ?_;refine WF.res T.c65 (r65 T) ?_;rintro _ g2 ⟨vf,rfl,hk⟩;obtain⟨H,hH⟩:∃H,H=h++[ABlk.b x.row]++g1++[ABlk.b V.now.row]:=⟨_,rfl⟩;obtain⟨eb,heb⟩:∃eb,eb=h.length:=⟨_,rfl⟩;obtain⟨rb,hrb⟩:∃rb,rb=(h++[ABlk.b x.row]++g1).length:=⟨_,rfl⟩;have mr:(H++g2)[rb]? =some (.b V.now.row):=by rw[hH,hrb];exact(Ext.app _ (Ext.refl _)).some at_new
 have me:(H++g2)[eb]? =some (.b x.row):=by rw[hH,heb];exact(show Ext (h++[ABlk.b x.row]) _ from Xx).some at_new
 rw[<-hH]at hk ⊢;rw[<-heb,<-hrb];have lk:∀{z:AV},lookF .s z false (.map H.length) (.str x.ev.kind) (λb=>(H++g2)[b]?)=lookR z false ((kdOf x.ev.kind).map vf):=hk.look;rw[wx.kd]at lk;have lk':∀{z:AV},_=some (vf d,Eff.keep):=@lk;obtain⟨rs,a,hv,hr,ha,hab⟩:=(hk.k d).ex;rw[hv]at lk';have c1:=kdChk_one d;have c2:=kdDo_one d;have c3:=hr.one;have le:=@ldx _ _ _ me;have lr:=@ldx _ _ _ mr;refine Rs (A12 @t0 @t1 @le @erow_1 @stepT_look @lk' @c1 @c2 @c3 @ha hr.lenm @one_nf) ?_;obtain⟨L,hL⟩:∃L,L=rolesK d:=⟨_,rfl⟩;have hnl:x.ev.names.length=L.length:=by rw[hL];exact wx.nl
 have hLl:L.length<=3:=by rw[hL];cases d<;>decide
 have hL6:∀r∈L,r.1<6:=by rw[hL];cases d<;>decide
 rw[<-hL]at hr ⊢;obtain⟨kb,hkb⟩:∃kb,kb=(H++g2).length:=⟨_,rfl⟩;have hex:Ext h (H++g2):=by rw[hH];exact Xx
 have hx2:Ext (H++g2) (H++g2++[ABlk.b [rs,.i (valsK d:Int),kdChk d,kdDo d,a]]):=Xx;have mk:(H++g2++[ABlk.b [rs,.i (valsK d:Int),kdChk d,kdDo d,a]])[kb]? =some (.b [rs,.i (valsK d:Int),kdChk d,kdDo d,a]):=by rw[hkb];exact at_new
 obtain⟨H2,hH2⟩:∃H2,H2=H++g2++[ABlk.b [rs,.i (valsK d:Int),kdChk d,kdDo d,a]]:=⟨_,rfl⟩;rw[<-hH2]at mk hx2;have hx3:Ext h H2:=hex.trans hx2;have lk:=@ldx _ _ _ mk;rw[<-hH2,<-hkb];have hlm:∀(i:Nat) (hi:i<L.length),iadrF 1 x.sn (.i (i:Int))=some (elp x.sn 1 i,.keep):=λi hi=>ox.n.ixm (by omega)
 have hld:∀(i:Nat) (hi:i<L.length) (k':AHeap),Ext h k'->loadF none (elp x.sn 1 i) (λb=>k'[b]?)=some (.str (nmE x.ev i),.keep):=λi hi k' e=>by
  have hi':i<x.ev.names.length:=by omega
  have:nmE x.ev i=x.ev.names[i]:=by rw[nmE,List.getD_eq_getElem?_getD,List.getElem?_eq_getElem hi'];rfl
  rw[this];exact ox.n.l1m hi' rfl e
 refine WL.inv T.mix (λm ts h'=>∃k:Nat,k<=L.length/\m=L.length-k/\Ext H2 h'/\unkS V.now.reg x.ev L 0=unkS V.now.reg x.ev (L.drop k) k/\ts.length=106/\slot ts 3=.ptr eb 0/\slot ts 6=.ptr rb 0/\slot ts 7=.ptr kb 0/\slot ts 56=rs/\slot ts 57=.i L.length/\slot ts 58=.i k) L.length
  ⟨0,by omega,rfl,.refl _,rfl,Sn,Sw,Sw,Sw,Sw,Sw,Swr⟩ ?_
 clear t0 t1 hlen lb hb hex le lr;clear ts;rintro _ ts h' ⟨k,hk,rfl,hxt,hu,hlen,t3,t6,t7,t56,t57,t58⟩;have le:∀{k' n a},Ext h' k'->loadF n (.ptr eb a) (λz=>k'[z]?)=ldB n a (.b x.row):=λ{_ _ _} e=>loadF_at (((hx2.trans hxt).trans e).some me)
 have lr:∀{k' n a},Ext h' k'->loadF n (.ptr rb a) (λz=>k'[z]?)=ldB n a (.b V.now.row):=λ{_ _ _} e=>loadF_at (((hx2.trans hxt).trans e).some mr)
 by_cases hlt:k<L.length
 ·have e3:=dltT hlt;have e5:=wrapN (n:=k) (by omega);have ix:=hr.ixm (kk:=.i64) hlt;have ld:∀{k'},Ext h' k'->loadF (some 2) (elp rs 2 k) (λb=>k'[b]?)=some (.agg (roRow L[k]),.keep):=λ{k'} e=>hr.ldm hlt ((hx2.trans hxt).trans e)
  have iy:=hlm k hlt;have ly:∀{k'},Ext h' k'->loadF none (elp x.sn 1 k) (λb=>k'[b]?)=some (.str (nmE x.ev k),.keep):=λ{k'} e=>hld k hlt k' ((hx3.trans hxt).trans e)
  have hd:L.drop k=L[k]::L.drop (k+1):=by simp
  obtain⟨r,hrr⟩:∃r,r=L[k]:=⟨_,rfl⟩;have hr6:r.1<6:=by rw[hrr];exact hL6 _ (List.getElem_mem _)
  rw[hd,<-hrr,unkS]at hu;rw[<-hrr,roRow]at ld;cases hr2:r.2 with
  |false=>
   rw[hr2]at ld hu;refine Rs (A10 @t3 @t6 @t7 @t56 @t57 @t58 @e3 @ix @ld @e5) ?_;refine⟨_,by omega,k+1,by omega,rfl,hxt.trans Xx,hu,rfl⟩
  |true=>
   rw[hr2]at ld hu;refine Rs (A15 @t3 @t6 @t7 @t56 @t57 @t58 @e3 @ix @ld @iy @ly @le @lr @row_a @erow_2) ?_;refine WF.ce T.c46 (r46 T ((on.ext (hx3.trans hxt)).ext Xx) wn.len hr6 _) λg3=>?_
   cases hh:hasS V.now.reg r.1 (nmE x.ev k)with
   |true=>
    rw[hh]at hu;refine Rs (A8 @t3 @t6 @t7 @t56 @t57 @t58 @Bool.not_true @e5) ?_;refine⟨_,by omega,k+1,by omega,rfl,hxt.trans Xx,hu,rfl⟩
   |false=>
    rw[hh]at hu;have hu1:unkS V.now.reg x.ev L 0=true:=by rw[hu];rfl
    refine Rs (A7 @t3 @t6 @t7 @t56 @t57 @t58 @Bool.not_false) ?_;refine⟨(hx3.trans hxt).trans Xx,?_⟩;have e6:nmsS d V.now.reg x.ev=10:=by rw[nmsS,<-hL,if_pos hu1]
    rw[e6,if_pos (by decide)]
 ·have e3:=dltF hlt;have e4:k=L.length:=by omega
  have hu0:unkS V.now.reg x.ev L 0=false:=by rw[hu,e4,List.drop_length];rfl
  have lk2:∀{k' n a'},Ext h' k'->loadF n (.ptr kb a') (λz=>k'[z]?)=ldB n a' (.b [rs,.i (valsK d:Int),kdChk d,kdDo d,a]):=λ{_ _ _} e=>lk (hxt.trans e)
  refine Rs (A9 @t3 @t6 @t7 @t56 @t57 @t58 @e3 @lk2 hr.lenm) ?_;have hrH:IsSl h' rs 2 (L.map roRow):=hr.ext (hx2.trans hxt);refine WL.inv T.mix (λm ts h''=>∃k:Nat,k<=L.length/\m=L.length-k/\Ext h' h''/\twcS V.now.reg x.ev L 0=twcS V.now.reg x.ev (L.drop k) k/\ts.length=106/\slot ts 3=.ptr eb 0/\slot ts 6=.ptr rb 0/\slot ts 7=.ptr kb 0/\slot ts 79=rs/\slot ts 80=.i L.length/\slot ts 81=.i k) L.length
   ⟨0,by omega,rfl,.refl _,rfl,Sn,(Sq @t3),(Sq @t6),(Sq @t7),Sw,Sw,Swr⟩ ?_
  clear t3 t6 t7 t56 t57 t58 hlen le lr lk2 e3 e4 hu lk;clear hlt hk ts k;rintro _ ts h'' ⟨k,hk,rfl,hyt,hu,hlen,t3,t6,t7,t79,t80,t81⟩;have le:∀{k' n a},Ext h'' k'->loadF n (.ptr eb a) (λz=>k'[z]?)=ldB n a (.b x.row):=λ{_ _ _} e=>loadF_at ((((hx2.trans hxt).trans hyt).trans e).some me)
  have lr:∀{k' n a},Ext h'' k'->loadF n (.ptr rb a) (λz=>k'[z]?)=ldB n a (.b V.now.row):=λ{_ _ _} e=>loadF_at ((((hx2.trans hxt).trans hyt).trans e).some mr)
  have lk2:∀{k' n a'},Ext h'' k'->loadF n (.ptr kb a') (λz=>k'[z]?)=ldB n a' (.b [rs,.i (valsK d:Int),kdChk d,kdDo d,a]):=λ{_ _ _} e=>loadF_at (((hxt.trans hyt).trans e).some mk)
  by_cases hlt:k<L.length
  ·have e3:=dltT hlt;have e5:=wrapN (n:=k) (by omega);have ix:=hr.ixm (kk:=.i64) hlt;have ld:∀{k'},Ext h'' k'->loadF (some 2) (elp rs 2 k) (λb=>k'[b]?)=some (.agg (roRow L[k]),.keep):=λ{k'} e=>hrH.ldm hlt (hyt.trans e)
   have iy:=hlm k hlt;have ly:∀{k'},Ext h'' k'->loadF none (elp x.sn 1 k) (λb=>k'[b]?)=some (.str (nmE x.ev k),.keep):=λ{k'} e=>hld k hlt k' (((hx3.trans hxt).trans hyt).trans e)
   have hd:L.drop k=L[k]::L.drop (k+1):=by simp
   obtain⟨r,hrr⟩:∃r,r=L[k]:=⟨_,rfl⟩;have hr6:r.1<6:=by rw[hrr];exact hL6 _ (List.getElem_mem _)
   rw[hd,<-hrr,twcS]at hu;rw[<-hrr,roRow]at ld;cases hr2:r.2 with
   |true=>
    rw[hr2]at ld hu;refine Rs (A11 @t3 @t6 @t7 @t79 @t80 @t81 @e3 @ix @ld @e5 @Bool.not_true) ?_;refine⟨_,by omega,k+1,by omega,rfl,hyt.trans Xx,hu,rfl⟩
   |false=>
    rw[hr2]at ld hu;refine Rs (A16 @t3 @t6 @t7 @t79 @t80 @t81 @e3 @ix @ld @iy @ly @le @lr @row_a @erow_2 @Bool.not_false) ?_;refine WF.ce T.c46 (r46 T ((on.ext ((hx3.trans hxt).trans hyt)).ext Xx) wn.len hr6 _) λg3=>?_
    cases hh:hasS V.now.reg r.1 (nmE x.ev k)with
    |false=>
     rw[hh]at hu;refine Rs (A7 @t3 @t6 @t7 @t79 @t80 @t81 @e5) ?_;refine⟨_,by omega,k+1,by omega,rfl,hyt.trans Xx,hu,rfl⟩
    |true=>
     rw[hh]at hu;have hu1:twcS V.now.reg x.ev L 0=true:=by rw[hu];rfl
     refine Rs (A6 @t3 @t6 @t7 @t79 @t80 @t81) ?_;refine⟨((hx3.trans hxt).trans hyt).trans Xx,?_⟩;have e6:nmsS d V.now.reg x.ev=9:=by rw[nmsS,<-hL,if_neg (by rw[hu0];decide),if_pos hu1]
     rw[e6,if_pos (by decide)]
  ·have e3:=dltF hlt;have e4:k=L.length:=by omega
   have hw0:twcS V.now.reg x.ev L 0=false:=by rw[hu,e4,List.drop_length];rfl
   have e6:nmsS d V.now.reg x.ev=0:=by rw[nmsS,<-hL,if_neg (by rw[hu0];decide),if_neg (by rw[hw0];decide)]
   rw[e6,if_neg (by decide)];have hxx:=(hx3.trans hxt).trans hyt;refine Rs (A12 @t3 @t6 @t7 @t79 @t80 @t81 @e3 @lk2 @lr @le @row_a @erow_a) ?_;refine WF.val (c_kd T h2 ⟨on.ext hxx,wn,ox.ext hxx,wx,nms_0 e6⟩ (gl.ext hxx)) ?_;rintro _ g4 rfl;refine Rs @t3 ?_;exact⟨hxx.trans Xx,trivial⟩
end
end Go.Abs
namespace Go.Abs
def AdR(B h0:AHeap)(b:Nat)(V:HV)(e:Evt)(v:AV)(k:AHeap):Prop:=∃g' V',k=B++g'/\v=.i (badS V.hst e)/\HstOk B.length (B++g') b V'/\V'.hst=(if badS V.hst e=0 then addS V.hst e else V.hst)/\(∀i,i<h0.length->some i∉V.ex b->(B++g')[i]? =h0[i]?)/\∀j,some j∈V'.ex b->some j∈V.ex b\/h0.length<=j
def AdR.no{B g g1 b V e}(o:HstOk B.length (B++g) b V)(h:badS V.hst e≠0){n}(hn:n=badS V.hst e):AdR B (B++g) b V e (.i n) (B++g++g1):=
 ⟨g++g1,V,by rw[List.append_assoc],by rw[hn],by rw[<-List.append_assoc];exact o.app _,by rw[if_neg h],λi hi _=>by rw[<-List.append_assoc,List.getElem?_append_left hi],λj hj=>.inl hj⟩
def EvOk.bsl{h x}(o:EvOk h x){M}:bslF 5 1 (fillA [.i 0,.str [],.nilSlice,.nilSlice,.str []] [(0,5,.agg x.row)]) M=some (.slice M 0 1 5,.push (.cells x.row true true)):=bsl_ok (c:=x.row) o.row rfl (by decide)
def RegOk.bsl{h V}(o:RegOk h V){M}:bslF 7 1 (fillA [.i 0,.nilSlice,.nilSlice,.nilSlice,.nilSlice,.nilSlice,.nilSlice] [(0,7,.agg V.row)]) M=some (.slice M 0 1 7,.push (.cells V.row true true)):=bsl_ok (c:=V.row) o.row rfl (by decide)
theorem EvOk.msk{h x}(o:EvOk h x){ex}(h1:∀j,sB x.sn=some j->some j∉ex)(h2:∀j,sB x.sv=some j->some j∉ex):EvOk (Go.Abs.msk ex h) x:=⟨o.n.msk h1,o.v.msk h2⟩
theorem RegOk.msk{h V}(o:RegOk h V){ex}(hx:∀j,some j∈V.bl->some j∉ex):RegOk (Go.Abs.msk ex h) V:=by
 have m6:∀x∈[sB V.s0,sB V.s1,sB V.s2,sB V.s3,sB V.s4,sB V.s5],x∈V.bl:=λx hx=>by simp only[RV.bl,List.mem_append];exact .inl (.inl (.inl hx))
 refine⟨o.i0.msk λb hb=>hx b (hb▸m6 _ (by simp)),o.i1.msk λb hb=>hx b (hb▸m6 _ (by simp)),o.i2.msk λb hb=>hx b (hb▸m6 _ (by simp)),o.i3.msk λb hb=>hx b (hb▸m6 _ (by simp)),o.i4.msk λb hb=>hx b (hb▸m6 _ (by simp)),o.i5.msk λb hb=>hx b (hb▸m6 _ (by simp)),
  λx hx1=>(o.e2 x hx1).msk λb hb=>hx b ?_,λx hx1=>(o.e3 x hx1).msk λb hb=>hx b ?_,λx hx1=>(o.e4 x hx1).msk λb hb=>hx b ?_⟩
 ·simp only[RV.bl,List.mem_append,List.mem_map];exact .inl (.inl (.inr ⟨x,hx1,hb⟩))
 ·simp only[RV.bl,List.mem_append,List.mem_map];exact .inl (.inr ⟨x,hx1,hb⟩)
 ·simp only[RV.bl,List.mem_append,List.mem_map];exact .inr ⟨x,hx1,hb⟩
def dis4{a b c d}:Dis [a,b,c,d]↔(∀i,a=some i->b≠some i/\c≠some i/\d≠some i)/\(∀i,b=some i->c≠some i/\d≠some i)/\∀i,c=some i->d≠some i:=by
 simp only[Dis,List.pairwise_cons,List.mem_cons,List.not_mem_nil,or_false,forall_eq_or_imp,forall_eq,List.Pairwise.nil,and_true,false_implies,implies_true];constructor
 ·rintro⟨⟨h1,h2,h3⟩,⟨h4,h5⟩,h6⟩;exact⟨λi hi=>⟨h1 i hi,h2 i hi,h3 i hi⟩,λi hi=>⟨h4 i hi,h5 i hi⟩,h6⟩
 ·rintro⟨h1,h2,h3⟩;exact⟨⟨λi hi=>(h1 i hi).1,λi hi=>(h1 i hi).2.1,λi hi=>(h1 i hi).2.2⟩,⟨λi hi=>(h2 i hi).1,λi hi=>(h2 i hi).2⟩,h3⟩
def pre_app{B h:AHeap}(hl:B.length<=h.length)(hk:∀i,i<B.length->h[i]? =B[i]?):∃g,h=B++g:=by
 refine⟨h.drop B.length,List.ext_getElem? λi=>?_⟩;by_cases hi:i<B.length
 ·rw[hk i hi,List.getElem?_append_left hi]
 ·rw[List.getElem?_append_right (by omega),List.getElem?_drop,Nat.add_sub_cancel' (by omega)]
def setB_app{B h:AHeap}{b:Nat}{X:ABlk}(hN:B.length<=b)(hh:∃g,h=B++g):∃g,h.set b X=B++g:=by
 obtain⟨g,rfl⟩:=hh;exact⟨_,List.set_append_right _ _ hN⟩
def RegBk.tk{B g b V}(r:RegBk B.length (B++g) b V)(t:Int):∃g',(B++g).set b (.b (V.row.set 0 (.i t)))=B++g'/\RegBk B.length (B++g') b {V with tick:=t}:=by
 obtain⟨h1,h2,h3⟩:=bk_set (.b (V.row.set 0 (.i t))) r.hN r.m;refine⟨_,h1,?_,r.hN,h2,r.ne⟩;have:=r.o.keep (k:=B++g.set (b-B.length) (.b (V.row.set 0 (.i t)))) λi hi=>h3 i λe=>r.ne (e▸hi)
 exact⟨this.i0,this.i1,this.i2,this.i3,this.i4,this.i5,this.e2,this.e3,this.e4,this.di⟩
section
variable {N b:Nat}{h h':AHeap}{V:HV}
def HstOk.lt(o:HstOk N h b V):b<h.length:=(List.getElem?_eq_some_iff.1 o.hb).1
def HstOk.exlt(o:HstOk N h b V){j}(hj:some j∈V.ex b):j<h.length:=by
 simp only[HV.ex,List.mem_cons,List.not_mem_nil,or_false,Option.some.injEq]at hj;rcases hj with hj|hj|hj|hj
 ·rw[hj];exact o.lt
 ·exact(o.oe.sBlt hj.symm).2
 ·exact(o.oc.sBlt hj.symm).2
 ·exact(o.og.sBlt hj.symm).2
def HstOk.upE(o:HstOk N h b V){s' x'}(hk:∀i,i<h.length->sB V.se≠some i->i≠b->h'[i]? =h[i]?)(hs:Ow N h' s' 5 ((V.evs++[x']).map EV.row))(hb:h'[b]? =some (.b [s',V.sc,V.sr]))
  (hn:∀i,sB s' =some i->h.length<=i) (hx:EvOk (msk (V.ex b) h) x'):HstOk N h' b {V with evs:=V.evs++[x'],se:=s'}:=by
 obtain⟨d1,d2,d3⟩:=dis4.1 o.di;have hbl:=o.lt;have hsub:SubH (msk (V.ex b) h) (msk ({V with evs:=V.evs++[x'],se:=s'}.ex b) h'):=by
  refine sub_msk (λi hi hne=>hk i hi (λe=>hne (by simp[HV.ex,e])) (λe=>hne (by simp[HV.ex,e]))) λi hi hm=>?_
  simp only[HV.ex,List.mem_cons,List.not_mem_nil,or_false,Option.some.injEq]at hm ⊢;rcases hm with hm|hm|hm|hm
  ·exact .inl hm
  ·have:=hn i hm.symm;omega
  ·exact .inr (.inr (.inl hm))
  ·exact .inr (.inr (.inr hm))
 refine⟨o.hN,hb,hs,o.oc.sBkeep λi hi=>?_,o.og.sBkeep λi hi=>?_,dis4.2 ⟨λi hi=>?_,λi hi=>?_,d3⟩,λx hx1=>?_,λx hx1=>(o.ac x hx1).sub hsub,λx hx1=>(o.ag x hx1).sub hsub,o.lo⟩
 ·exact hk i (o.oc.sBlt hi).2 (λe=>(d2 i e).1 hi) (λe=>(d1 b rfl).2.1 (by rw[<-e];exact hi))
 ·exact hk i (o.og.sBlt hi).2 (λe=>(d2 i e).2 hi) (λe=>(d1 b rfl).2.2 (by rw[<-e];exact hi))
 ·cases hi;exact⟨λe=>by have:=hn b e;omega,(d1 b rfl).2⟩
 ·have h1:=hn i hi;exact⟨λe=>by have:=(o.oc.sBlt e).2;omega,λe=>by have:=(o.og.sBlt e).2;omega⟩
 ·rcases List.mem_append.1 hx1 with hx1|hx1
  ·exact(o.ae x hx1).sub hsub
  ·rw[List.mem_singleton]at hx1;rw[hx1];exact hx.sub hsub
def HstOk.upU(o:HstOk N h b V){sc' sr' n m}(hk:∀i,i<h.length->i≠b->h'[i]? =h[i]?)(hc:Ow N h' sc' 5 ((V.cnt.take n).map EV.row))(hr:Ow N h' sr' 7 ((V.regs.take m).map RV.row))(hb:h'[b]? =some (.b [V.se,sc',sr']))
  (nc:sB sc' =sB V.sc) (nr:sB sr' =sB V.sr):HstOk N h' b {V with cnt:=V.cnt.take n,regs:=V.regs.take m,sc:=sc',sr:=sr'}:=by
 obtain⟨d1,d2,d3⟩:=dis4.1 o.di;have he:{V with cnt:=V.cnt.take n,regs:=V.regs.take m,sc:=sc',sr:=sr'}.ex b=V.ex b:=by simp only[HV.ex,nc,nr]
 have hsub:SubH (msk (V.ex b) h) (msk ({V with cnt:=V.cnt.take n,regs:=V.regs.take m,sc:=sc',sr:=sr'}.ex b) h'):=by
  rw[he];exact sub_msk (λi hi hne=>hk i hi (λe=>hne (by simp[HV.ex,e]))) λi hi hm=>hm
 refine⟨o.hN,hb,o.oe.sBkeep λi hi=>hk i (o.oe.sBlt hi).2 (λe=>(d1 b rfl).1 (by rw[<-e];exact hi)),hc,hr,by rw[he];exact o.di,λx hx1=>(o.ae x hx1).sub hsub,λx hx1=>(o.ac x (List.mem_of_mem_take hx1)).sub hsub,λx hx1=>(o.ag x (List.mem_of_mem_take hx1)).sub hsub,λx hx1=>o.lo x (List.mem_of_mem_take hx1)⟩
def HstOk.upC(o:HstOk N h b V){sc' sr' x' R'}(hk:∀i,i<h.length->sB V.sc≠some i->sB V.sr≠some i->i≠b->h'[i]? =h[i]?)(hc:Ow N h' sc' 5 ((V.cnt++[x']).map EV.row))(hr:Ow N h' sr' 7 ((V.regs++[R']).map RV.row))(hb:h'[b]? =some (.b [V.se,sc',sr']))
  (nc:∀i,sB sc' =some i->h.length<=i) (nr:∀i,sB sr' =some i->h.length<=i) (ncr:∀i,sB sc' =some i->sB sr'≠some i) (hx:EvOk (msk (V.ex b) h) x') (hR:RegOk (msk (V.ex b) h) R') (hlo:∀j,some j∈R'.bl->N<=j):HstOk N h' b {V with cnt:=V.cnt++[x'],regs:=V.regs++[R'],sc:=sc',sr:=sr'}:=by
 obtain⟨d1,d2,d3⟩:=dis4.1 o.di;have hbl:=o.lt;have hsub:SubH (msk (V.ex b) h) (msk ({V with cnt:=V.cnt++[x'],regs:=V.regs++[R'],sc:=sc',sr:=sr'}.ex b) h'):=by
  refine sub_msk (λi hi hne=>hk i hi (λe=>hne (by simp[HV.ex,e])) (λe=>hne (by simp[HV.ex,e])) (λe=>hne (by simp[HV.ex,e]))) λi hi hm=>?_
  simp only[HV.ex,List.mem_cons,List.not_mem_nil,or_false,Option.some.injEq]at hm ⊢;rcases hm with hm|hm|hm|hm
  ·exact .inl hm
  ·exact .inr (.inl hm)
  ·have:=nc i hm.symm;omega
  ·have:=nr i hm.symm;omega
 refine⟨o.hN,hb,o.oe.sBkeep λi hi=>?_,hc,hr,dis4.2 ⟨λi hi=>?_,λi hi=>?_,ncr⟩,λx hx1=>(o.ae x hx1).sub hsub,λx hx1=>?_,λx hx1=>?_,λx hx1=>?_⟩
 ·exact hk i (o.oe.sBlt hi).2 (λe=>(d2 i hi).1 e) (λe=>(d2 i hi).2 e) (λe=>(d1 b rfl).1 (by rw[<-e];exact hi))
 ·cases hi;exact⟨(d1 b rfl).1,λe=>by have:=nc b e;omega,λe=>by have:=nr b e;omega⟩
 ·have h1:=(o.oe.sBlt hi).2;exact⟨λe=>by have:=nc i e;omega,λe=>by have:=nr i e;omega⟩
 ·rcases List.mem_append.1 hx1 with hx1|hx1
  ·exact(o.ac x hx1).sub hsub
  ·rw[List.mem_singleton]at hx1;rw[hx1];exact hx.sub hsub
 ·rcases List.mem_append.1 hx1 with hx1|hx1
  ·exact(o.ag x hx1).sub hsub
  ·rw[List.mem_singleton]at hx1;rw[hx1];exact hR.sub hsub
 ·rcases List.mem_append.1 hx1 with hx1|hx1
  ·exact o.lo x hx1
  ·rw[List.mem_singleton]at hx1;rw[hx1];exact hlo
end
set_option maxRecDepth 10000
attribute [local irreducible] WP WC WE WB WR WF WL WG WRg
section
variable {P:Program}(T:Tbl P)
include T
def g51{B g:AHeap}{V:HV}{b:Nat}{x:EV}(o:HstOk B.length (B++g) b V)(w:WfH V.hst)(hl:V.evs.length<1000)(ox:EvOk (B++g) x)(hxl:x.ev.names.length<=2^40/\x.ev.vals.length<=2^40)(gl:Gl B):
  GCall P 51 [.ptr b 0,.agg x.row] (B++g) (λv k=>AdR B (B++g) b V x.ev v k):=by
 have hcl:V.cnt.length<=V.evs.length:=by have:=w.le;simpa [HV.hst]using this
 have hrl:V.regs.length=V.cnt.length:=by have:=w.ln;simpa [HV.hst]using this
 refine .st2 94 T.mix T.c51 ?_;intro ts hlen t0 t1;unfold fn51;have hbx:=@EvOk.box _ _ ox;have gl':Gl (B++g):=gl.ext ⟨g,rfl⟩;refine Rs (A4 @t0 @t1 @hbx @erow_a) ?_;refine WF.ce T.c33 (r33 T (ox.ext Xx) hxl) λg1=>?_
 by_cases h1:chkE x.ev=0
 case neg=>
  have q1:decide (chkE x.ev≠0)=true:=decide_eq_true h1;refine Rs (A3 @t0 @t1 @q1) ?_;have e:badS V.hst x.ev=chkE x.ev:=by rw[badS,if_pos h1]
  rw[List.append_assoc (B++g)];exact AdR.no o (by rw[e];exact h1) e.symm
 have q1:decide (chkE x.ev≠0)=false:=decide_eq_false (λz=>z h1);obtain⟨d,wx⟩:=chkE_0 h1;have eb:badS V.hst x.ev=accS V.hst x.ev:=by rw[badS,if_neg (λz=>z h1)]
 refine Rs (A4 @t0 @t1 @q1 @erow_a) ?_;refine WF.ce T.c35 (r35 T (d:=d) (o.rd.ext Xx) w (by omega) (ox.ext Xx) wx (gl'.ext Xx)) λg2=>?_
 by_cases h2:accS V.hst x.ev=0
 case neg=>
  have q2:decide (accS V.hst x.ev≠0)=true:=decide_eq_true h2;refine Rs (A3 @t0 @t1 @q2) ?_;rw[List.append_assoc (B++g),List.append_assoc (B++g)];exact AdR.no o (by rw[eb];exact h2) eb.symm
 have q2:decide (accS V.hst x.ev≠0)=false:=decide_eq_false (λz=>z h2);rw[<-eb]at h2;refine Rs (A4 @t0 @t1 @q2 @erow_a) ?_;refine WF.res T.c45 (r45 T x (ox.ext Xx) hxl) ?_;rintro _ g3 ⟨x',hx',rfl,fn,fv⟩;have ox':EvOk _ x':=⟨by rw[hx'];exact fn.isSl,by rw[hx'];exact fv.isSl⟩;have st:∀{b':Nat},stB 5 0 (.agg x'.row) b' (.b x.row)=some (undefA,.set b' (.b x'.row)):=λ{_}=>ox'.st
 refine Rs (A3 @t0 @t1 @st) ?_;obtain⟨H,hH⟩:∃H,H=B++g++[ABlk.b x'.row]++g1++g2++g3:=⟨_,rfl⟩;have hHg:∃gH,H=B++gH:=⟨_,by rw[hH];simp only[List.append_assoc];rfl⟩;obtain⟨gH,hHB⟩:=hHg;have hex:Ext (B++g) H:=by rw[hH];exact Xx
 have oH:HstOk B.length H b V:=by obtain⟨z,hz⟩:=hex;rw[hz];exact o.app z
 have keep:∀j,(B++g).length+1<=j->H[j]? =(B++g++[ABlk.b x.row]++g1++g2++g3)[j]? :=λj hj=>by
  rw[hH];simp only[List.append_assoc];have e:∀C:ABlk,(B++(g++([C]++(g1++(g2++g3)))))[j]? =(g1++(g2++g3))[j-B.length-g.length-1]? :=λC=>by
   simp only[List.length_append]at hj;rw[List.getElem?_append_right (by omega),List.getElem?_append_right (by omega),List.getElem?_append_right (by simp only[List.length_singleton];omega)];rfl
  rw[e,e]
 obtain⟨N,hN⟩:∃N,N=(B++g).length:=⟨_,rfl⟩;have fnl:=λj (hj:sB x'.sn=some j)=>fn.sBlt hj
 have fvl:=λj (hj:sB x'.sv=some j)=>fv.sBlt hj
 have hHl:H.length=(B++g++[ABlk.b x.row]++g1++g2++g3).length:=by rw[hH];simp only[List.length_append,List.length_cons,List.length_nil]
 have lnn:∀j,sB x'.sn=some j\/sB x'.sv=some j->(B++g).length+1<=j/\j<H.length:=λj hj=>by
  rw[hHl];rcases hj with hj|hj
  ·have:=fnl j hj;simp only[List.length_append,List.length_cons,List.length_nil]at this ⊢;omega
  ·have:=fvl j hj;simp only[List.length_append,List.length_cons,List.length_nil]at this ⊢;omega
 have oxH:EvOk H x':=⟨by rw[hx'];exact(fn.sBkeep λj hj=>keep j (lnn j (.inl hj)).1).isSl,by rw[hx'];exact(fv.sBkeep λj hj=>keep j (lnn j (.inr hj)).1).isSl⟩;have eH:H[N]? =some (.b x'.row):=by rw[hH,hN];exact(show Ext (B++g++[ABlk.b x'.row]) _ from Xx).some at_new
 rw[<-hH,<-hN];have hb:=oH.hb;have lb:=@ldx _ _ _ hb;have le:=@ldx _ _ _ eH;have bs:=@EvOk.bsl _ _ oxH;have dH:=dis4.1 oH.di;refine Rs (A6 @t0 @t1 @lb @le @erow_a @bs) ?_;refine WR.app2 (N:=B.length) (cs:=V.evs.map EV.row) (ys:=[x'.row]) (oH.app _).oe (Fr.push (N:=0) (Nat.zero_le _) [x'.row] (by intro y hy;rw[List.mem_singleton]at hy;rw[hy];rfl)).isSl (by rw[hHB];simp only[List.length_append];omega) (by decide) (by simp) (by simp only[List.length_map,List.length_cons,List.length_nil];omega) ?_;intro h1 hl1 hs1 hk1;have hrow:V.evs.map EV.row++[x'.row]=(V.evs++[x']).map EV.row:=by rw[List.map_append];rfl
 rw[hrow]at hs1;rw[hrow];obtain⟨se',hse⟩:∃se',se' =AV.slice (H++[ABlk.cells x'.row true true]).length 0 ((V.evs++[x']).map EV.row).length 5:=⟨_,rfl⟩;rw[<-hse]at hs1 ⊢;have hnse:∀i,sB se' =some i->H.length+1=i:=λi hi=>by rw[hse]at hi;cases hi;simp
 have ose:se'.one=true:=by rw[hse];rfl
 have hk1':∀i,i<H.length->sB V.se≠some i->h1[i]? =H[i]? :=λi hi hne=>by rw[hk1 i (by simp;omega) hne,List.getElem?_append_left hi]
 have hbl:=oH.lt;have hnb:sB V.se≠some b:=(dH.1 b rfl).1;have hb1:h1[b]? =some (.b [V.se,V.sc,V.sr]):=(hk1' b hbl hnb).trans hb;have sb1:storeF 1 (.ptr b 0) se' (λz=>h1[z]?)=some (undefA,.set b (.b [se',V.sc,V.sr])):=by
  rw[storeF_at hb1];exact stB_one ose (by simp)
 refine Rs (A2 @t0 @sb1) ?_;have hb1l:b<h1.length:=(List.getElem?_eq_some_iff.1 hb1).1;obtain⟨H1,hH1⟩:∃H1,H1=h1.set b (.b [se',V.sc,V.sr]):=⟨_,rfl⟩;rw[<-hH1];have k1:∀i,i<H.length->sB V.se≠some i->i≠b->H1[i]? =H[i]? :=λi hi n1 n2=>by rw[hH1,List.getElem?_set_ne (Ne.symm n2)];exact hk1' i hi n1
 have m1:H1[b]? =some (.b [se',V.sc,V.sr]):=by rw[hH1,List.getElem?_set_self hb1l]
 have keepB:∀i,i<(B++g).length->some i∉V.ex b->H1[i]? =(B++g)[i]? :=λi hi hn=>by
  rw[k1 i (by rw[hHl];simp only[List.length_append]at hi ⊢;omega) (λe=>hn (by rw[<-e];simp[HV.ex])) (λe=>hn (by rw[e];simp[HV.ex]))];obtain⟨z,hz⟩:=hex;rw[hz,List.getElem?_append_left hi]
 have hB1:∃g',H1=B++g':=by
  have:=oH.hN;refine⟨H1.drop B.length,?_⟩;refine List.ext_getElem? λi=>?_
  by_cases hi:i<B.length
  ·have e2:B.length<=H.length:=by rw[hHB];simp
   have n1:sB V.se≠some i:=λe=>by have:=(oH.oe.sBlt e).1;omega
   rw[k1 i (by omega) n1 (by omega),hHB,List.getElem?_append_left hi,List.getElem?_append_left hi]
  ·rw[List.getElem?_append_right (by omega),List.getElem?_drop,Nat.add_sub_cancel' (by omega)]
 have hexlt:∀j,some j∈V.ex b->j<(B++g).length:=λj hj=>o.exlt hj
 have oxm:EvOk (msk (V.ex b) H) x':=oxH.msk (λj hj hm=>by have:=(lnn j (.inl hj)).1;have:=hexlt j hm;omega) (λj hj hm=>by have:=(lnn j (.inr hj)).1;have:=hexlt j hm;omega);have oV1:HstOk B.length H1 b {V with evs:=V.evs++[x'],se:=se'}:=oH.upE k1 (hs1.sBkeep λi hi=>by rw[hH1,List.getElem?_set_ne (by have:=hnse i hi;omega)]) m1 (λi hi=>by have:=hnse i hi;omega) oxm;clear hs1 hk1 hk1' sb1 hb1l;have owc:Ow B.length H1 V.sc 5 (V.cnt.map EV.row):=oV1.oc;have owr:Ow B.length H1 V.sr 7 (V.regs.map RV.row):=oV1.og;obtain⟨V1,hV1⟩:∃V1:HV,V1={V with evs:=V.evs++[x'],se:=se'}:=⟨_,rfl⟩;rw[<-hV1]at oV1;have eN:H1[N]? =some (.b x'.row):=(k1 N (by rw[hHl,hN];simp only[List.length_append,List.length_cons];omega) (λe=>by have:=(o.oe.sBlt e).2;omega) (by have:=o.lt;omega)).trans eH
 have oxm1:EvOk (msk (V1.ex b) H1) x':=oV1.ae x' (by rw[hV1];simp);have ox1:EvOk H1 x':=oxm1.sub (SubH.msk _ _);obtain⟨gH1,hB1⟩:=hB1;have lb1:=@ldx _ _ _ m1;have le1:=@ldx _ _ _ eN;have hkx:x'.ev.kind=x.ev.kind:=by rw[hx']
 have hkd:kdD x.ev=d:=by rw[kdD,wx.kd];rfl
 by_cases h5:d=.undo
 ·have q5:decide (x.ev.kind=[117,110,100,111])=true:=decide_eq_true (by rw[kdOf_some wx.kd,h5];rfl);refine Rs (A7 @t0 @le1 @erow_1 @hkx @q5 @lb1 owc.isSl.lenm) ?_;have hne:V.cnt≠[]:=λe=>by
   rw[eb,accS,hkd,if_pos h5,show V.hst.cnt.getLast? =none by simp[HV.hst,e]]at h2;split at h2<;>exact absurd h2 (by decide)
  have hcp:0<V.cnt.length:=List.length_pos_iff.2 hne;have e2:IntKind.i64.wrap ((V.cnt.length:Int)-1)=((V.cnt.length-1:Nat):Int):=by rw[wrap_in (by omega) (by omega)];omega
  obtain⟨sc',c1,c2,c3⟩:=owc.cut (n:=V.cnt.length-1) (by simp) (k:=.i64);obtain⟨sr',r1,r2,r3⟩:=owr.cut (n:=V.cnt.length-1) (by simp;omega) (k:=.i64);refine Rs (A5 @t0 @e2 @lb1 @c1 @r1) ?_;have osc:sc'.one=true:=c3.isSl.one;have osr:sr'.one=true:=r3.isSl.one;have sA:storeF 1 (.ptr b 1) sc' (λz=>H1[z]?)=some (undefA,.set b (.b [se',sc',V.sr])):=by
   rw[storeF_at m1];exact stB_one osc (by simp)
  have hbl1:b<H1.length:=oV1.lt;have m2:(H1.set b (.b [se',sc',V.sr]))[b]? =some (.b [se',sc',V.sr]):=List.getElem?_set_self hbl1;have sB2:storeF 1 (.ptr b 2) sr' (λz=>(H1.set b (.b [se',sc',V.sr]))[z]?)=some (undefA,.set b (.b [se',sc',sr'])):=by
   rw[storeF_at m2];exact stB_one osr (by simp)
  refine Rs (A3 @t0 @sA @sB2) ?_;rw[List.set_set];obtain⟨gz,hz⟩:=setB_app (X:=.b [se',sc',sr']) oV1.hN ⟨_,hB1⟩;have kz:∀i,i≠b->(H1.set b (.b [se',sc',sr']))[i]? =H1[i]? :=λi hi=>List.getElem?_set_ne (Ne.symm hi)
  have d1:=dis4.1 oV1.di;have d2:=dis4.1 o.di;have hfr:∀i,i<(B++g).length->some i∉V.ex b->(B++gz)[i]? =(B++g)[i]? :=λi hi hn=>by
   rw[<-hz,kz i (λe=>hn (by rw[e];simp[HV.ex])),keepB i hi hn]
  refine⟨gz,{V1 with cnt:=V1.cnt.take (V.cnt.length-1),regs:=V1.regs.take (V.cnt.length-1),sc:=sc',sr:=sr'},hz,by rw[h2],?_,?_,hfr,λj hj=>?_⟩
  ·rw[<-hz];subst hV1;rw[<-List.map_take]at c3 r3;refine oV1.upU (λi _ hi=>kz i hi) (c3.sBkeep λi hi=>kz i λe=>?_) (r3.sBkeep λi hi=>kz i λe=>?_) (List.getElem?_set_self hbl1) c2 r2
   ·rw[c2]at hi;exact(d2.1 b rfl).2.1 (by rw[hi,e])
   ·rw[r2]at hi;exact(d2.1 b rfl).2.2 (by rw[hi,e])
  ·rw[if_pos h2,addS,hkd,if_pos h5,hV1];simp only[HV.hst,List.map_append,List.map_take,List.map_cons,List.map_nil,hx',List.dropLast_eq_take,List.length_map,hrl]
  ·subst hV1;simp only[HV.ex,List.mem_cons,List.not_mem_nil,or_false,Option.some.injEq]at hj ⊢;rcases hj with hj|hj|hj|hj
   ·exact .inl (.inl hj)
   ·have:=hnse j hj.symm;exact .inr (by rw[hHl]at this;simp only[List.length_append]at this ⊢;omega)
   ·rw[c2]at hj;exact .inl (.inr (.inr (.inl hj)))
   ·rw[r2]at hj;exact .inl (.inr (.inr (.inr hj)))
 have q5:decide (x.ev.kind=[117,110,100,111])=false:=decide_eq_false λz=>h5 (by
  have:=wx.kd;rw[z]at this;exact(Option.some.inj ((kdOf_name .undo).symm.trans this)).symm)
 refine Rs (A5 @t0 @le1 @erow_1 @hkx @q5) ?_;have hnow:V1.now=V.now:=by rw[hV1];rfl
 have rd1:=oV1.rd;have wn:WfR V1.now.reg:=by rw[hnow,V.now_reg];exact w.now
 refine WF.ce T.c28 (r28 T rd1 (by rw[hV1];show V.regs.length<=1000;omega)) λg4=>?_
 refine Rs @t0 ?_;refine WF.res T.c40 (r40 T (rd1.now.ext Xx) wn) ?_;rintro _ g5 ⟨VN,hVN,rfl,own⟩;have stN:∀{b':Nat}{a0 a1 a2 a3 a4 a5 a6:AV},stB 7 0 (.agg VN.row) b' (.b [a0,a1,a2,a3,a4,a5,a6])=some (undefA,.set b' (.b VN.row)):=λ{_ _ _ _ _ _ _ _}=>own.ok.st
 repeat (first|simp (config:={maxSteps:=1000000}) only[wset,hset,dset,bset,Nat.reduceAdd,Nat.reduceMul,Nat.reduceLeDiff,Nat.reduceEqDiff,pset,hlen,if_false,if_true,t0,stN]|simp (config:={maxSteps:=1000000}) (disch:=first|(simp only[List.length_append,List.length_cons,List.length_nil]<;>omega)|rfl|omega|fail) only[kset,wset,hset,dset,bset,Nat.reduceAdd,Nat.reduceMul,Nat.reduceLeDiff,Nat.reduceEqDiff,pset,hlen,if_false,if_true,t0,stN])
 refine WF.res T.c65 (r65 T) ?_;rintro _ g6 ⟨vf,rfl,hk⟩;obtain⟨hx3,hhx3⟩:∃z,z=H1++g4++g5++[ABlk.b VN.row]:=⟨_,rfl⟩;rw[<-hhx3]at hk ⊢;have lk:∀{z:AV},lookF .s z false (.map hx3.length) (.str x.ev.kind) (λb=>(hx3++g6)[b]?)=lookR z false ((kdOf x.ev.kind).map vf):=hk.look;rw[wx.kd]at lk;have lk':∀{z:AV},_=some (vf d,Eff.keep):=@lk;obtain⟨rs,a,hv,hr,ha,hab⟩:=(hk.k d).ex;rw[hv]at lk';have e1x:Ext H1 (hx3++g6):=by rw[hhx3];exact Xx
 have le2:∀{k n a},Ext (hx3++g6) k->loadF n (.ptr N a) (λz=>k[z]?)=ldB n a (.b x'.row):=λ{_ _ _} e=>le1 (e1x.trans e)
 have cd:=kdDo_one d;obtain⟨rb,hrb⟩:∃rb,rb=(H1++g4++g5).length:=⟨_,rfl⟩;rw[<-hrb];refine Rs (A8 @t0 @le2 @erow_1 @hkx @stepT_look @lk' @cd @erow_a) ?_;have herr:errS V.hst.now x.ev d=0:=by
  rw[eb,accS,hkd,if_neg h5]at h2;split at h2
  ·exact absurd h2 (by decide)
  ·exact h2
 have hnum:x.ev.num=(V.hst.evs.length:Int)+1:=by
  rw[eb,accS]at h2;split at h2
  ·exact absurd h2 (by decide)
  case isFalse hh=>exact Decidable.not_not.1 hh
 have hVR:VN.reg=V.hst.now:=by rw[hVN,hnow,V.now_reg]
 have htk:¬vlE x.ev 0<V.hst.now.tick:=λz=>by rw[errS,if_pos z]at herr;exact absurd herr (by decide)
 have hnm:nmsS d V.hst.now x.ev=0:=by
  rw[errS,if_neg htk]at herr;split at herr
  case isTrue hh=>exact absurd herr hh
  case isFalse hh=>exact Decidable.not_not.1 hh
 have hck:chkK V.hst.now x.ev d=0:=by rw[errS,if_neg htk,if_neg (by rw[hnm];decide)]at herr;exact herr
 obtain⟨G,hG⟩:=e1x;have hGl:H1.length<=rb/\rb<(H1++G).length:=by
  rw[<-hG,hhx3,hrb];simp only[List.length_append,List.length_cons,List.length_nil];omega
 have rbk:RegBk H1.length (H1++G) rb VN:=by
  have:=(((own.app [ABlk.b VN.row]).app g6).low (M:=H1.length) (by simp));rw[<-hhx3,hG]at this;refine⟨this,hGl.1,?_,λhb'=>?_⟩
  ·rw[<-hG,hhx3,hrb];exact(Ext.app _ (Ext.refl _)).some at_new
  ·have:=(own.blk hb').2;omega
 have glG:Gl (H1++G):=(gl.ext ⟨_,hB1⟩).ext ⟨_,rfl⟩;have cx:Cx (H1++G) VN x' d:=⟨rbk.o.ok,by rw[hVN];exact wn,ox1.ext ⟨_,rfl⟩,by rw[hx'];exact wx,by rw[hVR,hx'];exact nms_0 hnm⟩;rw[hG];refine WF_kdDo T h5 rbk cx (by rw[hVR,hx'];exact hck) glG ?_;rintro _ _ ⟨g7,V7,rfl,r7,hr7⟩;have e17:Ext H1 (H1++g7):=⟨_,rfl⟩;have le3:∀{k n a},Ext (H1++g7) k->loadF n (.ptr N a) (λz=>k[z]?)=ldB n a (.b x'.row):=λ{_ _ _} e=>le1 (e17.trans e)
 have hvl:0<x'.ev.vals.length:=by rw[hx',wx.vl];cases d<;>first|exact absurd rfl h5|decide
 have ix0:iadrF 1 x'.sv (.i 0)=some (elp x'.sv 1 0,.keep):=ox1.v.ix0 hvl;have ld0:∀{k':AHeap},Ext (H1++g7) k'->loadF none (elp x'.sv 1 0) (λb=>k'[b]?)=some (.i (vlE x.ev 0),.keep):=λ{k'} e=>by
  have ev0:vlE x.ev 0=x'.ev.vals[0]:=by rw[<-hx',vlE,List.getD_eq_getElem?_getD,List.getElem?_eq_getElem hvl];rfl
  rw[ev0];exact ox1.v.l1m hvl rfl (e17.trans e)
 have s7:storeF 1 (.ptr rb 0) (.i (vlE x.ev 0)) (λz=>(H1++g7)[z]?)=some (undefA,.set rb (.b (V7.row.set 0 (.i (vlE x.ev 0))))):=bk_store r7.m rfl (by decide);obtain⟨g8,hg8,r8⟩:=r7.tk (vlE x.ev 0);refine Rs (A6 @t0 @le3 @erow_3 @ix0 @ld0 @s7) ?_;rw[hg8];obtain⟨V8,hV8⟩:∃V8:RV,V8={V7 with tick:=vlE x.ev 0}:=⟨_,rfl⟩;rw[<-hV8]at r8;have hr8:V8.reg=nxtS V.hst.now x.ev d:=by
  rw[hV8,nxtS,<-hVR];have:actK VN.reg x.ev d=V7.reg:=by rw[hr7,hx']
  rw[this];rfl
 clear s7 le2 le3 ld0 lk' lk hk;have oV2:HstOk B.length (H1++g8) b V1:=oV1.app g8;have e18:Ext H1 (H1++g8):=⟨_,rfl⟩;have lb2:∀{k n a},Ext (H1++g8) k->loadF n (.ptr b a) (λz=>k[z]?)=ldB n a (.b [se',V.sc,V.sr]):=λ{_ _ _} e=>lb1 (e18.trans e)
 have le2:∀{k n a},Ext (H1++g8) k->loadF n (.ptr N a) (λz=>k[z]?)=ldB n a (.b x'.row):=λ{_ _ _} e=>le1 (e18.trans e)
 have lr2:=@ldx _ _ _ r8.m;have bs1:=@EvOk.bsl _ _ ox1;have bs2:=@RegOk.bsl _ _ r8.o.ok;obtain⟨H2,hH2⟩:∃H2,H2=H1++g8:=⟨_,rfl⟩;have m2:H2[b]? =some (.b [se',V.sc,V.sr]):=by rw[hH2];exact e18.some m1
 have e2:H2[N]? =some (.b x'.row):=by rw[hH2];exact e18.some eN
 have r2m:H2[rb]? =some (.b V8.row):=by rw[hH2];exact r8.m
 have hB2:∃g',H2=B++g':=⟨_,by rw[hH2,hB1,List.append_assoc]⟩;rw[<-hH2]at r8 oV2 ⊢;have owc2:Ow B.length H2 V.sc 5 (V.cnt.map EV.row):=by have:=oV2.oc;rw[hV1]at this;exact this
 have owr2:Ow B.length H2 V.sr 7 (V.regs.map RV.row):=by have:=oV2.og;rw[hV1]at this;exact this
 have d1:=dis4.1 oV1.di;have d1b:sB V.sc≠some b/\sB V.sr≠some b:=by have:=(d1.1 b rfl).2;rw[hV1]at this;exact this
 have d1c:∀i,sB V.sc=some i->sB V.sr≠some i:=by have:=d1.2.2;rw[hV1]at this;exact this
 have hBl:B.length<=H2.length:=by obtain⟨z,hz⟩:=hB2;rw[hz];simp
 refine WC_opsM (λh=>h[b]? =some (.b [se',V.sc,V.sr])/\h[N]? =some (.b x'.row)/\h[rb]? =some (.b V8.row)) ?_;have hS:(λh:AHeap=>h[b]? =some (.b [se',V.sc,V.sr])/\h[N]? =some (.b x'.row)/\h[rb]? =some (.b V8.row)) H2:=⟨m2,e2,r2m⟩;refine WM_op hS rfl rfl ?_;refine Rs @t0 ?_;refine WM_op hS rfl rfl ?_;refine Rs @t0 ?_;refine WM_op hS rfl rfl ?_;refine Rs @t0 ?_;refine WM_op hS rfl rfl ?_;refine Rs @t0 ?_;refine WM_op hS rfl rfl ?_;refine Rs @t0 ?_;refine WM_ld hS (v:=V.sc) (λg hg=>?_) ?_
 ·simp only[wset,hset,dset,bset,Nat.reduceAdd,Nat.reduceMul,Nat.reduceLeDiff,Nat.reduceEqDiff,pset,hlen,if_false,if_true,t0,loadF_at hg.1]
 refine Rs @t0 ?_;refine WM_ld hS (v:=.agg x'.row) (λg hg=>?_) ?_
 ·simp only[wset,hset,dset,bset,Nat.reduceAdd,Nat.reduceMul,Nat.reduceLeDiff,Nat.reduceEqDiff,pset,hlen,if_false,if_true,t0,loadF_at hg.2.1,erow_a]
 refine Rs @t0 ?_;refine WM_op hS rfl rfl ?_;refine Rs (A2 @t0 @bs1) ?_;have x3:Ext H2 (H2++[ABlk.cells x'.row true true]):=⟨_,rfl⟩;have hS3:(λh:AHeap=>h[b]? =some (.b [se',V.sc,V.sr])/\h[N]? =some (.b x'.row)/\h[rb]? =some (.b V8.row)) (H2++[ABlk.cells x'.row true true]):=⟨x3.some m2,x3.some e2,x3.some r2m⟩;refine WM_op hS3 rfl rfl ?_;refine Rs @t0 ?_;refine WR.app2 (N:=B.length) (cs:=V.cnt.map EV.row) (ys:=[x'.row]) (owc2.sBkeep λi hi=>List.getElem?_append_left (owc2.sBlt hi).2) (Fr.push (N:=0) (Nat.zero_le _) [x'.row] (by intro y hy;rw[List.mem_singleton]at hy;rw[hy];rfl)).isSl (by simp only[List.length_append];omega) (by decide) (by simp) (by simp only[List.length_map,List.length_cons,List.length_nil];omega) ?_
 intro h4 hl4 hs4 hk4;have hrow4:V.cnt.map EV.row++[x'.row]=(V.cnt++[x']).map EV.row:=by rw[List.map_append];rfl
 rw[hrow4]at hs4;rw[hrow4];obtain⟨sc',hsc⟩:∃sc',sc' =AV.slice (H2++[ABlk.cells x'.row true true]).length 0 ((V.cnt++[x']).map EV.row).length 5:=⟨_,rfl⟩;rw[<-hsc]at hs4 ⊢;have hl4':h4.length=H2.length+2:=by rw[hl4];simp
 have hnsc:∀i,sB sc' =some i->H2.length+1=i:=λi hi=>by rw[hsc]at hi;cases hi;simp
 have osc:sc'.one=true:=by rw[hsc];rfl
 have k4:∀i,i<H2.length->sB V.sc≠some i->h4[i]? =H2[i]? :=λi hi hne=>by rw[hk4 i (by simp;omega) hne,List.getElem?_append_left hi]
 have hNl:N<H2.length:=(List.getElem?_eq_some_iff.1 e2).1;have hrl:rb<H2.length:=(List.getElem?_eq_some_iff.1 r2m).1;have hbl2:b<H2.length:=(List.getElem?_eq_some_iff.1 m2).1;have hVex:∀j,some j∈V.ex b->j<N:=λj hj=>by rw[hN];exact o.exlt hj
 have ncN:sB V.sc≠some N:=λe=>by have:=hVex N (by rw[<-e];simp[HV.ex]);omega
 have nrN:sB V.sr≠some N:=λe=>by have:=hVex N (by rw[<-e];simp[HV.ex]);omega
 have hNr:N<rb:=by have:=(List.getElem?_eq_some_iff.1 eN).1;omega
 have ncr:sB V.sc≠some rb:=λe=>by have:=hVex rb (by rw[<-e];simp[HV.ex]);omega
 have nrr:sB V.sr≠some rb:=λe=>by have:=hVex rb (by rw[<-e];simp[HV.ex]);omega
 have hS4:(λh:AHeap=>h[b]? =some (.b [se',V.sc,V.sr])/\h[N]? =some (.b x'.row)/\h[rb]? =some (.b V8.row)) h4:=⟨(k4 b hbl2 d1b.1).trans m2,(k4 N hNl ncN).trans e2,(k4 rb hrl ncr).trans r2m⟩;refine Rs @t0 ?_;refine WM_op hS4 rfl rfl ?_;refine Rs @t0 ?_;refine WM_op hS4 rfl rfl ?_;refine Rs @t0 ?_;refine WM_op hS4 rfl rfl ?_;refine Rs @t0 ?_;refine WM_ld hS4 (v:=V.sr) (λg hg=>?_) ?_
 ·simp only[wset,hset,dset,bset,Nat.reduceAdd,Nat.reduceMul,Nat.reduceLeDiff,Nat.reduceEqDiff,pset,hlen,if_false,if_true,t0,loadF_at hg.1]
 refine Rs @t0 ?_;refine WM_ld hS4 (v:=.agg V8.row) (λg hg=>?_) ?_
 ·simp only[wset,hset,dset,bset,Nat.reduceAdd,Nat.reduceMul,Nat.reduceLeDiff,Nat.reduceEqDiff,pset,hlen,if_false,if_true,t0,loadF_at hg.2.2,row_a]
 refine Rs @t0 ?_;refine WM_op hS4 rfl rfl ?_;refine Rs (A2 @t0 @bs2) ?_;have x5:Ext h4 (h4++[ABlk.cells V8.row true true]):=⟨_,rfl⟩;have hS5:(λh:AHeap=>h[b]? =some (.b [se',V.sc,V.sr])/\h[N]? =some (.b x'.row)/\h[rb]? =some (.b V8.row)) (h4++[ABlk.cells V8.row true true]):=⟨x5.some hS4.1,x5.some hS4.2.1,x5.some hS4.2.2⟩;have owr4:Ow B.length (h4++[ABlk.cells V8.row true true]) V.sr 7 (V.regs.map RV.row):=owr2.sBkeep λi hi=>by
  have hil:=(owr2.sBlt hi).2;rw[List.getElem?_append_left (by omega)];exact k4 i hil λe=>d1c i e hi
 refine WM_op hS5 rfl rfl ?_;refine Rs @t0 ?_;refine WR.app2 (N:=B.length) (cs:=V.regs.map RV.row) (ys:=[V8.row]) owr4 (Fr.push (N:=0) (Nat.zero_le _) [V8.row] (by intro y hy;rw[List.mem_singleton]at hy;rw[hy];rfl)).isSl (by simp only[List.length_append];omega) (by decide) (by simp) (by simp only[List.length_map,List.length_cons,List.length_nil];omega) ?_;intro h6 hl6 hs6 hk6;have hrow6:V.regs.map RV.row++[V8.row]=(V.regs++[V8]).map RV.row:=by rw[List.map_append];rfl
 rw[hrow6]at hs6;rw[hrow6];obtain⟨sr',hsr⟩:∃sr',sr' =AV.slice (h4++[ABlk.cells V8.row true true]).length 0 ((V.regs++[V8]).map RV.row).length 7:=⟨_,rfl⟩;rw[<-hsr]at hs6 ⊢;have hl6':h6.length=H2.length+4:=by rw[hl6];simp;omega
 have hnsr:∀i,sB sr' =some i->H2.length+3=i:=λi hi=>by rw[hsr]at hi;cases hi;simp;omega
 have osr:sr'.one=true:=by rw[hsr];rfl
 have k6:∀i,i<H2.length->sB V.sc≠some i->sB V.sr≠some i->h6[i]? =H2[i]? :=λi hi n1 n2=>by
  rw[hk6 i (by simp;omega) n2,List.getElem?_append_left (by omega)];exact k4 i hi n1
 have hS6:(λh:AHeap=>h[b]? =some (.b [se',V.sc,V.sr])/\h[N]? =some (.b x'.row)/\h[rb]? =some (.b V8.row)) h6:=⟨(k6 b hbl2 d1b.1 d1b.2).trans m2,(k6 N hNl ncN nrN).trans e2,(k6 rb hrl ncr nrr).trans r2m⟩;refine Rs @t0 ?_;refine WM_late hS6 rfl ?_;have m6:=hS6.1;have hb6:b<h6.length:=(List.getElem?_eq_some_iff.1 m6).1;have sA:storeF 1 (.ptr b 1) sc' (λz=>h6[z]?)=some (undefA,.set b (.b [se',sc',V.sr])):=by
  rw[storeF_at m6];exact stB_one osc (by simp)
 have m7:(h6.set b (.b [se',sc',V.sr]))[b]? =some (.b [se',sc',V.sr]):=List.getElem?_set_self hb6;have sB2:storeF 1 (.ptr b 2) sr' (λz=>(h6.set b (.b [se',sc',V.sr]))[z]?)=some (undefA,.set b (.b [se',sc',sr'])):=by
  rw[storeF_at m7];exact stB_one osr (by simp)
 refine Rs (A3 @t0 @sA @sB2) ?_;rw[List.set_set];obtain⟨gB2,hgB2⟩:=hB2;obtain⟨gz,hz⟩:=setB_app (X:=.b [se',sc',sr']) oV2.hN (pre_app (B:=B) (h:=h6) (by omega) λi hi=>by
  rw[k6 i (by omega) (λe=>by have:=(owc2.sBlt e).1;omega) (λe=>by have:=(owr2.sBlt e).1;omega),hgB2,List.getElem?_append_left hi])
 have kz:∀i,i≠b->(h6.set b (.b [se',sc',sr']))[i]? =h6[i]? :=λi hi=>List.getElem?_set_ne (Ne.symm hi)
 have oxm2:EvOk (msk (V1.ex b) H2) x':=oV2.ae x' (by rw[hV1];simp);have oR2:RegOk (msk (V1.ex b) H2) V8:=r8.o.ok.msk λj hj hm=>by
  have h1:=(r8.o.blk hj).1;have h2:=oV1.exlt hm;omega
 have hBH1:B.length<=H1.length:=by rw[hB1];simp
 have fin:HstOk B.length (h6.set b (.b [se',sc',sr'])) b {V1 with cnt:=V1.cnt++[x'],regs:=V1.regs++[V8],sc:=sc',sr:=sr'}:=by
  subst hV1;refine oV2.upC (λi hi n1 n2 nb=>(kz i nb).trans (k6 i hi n1 n2)) (hs4.sBkeep λi hi=>?_) (hs6.sBkeep λi hi=>kz i ?_) (List.getElem?_set_self hb6) (λi hi=>by have:=hnsc i hi;omega) (λi hi=>by have:=hnsr i hi;omega) (λi h1 h2=>by have:=hnsc i h1;have:=hnsr i h2;omega) oxm2 oR2 (λj hj=>Nat.le_trans hBH1 (r8.o.blk hj).1)
  ·have h1:=hnsc i hi;rw[kz i (by omega),hk6 i (by simp;omega) (λe=>by have:=(owr2.sBlt e).2;omega),List.getElem?_append_left (by omega)]
  ·have h1:=hnsr i hi;omega
 have hfr:∀i,i<(B++g).length->some i∉V.ex b->(B++gz)[i]? =(B++g)[i]? :=λi hi hn=>by
  have hi1:=keepB i hi hn;have hil:i<H1.length:=by
   rw[List.getElem?_eq_getElem hi]at hi1;exact(List.getElem?_eq_some_iff.1 hi1).1
  rw[<-hz,kz i (λe=>hn (by rw[e];simp[HV.ex])),k6 i (by rw[hH2,List.length_append];omega) (λe=>hn (by rw[<-e];simp[HV.ex])) (λe=>hn (by rw[<-e];simp[HV.ex])),hH2,List.getElem?_append_left hil,hi1]
 have hlo:(B++g).length<=H.length:=by rw[hHl];simp only[List.length_append];omega
 have hlo2:H.length<=H2.length:=by rw[hH2,List.length_append,hH1,List.length_set,hl1];simp only[List.length_append];omega
 have hexn:∀j,some j∈HV.ex b {V1 with cnt:=V1.cnt++[x'],regs:=V1.regs++[V8],sc:=sc',sr:=sr'}->some j∈V.ex b\/(B++g).length<=j:=λj hj=>by
  subst hV1;simp only[HV.ex,List.mem_cons,List.not_mem_nil,or_false,Option.some.injEq]at hj ⊢;rcases hj with hj|hj|hj|hj
  ·exact .inl (.inl hj)
  ·have:=hnse j hj.symm;exact .inr (by omega)
  ·have:=hnsc j hj.symm;exact .inr (by omega)
  ·have:=hnsr j hj.symm;exact .inr (by omega)
 refine⟨gz,_,hz,by rw[h2],by rw[<-hz];exact fin,?_,hfr,hexn⟩;rw[if_pos h2,addS,hkd,if_neg h5,hV1];simp only[HV.hst,List.map_append,List.map_cons,List.map_nil,hx',hr8]
end
end Go.Abs
namespace Go.Abs
def accS_0{H e}(h:accS H e=0):e.num=(H.evs.length:Int)+1/\(kdD e=.undo->H.cnt≠[])/\(kdD e≠.undo->errS H.now e (kdD e)=0):=by
 unfold accS at h;split at h
 ·exact absurd h (by decide)
 case isFalse h1=>
 refine⟨Decidable.not_not.1 h1,λhk hn=>?_,λhk=>by rw[if_neg hk]at h;exact h⟩;rw[if_pos hk,hn]at h;exact absurd h (by decide)
def badS_0{H e}(h:badS H e=0):chkE e=0/\accS H e=0:=by
 unfold badS at h;split at h
 case isTrue h1=>exact absurd h h1
 case isFalse h1=>exact⟨Decidable.not_not.1 h1,h⟩
theorem WfE.kdD{e d}(w:WfE e d):Go.Abs.kdD e=d:=by rw[Go.Abs.kdD,w.kd];rfl
def WfH.add{H e}(w:WfH H)(h:badS H e=0):WfH (addS H e):=by
 obtain⟨h1,h2⟩:=badS_0 h;obtain⟨d,we⟩:=chkE_0 h1;obtain⟨h3,h4,h5⟩:=accS_0 h2;have hkd:=we.kdD;unfold addS;split
 case isTrue hu=>
  have hl:=List.length_pos_iff.2 (h4 hu);have e1:=w.ln;have e2:=w.le;refine⟨λR hR=>w.rg R ((List.dropLast_sublist _).mem hR),by simp[e1],?_,λx hx=>?_,λx hx=>w.cn x ((List.dropLast_sublist _).mem hx)⟩
  ·simp only[List.length_dropLast,List.length_append,List.length_singleton];omega
  ·rcases List.mem_append.1 hx with hx|hx
   ·exact w.ev x hx
   ·rw[List.mem_singleton]at hx;subst hx;exact⟨d,we⟩
 case isFalse hu=>
  have e1:=w.ln;have e2:=w.le;have hs:=h5 hu;rw[hkd]at hs hu;refine⟨λR hR=>?_,by simp[e1],by simp only[List.length_append,List.length_singleton];omega,λx hx=>?_,λx hx=>?_⟩
  ·rcases List.mem_append.1 hR with hR|hR
   ·exact w.rg R hR
   ·rw[List.mem_singleton]at hR;rw[hR,hkd];exact w.now.step we hu hs
  ·rcases List.mem_append.1 hx with hx|hx
   ·exact w.ev x hx
   ·rw[List.mem_singleton]at hx;subst hx;exact⟨d,we⟩
  ·rcases List.mem_append.1 hx with hx|hx
   ·exact w.cn x hx
   ·rw[List.mem_singleton]at hx;subst hx;exact⟨d,we⟩
def addS_len{H e}:(addS H e).evs.length=H.evs.length+1:=by
 unfold addS;split<;>simp
def RpR(h:AHeap)(l:List Evt)(v:AV)(k:AHeap):Prop:=
 ∃p,v=.tup [p,.i (repS l).2.1,.i (repS l).2.2]/\((repS l).2.2≠0->p=.nilPtr)/\
  ((repS l).2.2=0->∃b V,p=.ptr b 0/\HstOk h.length k b V/\V.hst=(repS l).1/\WfH V.hst/\V.evs.length=l.length/\l.length<=1000)
structure ShE(L:List EV):Prop where
 l:L.length<=2^30
 e:∀x∈L,x.ev.names.length<=2^30/\x.ev.vals.length<=2^30
set_option maxRecDepth 10000
attribute [local irreducible] WP WC WE WB WR WF WL WG WRg
section
variable {P:Program}(T:Tbl P) {h:AHeap}
include T
def r27{L s}(o:EvsOk h L s)(sh:ShE L)(gl:Gl h):RCall P 27 [s] h (RpR h (L.map EV.ev)):=by
 have hll:=sh.l;refine .st1 31 T.mix T.c27 ?_;intro ts hlen t0;unfold fn27;by_cases h1:1000<L.length
 ·have q1:decide ((1000:Int)<(L.length:Int))=true:=decide_eq_true (by omega);refine Rs (A3 @t0 o.sl.lenm @q1) ?_;have e:repS (L.map EV.ev)=(Hst.zero,0,5):=by rw[repS,if_pos (by simpa using h1)]
  unfold RpR;rw[e];exact⟨_,rfl,λ_=>rfl,λz=>absurd z (by decide)⟩
 have q1:decide ((1000:Int)<(L.length:Int))=false:=decide_eq_false (by omega);refine Rs (A3 @t0 o.sl.lenm @q1) ?_;have e0:repS (L.map EV.ev)=runS Hst.zero (L.map EV.ev) 0:=by rw[repS,if_neg (by simpa using h1)]
 obtain⟨b,hb⟩:∃b,b=h.length:=⟨_,rfl⟩;rw[<-hb];refine WL.inv T.mix (λm ts h'=>∃(k:Nat) (g':AHeap) (V:HV),k<=L.length/\m=L.length-k/\h' =h++g'/\HstOk h.length (h++g') b V/\WfH V.hst/\V.evs.length=k/\repS (L.map EV.ev)=runS V.hst ((L.drop k).map EV.ev) k/\ts.length=31/\slot ts 5=.ptr b 0/\slot ts 14=s/\slot ts 15=.i L.length/\slot ts 16=.i k) L.length
  ⟨0,[ABlk.b [AV.nilSlice,.nilSlice,.nilSlice]],⟨[],[],[],.nilSlice,.nilSlice,.nilSlice⟩,by omega,rfl,rfl,⟨by omega,by rw[hb];exact at_new,.nil,.nil,.nil,dis4.2 ⟨λ_ _=>⟨by simp[sB],by simp[sB],by simp[sB]⟩,λ_ z=>by simp[sB]at z,λ_ z=>by simp[sB]at z⟩,(λx hx=>by cases hx),(λx hx=>by cases hx),(λx hx=>by cases hx),(λx hx=>by cases hx)⟩,WfH.zero,rfl,e0,Sn,Sw,(Sq @t0),Sw,Swr⟩ ?_
 rintro _ ts _ ⟨k,g',V,hk,rfl,rfl,oV,wV,hVl,hrun,hlen,t5,t14,t15,t16⟩;by_cases hlt:k<L.length
 ·have e3:=dltT hlt;have e5:=wrapN (n:=k) (by omega);have ix:=o.sl.ixm (kk:=.i64) hlt;have ld:∀{k'},Ext (h++g') k'->loadF (some 5) (elp s 5 k) (λb=>k'[b]?)=some (.agg (EV.row L[k]),.keep):=λ{k'} e=>o.sl.ldm hlt (Ext.trans (Ext.app g' (Ext.refl h)) e)
  obtain⟨x,hx⟩:∃x,x=L[k]:=⟨_,rfl⟩;have hm:x∈L:=by rw[hx];exact List.getElem_mem _
  have hd:L.drop k=x::L.drop (k+1):=by rw[hx];simp
  rw[<-hx]at ld;have ox:EvOk (h++g') x:=(o.all x hm).ext ⟨_,rfl⟩;have st:∀{b':Nat}{a0 a1 a2 a3 a4:AV},stB 5 0 (.agg x.row) b' (.b [a0,a1,a2,a3,a4])=some (undefA,.set b' (.b x.row)):=λ{_ _ _ _ _ _}=>ox.st
  refine Rs (A9 @t5 @t14 @t15 @t16 @e3 @ix @ld @st @erow_a) ?_;rw[List.append_assoc h g'];rw[hd,List.map_cons,runS]at hrun;refine WF.gen T.c51 (g51 T (B:=h) (x:=x) (by rw[<-List.append_assoc];exact oV.app _) wV (by omega) (by rw[<-List.append_assoc];exact ox.ext Xx) ⟨by have:=(sh.e x hm).1;omega,by have:=(sh.e x hm).2;omega⟩ gl) ?_;rintro _ _ ⟨g2,V2,rfl,rfl,o2,hV2,-,-⟩;by_cases h2:badS V.hst x.ev=0
  ·have q2:decide (badS V.hst x.ev≠0)=false:=decide_eq_false (λz=>z h2);rw[if_pos h2]at hV2;rw[if_neg (λz=>z h2)]at hrun;refine Rs (A6 @t5 @t14 @t15 @t16 @q2 @e5) ?_;refine⟨_,by omega,k+1,g2,V2,by omega,rfl,rfl,o2,by rw[hV2];exact wV.add h2,?_,by rw[hV2];exact hrun,rfl⟩;have:V2.hst.evs.length=V.hst.evs.length+1:=by rw[hV2];exact addS_len
   simpa [HV.hst,hVl]using this
  ·have q2:decide (badS V.hst x.ev≠0)=true:=decide_eq_true h2;rw[if_pos h2]at hrun;refine Rs (A6 @t5 @t14 @t15 @t16 @q2 @e5) ?_;unfold RpR;rw[hrun];refine⟨_,?_,λ_=>rfl,λz=>absurd z h2⟩;simp
 ·have e3:=dltF hlt;have e4:k=L.length:=by omega
  have hr0:repS (L.map EV.ev)=(V.hst,0,0):=by rw[hrun,e4,List.drop_length];rfl
  refine Rs (A5 @t5 @t14 @t15 @t16 @e3) ?_;unfold RpR;rw[hr0];exact⟨_,rfl,λz=>absurd rfl z,λ_=>⟨b,V,rfl,oV,rfl,wV,by simp;omega,by simp;omega⟩⟩
end
end Go.Abs
namespace Go.Abs
def tickS(t:Int):Int:=rangeS t 0 999999999
def dz0:decide ((0:Int)≠0)=false:=rfl
def opnS(l:List Evt)(t:Nat)(n:List UInt8):Reg×Int:=if(repS l).2.2≠0 then(Reg.zero,(repS l).2.2)else((repS l).1.now,whenS (!hasS (repS l).1.now t n) 10)
def HstOk.lo_now{N h b V}(o:HstOk N h b V):∀j,some j∈V.now.bl->N<=j:=by
 rw[HV.now,List.getLastD_eq_getLast?];cases hx:V.regs.getLast? with
 |none=>intro j hj;simp[RV.zero,RV.bl,sB]at hj
 |some R=>exact o.lo R (List.mem_of_getLast? hx)
def get_box{h X:AHeap}{A C:ABlk}{j:Nat}(hj:h.length+1<=j):(h++[A]++X)[j]? =(h++[C]++X)[j]? :=by
 rw[List.getElem?_append_right (by simp;omega),List.getElem?_append_right (by simp;omega)];simp
set_option maxRecDepth 10000
attribute [local irreducible] WP WC WE WB WR WF WL WG WRg
section
variable {P:Program}(T:Tbl P) {h:AHeap}
include T
def r24(t:Int):RCall P 24 [.i t] h (λv _=>v=.i (tickS t)):=by
 refine .st1 5 T.mix T.c24 ?_;intro ts hlen t0;unfold fn24;refine Rs @t0 ?_;refine WF.ce T.c47 (r47 T _ _ _) λg1=>?_
 refine Rs @t0 ?_;rfl
def rp_err{l v k}(r:RpR h l v k)(he:(repS l).2.2≠0):v=.tup [.nilPtr,.i (repS l).2.1,.i (repS l).2.2]:=by
 have:=T.mix;obtain⟨p,rfl,h1,_⟩:=r;rw[h1 he]
def rp_ok{l v k}(r:RpR h l v k)(he:(repS l).2.2=0):∃b V,v=.tup [.ptr b 0,.i 0,.i 0]/\HstOk h.length k b V/\V.hst=(repS l).1/\WfH V.hst/\V.evs.length=l.length/\l.length<=1000/\V.regs.length<=1000/\(repS l).2.1=0/\WfR V.now.reg/\V.now.reg=(repS l).1.now/\RegOk k V.now/\∀j,some j∈V.now.bl->h.length<=j:=by
 have:=T.mix;obtain⟨p,rfl,_,h2⟩:=r;obtain⟨b,V,rfl,h3,h4,h5,h6,h7⟩:=h2 he;have hz:(repS l).2.1=0:=by
  revert he
  unfold repS;split
  ·intro _;rfl
  ·have key:∀(l:List Evt) (H:Hst) (i:Nat),(runS H l i).2.2=0->(runS H l i).2.1=0:=by
    intro l
    induction l with
    |nil=>intro H i _;rfl
    |cons e l ih=>
     intro H i;rw[runS];split
     case isTrue hb=>intro hc;exact absurd hc hb
     case isFalse hb=>exact ih _ _
   exact key l _ _
 have hr:V.regs.length<=1000:=by
  have e1:=h5.ln;have e2:=h5.le;have e3:V.regs.length=V.hst.regs.length:=by simp[HV.hst]
  have e4:V.hst.evs.length=V.evs.length:=by simp[HV.hst]
  omega
 exact⟨b,V,by rw[hz,he],h3,h4,h5,h6,h7,hr,hz,by rw[V.now_reg];exact h5.now,by rw[V.now_reg,h4],h3.rd.now,h3.lo_now⟩
def r22{L:List EV}{s:AV}(o:EvsOk h L s)(sh:ShE L)(gl:Gl h){t:Nat}(ht:t<6)(n:List UInt8):RCall P 22 [s,.i t,.str n] h (λv k=>∃V:RV,v=.tup [.agg V.row,.i (opnS (L.map EV.ev) t n).2]/\V.reg=(opnS (L.map EV.ev) t n).1/\RegOk k V/\WfR V.reg):=by
 refine .st3 31 T.mix T.c22 ?_;intro ts hlen t0 t1 t2;unfold fn22;refine Rs (A3 @t0 @t1 @t2) ?_;refine WF.res T.c27 (r27 T (o.ext Xx) sh (gl.ext Xx)) ?_;intro v g hv;by_cases he:(repS (L.map EV.ev)).2.2=0
 ·obtain⟨b,V,rfl,oV,hV,wV,_,_,hr,_,wn,hn,on,lo⟩:=rp_ok T hv he;have st:=@RegOk.st _ _ on;refine Rs (A4 @t0 @t1 @t2 @dz0) ?_;refine WF.ce T.c28 (r28 T (oV.rd.ext Xx) hr) λg2=>?_
  refine Rs (A5 @t0 @t1 @t2 @st @row_a) ?_;refine WF.ce T.c46 (r46 T (on.ext Xx) wn.len ht _) λg3=>?_
  refine Rs (A4 @t0 @t1 @t2 @row_a) ?_;refine WF.ce T.c34 (r34 T _ _) λg4=>?_
  refine Rs (A5 @t0 @t1 @t2 @st @row_a) ?_;refine⟨V.now,?_,?_,?_,wn⟩
  ·rw[opnS,if_neg (λz=>z he),hn]
  ·rw[opnS,if_neg (λz=>z he),hn]
  ·refine(on.keep (k:=h++[ABlk.b V.now.row]++g) λj hj=>get_box (by have:=lo j hj;simpa using this)).ext Xx
 ·have hv':=rp_err T hv he;subst hv';have q:decide ((repS (L.map EV.ev)).2.2≠0)=true:=decide_eq_true he;refine Rs (A4 @t0 @t1 @t2 @q) ?_;refine⟨RV.zero,?_,?_,RegOk.zero,WfR.zero⟩
  ·rw[opnS,if_pos he];rfl
  ·rw[opnS,if_pos he];rfl
def r14{L s}(o:EvsOk h L s)(sh:ShE L)(gl:Gl h):RCall P 14 [s] h (λv k=>∃V:RV,v=.tup [.agg V.row,.i (repS (L.map EV.ev)).2.1,.i (repS (L.map EV.ev)).2.2]/\V.reg=(repS (L.map EV.ev)).1.now/\RegOk k V/\WfR V.reg):=by
 refine .st1 22 T.mix T.c14 ?_;intro ts hlen t0;unfold fn14;refine Rs @t0 ?_;refine WF.res T.c27 (r27 T (o.ext Xx) sh (gl.ext Xx)) ?_;intro v g hv;by_cases he:(repS (L.map EV.ev)).2.2=0
 ·obtain⟨b,V,rfl,oV,hV,wV,_,_,hr,hz,wn,hn,on,lo⟩:=rp_ok T hv he;refine Rs (A2 @t0 @dz0) ?_;refine WF.ce T.c28 (r28 T (oV.rd.ext Xx) hr) λg2=>?_
  refine Rs @t0 ?_;refine WF.res T.c40 (r40 T (on.ext Xx) wn) ?_;rintro _ g3 ⟨VN,hVN,rfl,own⟩;have st:∀{b':Nat}{a0 a1 a2 a3 a4 a5 a6:AV},stB 7 0 (.agg VN.row) b' (.b [a0,a1,a2,a3,a4,a5,a6])=some (undefA,.set b' (.b VN.row)):=λ{_ _ _ _ _ _ _ _}=>own.ok.st
  refine Rs (A3 @t0 @st @row_a) ?_;refine⟨VN,by rw[he,hz],by rw[hVN,hn],?_,by rw[hVN];exact wn⟩;have:=own.ok.keep (k:=h++[ABlk.b VN.row]++(g++g2++g3)) λj hj=>by
   have:=(own.blk hj).1;rw[show h++[ABlk.b [AV.int IntKind.i64 0,AV.nilSlice,AV.nilSlice,AV.nilSlice,AV.nilSlice,AV.nilSlice,AV.nilSlice]]++g++g2++g3=h++[ABlk.b [AV.int IntKind.i64 0,AV.nilSlice,AV.nilSlice,AV.nilSlice,AV.nilSlice,AV.nilSlice,AV.nilSlice]]++(g++g2++g3) by simp only[List.append_assoc]];exact get_box (by simp only[List.length_append,List.length_singleton]at this;omega)
  simpa only[List.append_assoc]using this
 ·have hv':=rp_err T hv he;subst hv';have q:decide ((repS (L.map EV.ev)).2.2≠0)=true:=decide_eq_true he;refine Rs (A2 @t0 @q) ?_;have hz:(repS (L.map EV.ev)).1=Hst.zero:=by
   revert he
   unfold repS;split
   ·intro _;rfl
   ·have key:∀(l:List Evt) (H:Hst) (i:Nat),(runS H l i).2.2≠0->(runS H l i).1=Hst.zero:=by
     intro l
     induction l with
     |nil=>intro H i z;exact absurd rfl z
     |cons e l ih=>
      intro H i;rw[runS];split
      case isTrue hb=>intro _;rfl
      case isFalse hb=>exact ih _ _
    exact key _ _ _
  exact⟨RV.zero,rfl,by rw[hz];rfl,RegOk.zero,WfR.zero⟩
def acptS(l:List Evt)(e:Evt):Int:=
 if firstS [(repS l).2.2,chkE e,whenS (decide (1000<=l.length)) 5]≠0 then firstS [(repS l).2.2,chkE e,whenS (decide (1000<=l.length)) 5]else accS (repS l).1 e
def r10{L s}(o:EvsOk h L s)(sh:ShE L)(gl:Gl h){x}(ox:EvOk h x)(hx:x.ev.names.length<=2^30/\x.ev.vals.length<=2^30):RCall P 10 [s,.agg x.row] h (λv _=>v=.i (acptS (L.map EV.ev) x.ev)):=by
 refine .st2 29 T.mix T.c10 ?_;intro ts hlen t0 t1;unfold fn10;have hbx:=@EvOk.box _ _ ox;refine Rs (A3 @t0 @t1 @hbx) ?_;refine WF.res T.c27 (r27 T (o.ext Xx) sh (gl.ext Xx)) ?_;intro v g hv;obtain⟨p,hvp⟩:∃p,v=.tup [p,.i (repS (L.map EV.ev)).2.1,.i (repS (L.map EV.ev)).2.2]:=by obtain⟨p,h1,_⟩:=hv;exact⟨p,h1⟩
 rw[hvp];refine Rs (A3 @t0 @t1 @erow_a) ?_;refine WF.ce T.c33 (r33 T (ox.ext Xx) ⟨by omega,by omega⟩) λg1=>?_
 refine Rs (A3 @t0 @t1 o.sl.lenm) ?_;refine WF.ce T.c34 (r34 T _ _) λg2=>?_
 refine Rs @t0 ?_;refine WF.ce T.c23 (r23 T (isSl_ints [_,_,_]) (by simp)) λg3=>?_
 have ed:decide ((1000:Int)<=(L.length:Int))=decide (1000<=(L.map EV.ev).length):=decide_eq_decide.2 (by simp;omega);rw[ed];obtain⟨f,hf⟩:∃f,f=firstS [(repS (L.map EV.ev)).2.2,chkE x.ev,whenS (decide (1000<=(L.map EV.ev).length)) 5]:=⟨_,rfl⟩;rw[<-hf,acptS,<-hf];by_cases h0:f=0
 case neg=>
  have q:decide (f≠0)=true:=decide_eq_true h0;refine Rs (A3 @t0 @t1 @q) ?_;rw[if_pos h0]
 have q:decide (f≠0)=false:=decide_eq_false (λz=>z h0);rw[if_neg (λz=>z h0)];rw[hf]at h0;have f3:∀a b c:Int,firstS [a,b,c]=0->a=0/\b=0:=λa b c hh=>by
  simp only[firstS]at hh;split at hh
  ·rename_i ha;split at hh
   ·rename_i hb;exact⟨ha,hb⟩
   ·rename_i hb;exact absurd hh hb
  ·rename_i ha;exact absurd hh ha
 obtain⟨he,hc⟩:=f3 _ _ _ h0;obtain⟨b,V,hvb,oV,hV,wV,hel,hle,hr,hz,wn,hn,on,lo⟩:=rp_ok T hv he;rw[hvp]at hvb;have hpb:p=.ptr b 0:=by injection hvb with h1;injection h1
 obtain⟨d,wx⟩:=chkE_0 hc;rw[hpb];refine Rs (A4 @t0 @t1 @q @erow_a) ?_;refine WF.ce T.c35 (r35 T (d:=d) (oV.rd.ext Xx) wV (by omega) (ox.ext Xx) wx (gl.ext Xx)) λg4=>?_
 refine Rs (A2 @t0 @t1) ?_;rw[hV]
end
end Go.Abs
namespace Go.Abs
def opnS_0{l t n}(h:(opnS l t n).2=0):(repS l).2.2=0/\(opnS l t n).1=(repS l).1.now/\n∈thN (repS l).1.now t:=by
 unfold opnS at h ⊢;split at h
 case isTrue h1=>exact absurd h h1
 case isFalse h1=>
  rw[if_neg h1];refine⟨Decidable.not_not.1 h1,rfl,?_⟩;by_cases hh:hasS (repS l).1.now t n=true
  ·unfold hasS at hh;exact of_decide_eq_true hh
  ·have:hasS (repS l).1.now t n=false:=by simpa using hh
   simp only[this,whenS]at h;exact absurd h (by decide)
def safeQ(l:List Evt)(n:List UInt8)(t:Int):Bool×Int:=
 if firstS [(opnS l 2 n).2,tickS t]≠0 then(false,firstS [(opnS l 2 n).2,tickS t])else(safeS (opnS l 2 n).1 (shotS (opnS l 2 n).1 n) t,0)
def unsafeQ(l:List Evt)(t:Int):List (List UInt8)×Int:=
 if firstS [(repS l).2.2,tickS t]≠0 then([],firstS [(repS l).2.2,tickS t])else(unsafeS (repS l).1.now t,0)
set_option maxRecDepth 10000
attribute [local irreducible] WP WC WE WB WR WF WL WG WRg
section
variable {P:Program}(T:Tbl P) {h:AHeap}
include T
def r6{L s}(o:EvsOk h L s)(sh:ShE L)(gl:Gl h)(n:List UInt8)(t:Int):RCall P 6 [s,.str n,.i t] h (λv _=>v=.tup [.bool (safeQ (L.map EV.ev) n t).1,.i (safeQ (L.map EV.ev) n t).2]):=by
 refine .st3 31 T.mix T.c6 ?_;intro ts hlen t0 t1 t2;unfold fn6;refine Rs (A3 @t0 @t1 @t2) ?_;refine WF.res T.c22 (r22 T (o.ext Xx) sh (gl.ext Xx) (t:=2) (by decide) n) ?_;rintro _ g ⟨V,rfl,hV,oV,wV⟩;have st:∀{b':Nat}{a0 a1 a2 a3 a4 a5 a6:AV},stB 7 0 (.agg V.row) b' (.b [a0,a1,a2,a3,a4,a5,a6])=some (undefA,.set b' (.b V.row)):=λ{_ _ _ _ _ _ _ _}=>oV.st
 refine Rs (A5 @t0 @t1 @t2 @st @row_a) ?_;refine WF.ce T.c24 (r24 T t) λg1=>?_
 refine Rs (A3 @t0 @t1 @t2) ?_;refine WF.ce T.c23 (r23 T (isSl_ints [_,_]) (by simp)) λg2=>?_
 obtain⟨f,hf⟩:∃f,f=firstS [(opnS (L.map EV.ev) 2 n).2,tickS t]:=⟨_,rfl⟩;rw[<-hf,safeQ,<-hf];by_cases h0:f=0
 case neg=>
  have q:decide (f≠0)=true:=decide_eq_true h0;rw[if_pos h0];exact Rs (A4 @t0 @t1 @t2 @q) trivial
 have q:decide (f≠0)=false:=decide_eq_false (λz=>z h0);rw[if_neg (λz=>z h0)];rw[hf]at h0;obtain⟨he,hne,hm⟩:=opnS_0 (first2 h0).1;rw[<-hne,<-hV]at hm;refine Rs (A5 @t0 @t1 @t2 @q @row_a) ?_;refine WF.res T.c26 (r26 T (oV.ext Xx) wV.len hm) ?_;rintro _ g3 ⟨x,hx,hxs,rfl⟩;refine Rs (A3 @t0 @t1 @t2) ?_;refine WF.ce T.c25 (r25 T (oV.ext Xx) wV.len ((oV.e2 x hx).ext Xx) (wV.inR.sh x hx).2 (wV.inR.sh x hx).1 t) λg4=>?_
 refine Rs (A3 @t0 @t1 @t2) ?_;rw[hxs,hV]
def r7{L s}(o:EvsOk h L s)(sh:ShE L)(gl:Gl h)(t:Int):RCall P 7 [s,.i t] h (λv k=>∃s',v=.tup [s',.i (unsafeQ (L.map EV.ev) t).2]/\IsSl k s' 1 ((unsafeQ (L.map EV.ev) t).1.map strRow)):=by
 refine .st2 28 T.mix T.c7 ?_;intro ts hlen t0 t1;unfold fn7;refine Rs (A2 @t0 @t1) ?_;refine WF.res T.c27 (r27 T (o.ext Xx) sh (gl.ext Xx)) ?_;intro v g hv;obtain⟨p,hvp⟩:∃p,v=.tup [p,.i (repS (L.map EV.ev)).2.1,.i (repS (L.map EV.ev)).2.2]:=by obtain⟨p,h1,_⟩:=hv;exact⟨p,h1⟩
 rw[hvp];refine Rs (A2 @t0 @t1) ?_;refine WF.ce T.c24 (r24 T t) λg1=>?_
 refine Rs (A2 @t0 @t1) ?_;refine WF.ce T.c23 (r23 T (isSl_ints [_,_]) (by simp)) λg2=>?_
 obtain⟨f,hf⟩:∃f,f=firstS [(repS (L.map EV.ev)).2.2,tickS t]:=⟨_,rfl⟩;rw[<-hf,unsafeQ,<-hf];by_cases h0:f=0
 case neg=>
  have q:decide (f≠0)=true:=decide_eq_true h0;rw[if_pos h0];refine Rs (A3 @t0 @t1 @q) ?_;exact⟨_,rfl,.nil⟩
 have q:decide (f≠0)=false:=decide_eq_false (λz=>z h0);rw[if_neg (λz=>z h0)];rw[hf]at h0;obtain⟨b,V,hvb,oV,hV,wV,hel,hle,hr,hz,wn,hn,on,lo⟩:=rp_ok T hv (first2 h0).1;rw[hvp]at hvb;have hpb:p=.ptr b 0:=by injection hvb with h1;injection h1
 rw[hpb];refine Rs (A3 @t0 @t1 @q) ?_;refine WF.ce T.c28 (r28 T (oV.rd.ext Xx) hr) λg3=>?_
 refine Rs (A2 @t0 @t1) ?_;refine WF.res T.c29 (r29 T (on.ext Xx) wn.len wn.inR t) ?_;rintro v4 g4 h4;refine Rs (A2 @t0 @t1) ?_;rw[hn]at h4;exact⟨_,rfl,h4⟩
end
end Go.Abs
namespace Go.Abs
set_option maxRecDepth 10000
attribute [local irreducible] WP WC WE WB WR WF WL WG WRg
section
variable {P:Program}(T:Tbl P) {h:AHeap}
include T
end
end Go.Abs
namespace Go.Abs
set_option maxRecDepth 10000
attribute [local irreducible] WP WC WE WB WR WF WL WG WRg
section
variable {P:Program}(T:Tbl P) {h:AHeap}
include T
end
end Go.Abs
namespace Go.Abs
theorem runS_app:∀(l m:List Evt) (H:Hst) (i:Nat),runS H (l++m) i=if(runS H l i).2.2≠0 then runS H l i else runS (runS H l i).1 m (i+l.length)
 |[],m,H,i=>by simp[runS]
 |e::l,m,H,i=>by
  rw[List.cons_append,runS,runS];by_cases h:badS H e≠0
  ·simp only[if_pos h]
  ·simp only[if_neg h];rw[runS_app l m (addS H e) (i+1)];have:i+1+l.length=i+(e::l).length:=by simp only[List.length_cons];omega
   rw[this]
def repS_snoc{l:List Evt}{e:Evt}(h:(repS l).2.2=0)(hl:l.length<1000):repS (l++[e])=if badS (repS l).1 e≠0 then(Hst.zero,(l.length:Int)+1,badS (repS l).1 e)else(addS (repS l).1 e,0,0):=by
 have e1:repS l=runS Hst.zero l 0:=by rw[repS,if_neg (by omega)]
 have e2:repS (l++[e])=runS Hst.zero (l++[e]) 0:=by rw[repS,if_neg (by simp;omega)]
 rw[e2,runS_app,<-e1,if_neg (λz=>z h),runS,Nat.zero_add];rfl
def regsOf(R:Reg):List Evt->List Reg
 |[]=>[]
 |e::l=>nxtS R e (kdD e)::regsOf (nxtS R e (kdD e)) l
def okC(R:Reg):List Evt->Prop
 |[]=>True
 |e::l=>(∃d,WfE e d/\d≠.undo)/\errS R e (kdD e)=0/\okC (nxtS R e (kdD e)) l
theorem regsOf_snoc:∀(l:List Evt) (R:Reg) (e:Evt),regsOf R (l++[e])=regsOf R l++[nxtS ((regsOf R l).getLastD R) e (kdD e)]
 |[],R,e=>rfl
 |x::l,R,e=>by
  rw[List.cons_append,regsOf,regsOf,regsOf_snoc l,List.getLastD_cons];rfl
theorem okC_snoc:∀(l:List Evt) (R:Reg) (e:Evt),okC R (l++[e])↔okC R l/\(∃d,WfE e d/\d≠.undo)/\errS ((regsOf R l).getLastD R) e (kdD e)=0
 |[],R,e=>by simp[okC,regsOf]
 |x::l,R,e=>by
  rw[List.cons_append,okC,okC,okC_snoc l,regsOf,List.getLastD_cons];exact⟨λ⟨a,b,c,d,f⟩=>⟨⟨a,b,c⟩,d,f⟩,λ⟨⟨a,b,c⟩,d,f⟩=>⟨a,b,c,d,f⟩⟩
def snoc_or{α:Type}(l:List α):l=[]\/∃m x,l=m++[x]:=by
 rcases List.eq_nil_or_concat l with h|⟨m,x,h⟩
 ·exact .inl h
 ·exact .inr ⟨m,x,by rw[h,List.concat_eq_append]⟩
structure Chn(H:Hst):Prop where
 rg:H.regs=regsOf Reg.zero H.cnt
 ok:okC Reg.zero H.cnt
theorem Chn.zero:Chn Hst.zero:=⟨rfl,trivial⟩
def Chn.add{H:Hst}{e:Evt}(c:Chn H)(w:WfH H)(h:badS H e=0):Chn (addS H e):=by
 obtain⟨h1,h2⟩:=badS_0 h;obtain⟨d,we⟩:=chkE_0 h1;obtain⟨h3,h4,h5⟩:=accS_0 h2;unfold addS;split
 case isTrue hu=>
  rcases snoc_or H.cnt with hn|⟨m,x,hm⟩
  ·exact absurd hn (h4 hu)
  ·have e1:=c.rg;have e2:=c.ok;rw[hm,regsOf_snoc]at e1;rw[hm,okC_snoc]at e2;exact⟨by rw[e1,hm,List.dropLast_concat,List.dropLast_concat],by rw[hm,List.dropLast_concat];exact e2.1⟩
 case isFalse hu=>
  have hnow:H.now=(regsOf Reg.zero H.cnt).getLastD Reg.zero:=by rw[Hst.now,c.rg]
  refine⟨?_,?_⟩
  ·show H.regs++_=regsOf Reg.zero (H.cnt++[e]);rw[regsOf_snoc,<-hnow,c.rg]
  ·show okC Reg.zero (H.cnt++[e]);rw[okC_snoc,<-hnow];exact⟨c.ok,⟨d,we,λz=>hu (by rw[we.kdD,z])⟩,h5 hu⟩
theorem run_chn:∀(l:List Evt) (H:Hst) (i:Nat),Chn H->WfH H->(runS H l i).2.2=0->Chn (runS H l i).1/\WfH (runS H l i).1
 |[],H,_,c,w,_=>⟨c,w⟩
 |e::l,H,i,c,w,h=>by
  rw[runS]at h ⊢;by_cases hb:badS H e=0
  ·rw[if_neg (λz=>z hb)]at h ⊢;exact run_chn l _ _ (c.add w hb) (w.add hb) h
  ·rw[if_pos hb]at h;exact absurd h hb
def rep_chn{l:List Evt}(h:(repS l).2.2=0):Chn (repS l).1/\WfH (repS l).1:=by
 unfold repS at h ⊢;split at h
 ·exact absurd h (by decide)
 case isFalse hl=>
 rw[if_neg hl];exact run_chn l _ _ .zero .zero h
end Go.Abs
namespace Go.Abs
def rep_len{l:List Evt}(h:(repS l).2.2=0):l.length<=1000:=by
 unfold repS at h;split at h
 ·exact absurd h (by decide)
 ·omega
def now_add{H:Hst}{e:Evt}(hk:kdD e≠.undo):(addS H e).now=nxtS H.now e (kdD e):=by
 rw[addS,if_neg hk];show(H.regs++[_]).getLastD _=_;simp[List.getLastD_eq_getLast?]
theorem run_evs:∀(l:List Evt) (H:Hst) (i:Nat),(runS H l i).2.2=0->(runS H l i).1.evs=H.evs++l
 |[],H,i,_=>by simp[runS]
 |e::l,H,i,h=>by
  rw[runS]at h ⊢;by_cases hb:badS H e=0
  ·rw[if_neg (λz=>z hb)]at h ⊢;rw[run_evs l _ _ h];have:(addS H e).evs=H.evs++[e]:=by unfold addS;split<;>rfl
   rw[this,List.append_assoc];rfl
  ·rw[if_pos hb]at h;exact absurd h hb
def rep_evs{l:List Evt}(h:(repS l).2.2=0):(repS l).1.evs=l:=by
 have hl:=rep_len h;have e:repS l=runS Hst.zero l 0:=by rw[repS,if_neg (by omega)]
 rw[e]at h ⊢;rw[run_evs l _ _ h];rfl
def tick_0{t:Int}(h:0<=t/\t<=999999999):tickS t=0:=by
 unfold tickS rangeS;rw[if_neg (by omega)]
def safe_val{l:List Evt}{x:ShR}{t:Int}(h:(repS l).2.2=0)(w:WfR (repS l).1.now)(hx:x∈(repS l).1.now.shots)(ht:0<=t/\t<=999999999):safeQ l x.name t=(safeS (repS l).1.now x t,0):=by
 have hh:hasS (repS l).1.now 2 x.name=true:=decide_eq_true (List.mem_map_of_mem (f:=ShR.name) hx);have ho:opnS l 2 x.name=((repS l).1.now,0):=by rw[opnS,if_neg (λz=>z h),hh];rfl
 have hs:shotS (repS l).1.now x.name=x:=getN_eq w.n2.nd hx;unfold safeQ;rw[ho,tick_0 ht,hs];exact if_neg (λz=>z rfl)
def tape_val{R:Reg}(w:WfR R){x:TpR}(hx:x∈R.tapes):tapeS R x.name=x:=getN_eq w.n1.nd hx
end Go.Abs
namespace Go.Abs
structure AcS(l:List Evt)(R:Reg):Prop where
 ok:(repS l).2.2=0
 now:(repS l).1.now=R
def rep_wfA{l:List Evt}(h:(repS l).2.2=0):WfR (repS l).1.now:=(rep_chn h).2.now
def acE_bad{l:List Evt}{R:Reg}{e:Evt}{d:Kd}(s:AcS l R)(hn:e.num=(l.length:Int)+1)(hk:kdD e=d)(hd:d≠.undo):accS (repS l).1 e=errS R e d:=by
 unfold accS;rw[if_neg (by rw[rep_evs s.ok];exactλz=>z hn),hk,if_neg hd,s.now]
def acE_acpt{l:List Evt}{R:Reg}{e:Evt}{d:Kd}(s:AcS l R)(hl:l.length<1000)(hn:e.num=(l.length:Int)+1)(hk:kdD e=d)(hd:d≠.undo)(hc:chkE e=0):acptS l e=errS R e d:=by
 have h1:firstS [(repS l).2.2,chkE e,whenS (decide (1000<=l.length)) 5]=0:=by
  rw[s.ok,hc,decide_eq_false (by omega)];rfl
 unfold acptS;rw[if_neg (λz=>z h1)];exact acE_bad s hn hk hd
def AcS.step{l:List Evt}{R:Reg}{e:Evt}{d:Kd}(s:AcS l R)(hl:l.length<1000)(hn:e.num=(l.length:Int)+1)(hk:kdD e=d)(hd:d≠.undo)(hc:chkE e=0)(he:errS R e d=0):acptS l e=0/\AcS (l++[e]) (nxtS R e d):=by
 refine⟨by rw[acE_acpt s hl hn hk hd hc,he],?_⟩;have hb:badS (repS l).1 e=0:=by
  unfold badS;rw[if_neg (λz=>z hc),acE_bad s hn hk hd,he]
 have h2:=repS_snoc (e:=e) s.ok hl;rw[if_neg (λz=>z hb)]at h2;refine⟨by rw[h2],?_⟩;rw[h2];show(addS _ e).now=_;rw[now_add (by rw[hk];exact hd),hk,s.now]
def acN(i:Nat):List UInt8:=[UInt8.ofNat (97+i)]
def acN_ok:∀i,i<8->nameS (acN i)=true:=by decide
def acN_ne:∀i,i<8->∀j,j<8->(acN i=acN j↔i=j):=by decide
def nm_s:nameS [115]=true/\nameS [108]=true:=by decide
def evT(n:Nat)(d:Kd)(nm:List (List UInt8))(vl:List Int):Evt:=⟨(n:Int)+1,kdName d,nm,vl,[]⟩
def evT_kd{n d nm vl}:kdD (evT n d nm vl)=d:=by
 unfold kdD evT;rw[kdOf_name];rfl
def evT_chk{n:Nat}{d nm vl}(hn:n<1000)(h1:nm.length=(rolesK d).length)(h2:vl.length=valsK d)(h3:∀x∈nm,nameS x=true)(h4:∀v∈vl,0<=v/\v<=999999999):chkE (evT n d nm vl)=0:=by
 unfold chkE;rw[if_neg (by unfold evT rangeS;simp only;rw[if_neg (by omega)];exactλz=>z rfl)];have hk:kdOf (evT n d nm vl).kind=some d:=kdOf_name d;rw[hk];simp only;rw[if_neg (by simp only[evT];omega)];rw[if_neg (by
  simp only[evT,Bool.not_eq_true,List.any_eq_false,Bool.not_eq_true',Bool.not_eq_false];exact h3)]
 rw[if_neg (by
  simp only[evT,Bool.not_eq_true,List.any_eq_false,decide_eq_true_eq,Decidable.not_not];intro v hv;have:=h4 v hv;unfold rangeS;rw[if_neg (by omega)])]
 rw[if_neg (by simp only[evT];exactλz=>z rfl)]
def acJ(ms i:Nat):Nat:=if ms=0 then i else min i ms
def acTp(p f:Int)(k:Nat):TpR:=⟨acN k,k*p+f⟩
def acR(p f:Int)(ms i:Nat):Reg:=⟨((i-1:Nat):Int)*p,[⟨[108],1,false⟩],(List.range i).map (acTp p f),[⟨[115],[108],(List.range (acJ ms i)).map acN⟩],[],[],[]⟩
def acL(p f:Int)(ms:Nat):Nat->List Evt
 | 0=>[]
 |i+1=>
  let l:=acL p f ms i
  let l1:=l++[evT l.length .tape [acN i] [(i:Int)*p,f]]
  if i=0 then l1++[evT l1.length .line [[108]] [0,1]]++[evT (l1.length+1) .shot [[115],[108],acN 0] [0]]
  else if i=ms then l1 else l1++[evT l1.length .copy [acN (i-1),acN i] [(i:Int)*p]]
theorem acL_len(p f:Int)(ms:Nat):∀i,(acL p f ms i).length<=3*i
 | 0=>by simp[acL]
 |i+1=>by
  have:=acL_len p f ms i;unfold acL;simp only;split
  ·simp;omega
  ·split
   ·simp;omega
   ·simp;omega
def rg_map{α:Type}(f:Nat->α)(n:Nat):(List.range (n+1)).map f=(List.range n).map f++[f n]:=by
 rw[List.range_succ,List.map_append];rfl
def rg_mem{n i:Nat}(hi:i<8)(hn:n<=8):acN i∈(List.range n).map acN↔i<n:=by
 rw[List.mem_map];constructor
 ·rintro⟨k,hk,e⟩;rw[List.mem_range]at hk;rw[<- (acN_ne k (by omega) i hi).1 e];exact hk
 ·intro h;exact⟨i,List.mem_range.2 h,rfl⟩
def tp_names(p f:Int)(n:Nat):((List.range n).map (acTp p f)).map TpR.name=(List.range n).map acN:=by rw[List.map_map];rfl
section
variable {p f:Int}{ms i:Nat}
def ac_has(hi:i<=8){k:Nat}(hk:k<8):hasS (acR p f ms i) 1 (acN k)=decide (k<i):=by
 show decide (acN k∈((List.range i).map (acTp p f)).map TpR.name)=_;rw[tp_names];exact decide_eq_decide.2 (rg_mem hk hi)
def ac_tape{l:List Evt}(s:AcS l (acR p f ms i))(hi:i<=8){k:Nat}(hk:k<i):tapeS (acR p f ms i) (acN k)=acTp p f k:=by
 have w:=rep_wfA s.ok;rw[s.now]at w;exact tape_val w (x:=acTp p f k) (List.mem_map.2 ⟨k,List.mem_range.2 hk,rfl⟩)
def ac_read{l:List Evt}(s:AcS l (acR p f ms i))(hi:i<=8){k:Nat}(hk:k<i)(t:Int):readS (acR p f ms i) t (acN k)=decide (t<=(k:Int)*p+f):=by
 unfold readS;rw[ac_tape s hi hk];rfl
def acJ_le:acJ ms i<=i:=by unfold acJ;split<;>omega
def acJ_one:acJ ms 1=1:=by unfold acJ;split<;>omega
def vl0{n d nm v vs}:vlE (evT n d nm (v::vs)) 0=v:=rfl
def nm0{n d x xs vl}:nmE (evT n d (x::xs) vl) 0=x:=rfl
def ac_tpS{l:List Evt}(hp:1<=p/\p<=20)(hf:p<=f/\f<=29)(s:AcS l (acR p f ms i))(hl:l.length<100)(h0:0<i)(hi:i<8):
  acptS l (evT l.length .tape [acN i] [(i:Int)*p,f])=0/\AcS (l++[evT l.length .tape [acN i] [(i:Int)*p,f]]) {acR p f ms i with tapes:=(List.range (i+1)).map (acTp p f),tick:=(i:Int)*p}:=by
 have hip:0<=(i:Int)*p/\(i:Int)*p<=140:=⟨Int.mul_nonneg (by omega) (by omega),by
  have h1:(i:Int)*p<=7*p:=Int.mul_le_mul_of_nonneg_right (by omega) (by omega);omega⟩
 have hst:((i-1:Nat):Int)*p<=(i:Int)*p:=Int.mul_le_mul_of_nonneg_right (by omega) (by omega);have hc:chkE (evT l.length .tape [acN i] [(i:Int)*p,f])=0:=evT_chk (by omega) rfl rfl (by simpa using acN_ok i hi) (by
  intro v hv;simp only[List.mem_cons,List.not_mem_nil,or_false]at hv;rcases hv with rfl|rfl<;>omega)
 have he:errS (acR p f ms i) (evT l.length .tape [acN i] [(i:Int)*p,f]) .tape=0:=by
  have hh:hasS (acR p f ms i) 1 (acN i)=false:=by rw[ac_has (by omega) hi];exact decide_eq_false (by omega)
  have hn:nmsS .tape (acR p f ms i) (evT l.length .tape [acN i] [(i:Int)*p,f])=0:=by
   simp only[nmsS,rolesK,unkS,twcS,nm0,hh];rfl
  unfold errS;rw[if_neg (by rw[vl0];show ¬(i:Int)*p<((i-1:Nat):Int)*p;omega),if_neg (λz=>z hn)];simp only[chkK];rw[if_neg (by show ¬999999999<(i:Int)*p+f;omega),if_neg (by show ¬16<=((List.range i).map (acTp p f)).length;simp;omega)]
 have:=s.step (by omega) rfl evT_kd (by decide) hc he;refine⟨this.1,?_⟩;have e:nxtS (acR p f ms i) (evT l.length .tape [acN i] [(i:Int)*p,f]) .tape={acR p f ms i with tapes:=(List.range (i+1)).map (acTp p f),tick:=(i:Int)*p}:=by
  rw[rg_map];rfl
 rw[<-e];exact this.2
def ac_cpS{l:List Evt}(hp:1<=p/\p<=20)(hf:p<=f/\f<=29)(s:AcS l {acR p f ms i with tapes:=(List.range (i+1)).map (acTp p f),tick:=(i:Int)*p})(hl:l.length<100)(h0:0<i)(hi:i<8)(hm:i≠ms):
  acptS l (evT l.length .copy [acN (i-1),acN i] [(i:Int)*p])=0/\AcS (l++[evT l.length .copy [acN (i-1),acN i] [(i:Int)*p]]) (acR p f ms (i+1)):=by
 have hip:0<=(i:Int)*p/\(i:Int)*p<=140:=⟨Int.mul_nonneg (by omega) (by omega),by
  have h1:(i:Int)*p<=7*p:=Int.mul_le_mul_of_nonneg_right (by omega) (by omega);omega⟩
 obtain⟨R,hR⟩:∃R,R={acR p f ms i with tapes:=(List.range (i+1)).map (acTp p f),tick:=(i:Int)*p}:=⟨_,rfl⟩;rw[<-hR]at s;have hc:chkE (evT l.length .copy [acN (i-1),acN i] [(i:Int)*p])=0:=evT_chk (by omega) rfl rfl (by
  intro v hv;simp only[List.mem_cons,List.not_mem_nil,or_false]at hv;rcases hv with rfl|rfl
  ·exact acN_ok _ (by omega)
  ·exact acN_ok _ hi) (by
  intro v hv;simp only[List.mem_cons,List.not_mem_nil,or_false]at hv;rcases hv with rfl;omega)
 have hh:∀k,k<=i->hasS R 1 (acN k)=true:=λk hk=>by
  rw[hR];show decide (acN k∈((List.range (i+1)).map (acTp p f)).map TpR.name)=true;rw[tp_names];exact decide_eq_true ((rg_mem (by omega) (by omega)).2 (by omega))
 have w:=rep_wfA s.ok;rw[s.now]at w;have ht:∀k,k<=i->tapeS R (acN k)=acTp p f k:=λk hk=>tape_val w (x:=acTp p f k) (by rw[hR];exact List.mem_map.2 ⟨k,List.mem_range.2 (by omega),rfl⟩)
 have n1:nmE (evT l.length .copy [acN (i-1),acN i] [(i:Int)*p]) 1=acN i:=rfl;have he:errS R (evT l.length .copy [acN (i-1),acN i] [(i:Int)*p]) .copy=0:=by
  have hn:nmsS .copy R (evT l.length .copy [acN (i-1),acN i] [(i:Int)*p])=0:=by
   simp only[nmsS,rolesK,unkS,twcS,nm0,n1,Nat.zero_add,hh _ (Nat.le_refl i),hh _ (Nat.sub_le i 1)];rfl
  unfold errS;rw[if_neg (by rw[vl0,hR];show ¬(i:Int)*p<(i:Int)*p;omega),if_neg (λz=>z hn)];simp only[chkK,nm0,n1,vl0,readS,ht _ (Nat.le_refl i),ht _ (Nat.sub_le i 1),acTp];have e1:((i-1:Nat):Int)*p=(i:Int)*p-p:=by
   rw[show((i-1:Nat):Int)=(i:Int)-1 by omega,Int.sub_mul,Int.one_mul]
  rw[if_neg (by rw[acN_ne _ (by omega) _ hi];omega),if_neg (by rw[decide_eq_true (by omega)];exactλz=>Bool.noConfusion z),if_neg (by rw[decide_eq_true (by omega)];exactλz=>Bool.noConfusion z)]
 have:=s.step (by omega) rfl evT_kd (by decide) hc he;refine⟨this.1,?_⟩;have e:nxtS R (evT l.length .copy [acN (i-1),acN i] [(i:Int)*p]) .copy=acR p f ms (i+1):=by
  rw[hR];simp only[nxtS,actK,nm0,n1,vl0,acR,List.map_cons,List.map_nil,cpyS,Nat.add_sub_cancel];have hj:acJ ms i<=i:=acJ_le;simp only[rg_mem (show i-1<8 by omega) (show acJ ms i<=8 by omega),rg_mem hi (show acJ ms i<=8 by omega)];by_cases hc:i-1<acJ ms i
  ·have e1:acJ ms i=i:=by omega
   have e2:acJ ms (i+1)=i+1:=by
    unfold acJ at e1 ⊢;by_cases hz:ms=0
    ·rw[if_pos hz]
    ·rw[if_neg hz]at e1 ⊢;omega
   rw[if_pos ⟨hc,by omega⟩,e1,e2,rg_map acN]
  ·have e2:acJ ms (i+1)=acJ ms i:=by
    unfold acJ at hc ⊢;by_cases hz:ms=0
    ·rw[if_pos hz]at hc;exact absurd (by omega) hc
    ·rw[if_neg hz]at hc ⊢;rw[if_neg hz];omega
   rw[if_neg (λz=>hc z.1),e2]
 rw[<-e];exact this.2
def ac_gap{l:List Evt}(s:AcS l {acR p f i i with tapes:=(List.range (i+1)).map (acTp p f),tick:=(i:Int)*p})(h0:0<i):AcS l (acR p f i (i+1)):=by
 have e:acJ i i=acJ i (i+1):=by unfold acJ;rw[if_neg (by omega),if_neg (by omega)];omega
 have e2:({acR p f i i with tapes:=(List.range (i+1)).map (acTp p f),tick:=(i:Int)*p}:Reg)=acR p f i (i+1):=by
  simp only[acR,e,Nat.add_sub_cancel]
 rw[<-e2];exact s
def ac_one(hp:1<=p/\p<=20)(hf:p<=f/\f<=29):
  acptS [] (evT 0 .tape [acN 0] [((0:Nat):Int)*p,f])=0/\acptS [evT 0 .tape [acN 0] [((0:Nat):Int)*p,f]] (evT 1 .line [[108]] [0,1])=0/\
  acptS [evT 0 .tape [acN 0] [((0:Nat):Int)*p,f],evT 1 .line [[108]] [0,1]] (evT 2 .shot [[115],[108],acN 0] [0])=0/\
  AcS [evT 0 .tape [acN 0] [((0:Nat):Int)*p,f],evT 1 .line [[108]] [0,1],evT 2 .shot [[115],[108],acN 0] [0]] (acR p f ms 1):=by
 have z0:((0:Nat):Int)*p=0:=by simp
 rw[z0];have s0:AcS [] Reg.zero:=⟨rfl,rfl⟩;have h1:=s0.step (e:=evT 0 .tape [acN 0] [0,f]) (d:=.tape) (by simp) rfl evT_kd (by decide) (evT_chk (by omega) rfl rfl (by simpa using acN_ok 0 (by omega)) (by
  intro v hv;simp only[List.mem_cons,List.not_mem_nil,or_false]at hv;rcases hv with rfl|rfl<;>omega)) (by
  have hn:nmsS .tape Reg.zero (evT 0 .tape [acN 0] [0,f])=0:=rfl;unfold errS;rw[if_neg (by rw[vl0];decide),if_neg (λz=>z hn)];simp only[chkK];rw[if_neg (by show ¬999999999<0+f;omega),if_neg (by decide)])
 have n1:nxtS Reg.zero (evT 0 .tape [acN 0] [0,f]) .tape=⟨0,[],[⟨acN 0,0+f⟩],[],[],[],[]⟩:=rfl;rw[n1]at h1;have h2:=h1.2.step (e:=evT 1 .line [[108]] [0,1]) (d:=.line) (by simp) rfl evT_kd (by decide) (evT_chk (by omega) rfl rfl (by simpa using nm_s.2) (by
  intro v hv;simp only[List.mem_cons,List.not_mem_nil,or_false]at hv;rcases hv with rfl|rfl<;>omega)) rfl
 have n2:nxtS ⟨0,[],[⟨acN 0,0+f⟩],[],[],[],[]⟩ (evT 1 .line [[108]] [0,1]) .line=⟨0,[⟨[108],1,false⟩],[⟨acN 0,0+f⟩],[],[],[],[]⟩:=rfl;rw[n2]at h2;have h3:=h2.2.step (e:=evT 2 .shot [[115],[108],acN 0] [0]) (d:=.shot) (by simp) rfl evT_kd (by decide) (evT_chk (by omega) rfl rfl (by
  intro v hv;simp only[List.mem_cons,List.not_mem_nil,or_false]at hv;rcases hv with rfl|rfl|rfl
  ·exact nm_s.1
  ·exact nm_s.2
  ·exact acN_ok 0 (by omega)) (by
  intro v hv;simp only[List.mem_cons,List.not_mem_nil,or_false]at hv;rcases hv with rfl;omega)) (by
  have hn:nmsS .shot ⟨0,[⟨[108],1,false⟩],[⟨acN 0,0+f⟩],[],[],[],[]⟩ (evT 2 .shot [[115],[108],acN 0] [0])=0:=rfl;unfold errS;rw[if_neg (by rw[vl0];show ¬(0:Int)<0;decide),if_neg (λz=>z hn)];simp only[chkK];have hr:readS ⟨0,[⟨[108],1,false⟩],[⟨acN 0,0+f⟩],[],[],[],[]⟩ (vlE (evT 2 .shot [[115],[108],acN 0] [0]) 0) (nmE (evT 2 .shot [[115],[108],acN 0] [0]) 2)=true:=by
   show decide (0<=0+f)=true;exact decide_eq_true (by omega)
  rw[hr];rfl)
 refine⟨h1.1,h2.1,h3.1,?_⟩;have n3:nxtS ⟨0,[⟨[108],1,false⟩],[⟨acN 0,0+f⟩],[],[],[],[]⟩ (evT 2 .shot [[115],[108],acN 0] [0]) .shot=acR p f ms 1:=by
  simp only[acR,acJ_one];have:((1-1:Nat):Int)*p=0:=by simp
  rw[this];show _=Reg.mk 0 [⟨[108],1,false⟩] [⟨acN 0,((0:Nat):Int)*p+f⟩] [⟨[115],[108],[acN 0]⟩] [] [] [];rw[z0];rfl
 rw[<-n3];exact h3.2
theorem ac_all(hp:1<=p/\p<=20)(hf:p<=f/\f<=29):∀i,0<i->i<=8->AcS (acL p f ms i) (acR p f ms i)
 | 0,h,_=>absurd h (by omega)
 | 1,_,_=>(ac_one hp hf).2.2.2
 |i+2,_,h=>by
  have s:=ac_all hp hf (i+1) (by omega) (by omega);have hl:=acL_len p f ms (i+1);rw[acL,if_neg (by omega)];have h1:=ac_tpS hp hf s (by omega) (by omega) (by omega);by_cases hm:i+1=ms
  ·rw[if_pos hm];subst hm;exact ac_gap h1.2 (by omega)
  ·rw[if_neg hm];exact(ac_cpS hp hf h1.2 (by simp;omega) (by omega) (by omega) hm).2
def ac_safe(hp:1<=p/\p<=20)(hf:p<=f/\f<=29){n:Nat}(h0:0<n)(h8:n<=8){t:Int}(ht:0<=t/\t<=999999999):
  safeQ (acL p f ms n) [115] t=(decide (t<=((acJ ms n-1:Nat):Int)*p+f),0)/\unsafeQ (acL p f ms n) t=(if t<=((acJ ms n-1:Nat):Int)*p+f then []else [[115]],0):=by
 have s:=ac_all (ms:=ms) hp hf n h0 h8;have hj:acJ ms n<=n:=acJ_le;have hj0:0<acJ ms n:=by unfold acJ;split<;>omega
 have w:=rep_wfA s.ok;have hs:safeS (acR p f ms n) ⟨[115],[108],(List.range (acJ ms n)).map acN⟩ t=decide (t<=((acJ ms n-1:Nat):Int)*p+f):=by
  unfold safeS;rw[List.any_map];by_cases h:t<=((acJ ms n-1:Nat):Int)*p+f
  ·rw[decide_eq_true h,List.any_eq_true];exact⟨acJ ms n-1,List.mem_range.2 (by omega),by show readS _ _ (acN _)=true;rw[ac_read s h8 (by omega)];exact decide_eq_true h⟩
  ·rw[decide_eq_false h,List.any_eq_false];intro k hk;rw[List.mem_range]at hk;show ¬readS _ _ (acN k)=true;rw[ac_read s h8 (by omega),decide_eq_true_eq];have:(k:Int)*p<=((acJ ms n-1:Nat):Int)*p:=Int.mul_le_mul_of_nonneg_right (by omega) (by omega);omega
 constructor
 ·have:=safe_val (x:=⟨[115],[108],(List.range (acJ ms n)).map acN⟩) s.ok w (by rw[s.now];exact List.mem_singleton.2 rfl) ht;rw[this,s.now,hs]
 ·unfold unsafeQ;rw[s.ok,tick_0 ht,s.now,if_neg (λz=>z rfl),unsafeS];have hf:(acR p f ms n).shots.filter (λx=>!safeS (acR p f ms n) x t)=if(!decide (t<=((acJ ms n-1:Nat):Int)*p+f))=true then [⟨[115],[108],(List.range (acJ ms n)).map acN⟩]else []:=by
   show List.filter (λx=>!safeS (acR p f ms n) x t) [_]=_;rw[List.filter_cons,hs,List.filter_nil]
  rw[hf];by_cases h:t<=((acJ ms n-1:Nat):Int)*p+f
  ·rw[if_pos h,decide_eq_true h];rfl
  ·rw[if_neg h,decide_eq_false h];rfl
def ac_late(hp:1<=p/\p<=20)(hf:p<=f/\f<=29){n:Nat}(h0:2<=n)(h8:n<=8):
  acptS (acL p f ms n) (evT (acL p f ms n).length .copy [acN (n-2),acN (n-1)] [((n-2:Nat):Int)*p+f+1])=30:=by
 have s:=ac_all (ms:=ms) hp hf n (by omega) h8;have hl:=acL_len p f ms n;obtain⟨l,hl'⟩:∃l,l=acL p f ms n:=⟨_,rfl⟩;rw[<-hl']at s hl ⊢;have hip:0<=((n-2:Nat):Int)*p/\((n-2:Nat):Int)*p<=140:=⟨Int.mul_nonneg (by omega) (by omega),by
  have h1:((n-2:Nat):Int)*p<=7*p:=Int.mul_le_mul_of_nonneg_right (by omega) (by omega);omega⟩
 have hc:chkE (evT l.length .copy [acN (n-2),acN (n-1)] [((n-2:Nat):Int)*p+f+1])=0:=evT_chk (by omega) rfl rfl (by
  intro v hv;simp only[List.mem_cons,List.not_mem_nil,or_false]at hv;rcases hv with rfl|rfl
  ·exact acN_ok _ (by omega)
  ·exact acN_ok _ (by omega)) (by
  intro v hv;simp only[List.mem_cons,List.not_mem_nil,or_false]at hv;rcases hv with rfl;omega)
 rw[acE_acpt s (by omega) rfl evT_kd (by decide) hc];have n1:nmE (evT l.length .copy [acN (n-2),acN (n-1)] [((n-2:Nat):Int)*p+f+1]) 1=acN (n-1):=rfl;have hn:nmsS .copy (acR p f ms n) (evT l.length .copy [acN (n-2),acN (n-1)] [((n-2:Nat):Int)*p+f+1])=0:=by
  simp only[nmsS,rolesK,unkS,twcS,nm0,n1,Nat.zero_add,ac_has h8 (show n-2<8 by omega),ac_has h8 (show n-1<8 by omega),show decide (n-2<n)=true from decide_eq_true (by omega),show decide (n-1<n)=true from decide_eq_true (by omega)];rfl
 unfold errS;have e1:((n-1:Nat):Int)*p=((n-2:Nat):Int)*p+p:=by
  rw[show((n-1:Nat):Int)=((n-2:Nat):Int)+1 by omega,Int.add_mul,Int.one_mul]
 rw[if_neg (by rw[vl0];show ¬_<((n-1:Nat):Int)*p;omega),if_neg (λz=>z hn)];simp only[chkK,nm0,n1,vl0,ac_read s h8 (show n-2<n by omega)];rw[if_neg (by rw[acN_ne _ (by omega) _ (by omega)];omega),if_pos (by rw[decide_eq_false (by omega)];rfl)]
end
end Go.Abs
namespace Go.Abs
def IsSl.keepS{h k:AHeap}{s:AV}{es:Nat}{cs:List (List AV)}(hs:IsSl h s es cs)(hb:∀b,sB s=some b->k[b]? =h[b]?):IsSl k s es cs:=by
 cases hs with
 |nil=>exact .nil
 |mk h1 h2 h3 h4=>exact .mk ((hb _ rfl).trans h1) h2 h3 h4
def evB(x:EV)(j:Nat):Prop:=sB x.sn=some j\/sB x.sv=some j
theorem EvOk.keepS{h k:AHeap}{x:EV}(o:EvOk h x)(hk:∀j,evB x j->k[j]? =h[j]?):EvOk k x:=⟨o.n.keepS λj hj=>hk j (.inl hj),o.v.keepS λj hj=>hk j (.inr hj)⟩
structure EvG(M:Nat)(k:AHeap)(b:Nat)(s:AV)(L:List EV):Prop where
 m:k[b]? =some (.cells [s] true false)
 ow:Ow M k s 5 (L.map EV.row)
 ok:∀x∈L,EvOk k x
 nb:∀x∈L,∀j,evB x j->M<=j/\j≠b/\sB s≠some j
 nm:sB s≠some b
def sB_lt{h:AHeap}{s:AV}{es:Nat}{cs:List (List AV)}(hs:IsSl h s es cs){j:Nat}(hj:sB s=some j):j<h.length:=by
 cases hs with
 |nil=>cases hj
 |mk h1 h2 h3 h4=>cases hj;exact(List.getElem?_eq_some_iff.1 h1).1
def EvOk.lt{h:AHeap}{x:EV}(o:EvOk h x){j:Nat}(hj:evB x j):j<h.length:=by
 rcases hj with hj|hj
 ·exact sB_lt o.n hj
 ·exact sB_lt o.v hj
section
variable {M b:Nat}{h k:AHeap}{s:AV}{L:List EV}
def EvG.evs(g:EvG M k b s L):EvsOk k L s:=⟨g.ow.isSl,g.ok⟩
def EvG.keep(g:EvG M h b s L)(hb:k[b]? =h[b]?)(hs:∀j,sB s=some j->k[j]? =h[j]?)(hx:∀x∈L,∀j,evB x j->k[j]? =h[j]?):EvG M k b s L:=
 ⟨hb.trans g.m,g.ow.sBkeep hs,λx hx1=>(g.ok x hx1).keepS (hx x hx1),g.nb,g.nm⟩
def EvG.ext(g:EvG M h b s L)(e:Ext h k):EvG M k b s L:=by
 obtain⟨z,rfl⟩:=e;exact g.keep (List.getElem?_append_left (List.getElem?_eq_some_iff.1 g.m).1) (λj hj=>List.getElem?_append_left (g.ow.sBlt hj).2) (λx hx j hj=>List.getElem?_append_left ((g.ok x hx).lt hj))
end
def AncR(M:Nat)(h:AHeap)(b:Nat)(s:AV)(L:List EV)(x:EV)(v:AV)(k:AHeap):Prop:=
 v=.bool true/\h.length<=k.length/\(∃s',EvG M k b s' (L++[x])/\∀j,sB s' =some j->h.length<=j)/\∀j,j<h.length->j≠b->sB s≠some j->k[j]? =h[j]?
structure TwA(b b9:Nat)(s:AV)(c:List AV)(g:AHeap):Prop where
 m:g[b]? =some (.cells [s] true false)
 m9:g[b9]? =some (.cells c true false)
def TwA.ext{b b9:Nat}{s:AV}{c:List AV}{g k:AHeap}(t:TwA b b9 s c g)(e:Ext g k):TwA b b9 s c k:=⟨e.some t.m,e.some t.m9⟩
def fill_ev{n:Int}{kd:List UInt8}{sn sv:AV}(h1:sn.cells=[sn])(h2:sv.cells=[sv]):fillA [.int .i64 0,.str [],.nilSlice,.nilSlice,.str []] [(0,1,.int .i64 n),(1,1,.str kd),(2,1,sn),(3,1,sv)]=some [.int .i64 n,.str kd,sn,sv,.str []]:=by
 unfold fillA;rw[if_pos ⟨rfl,by decide⟩];unfold fillA;rw[if_pos ⟨rfl,by show 1+1<=5;omega⟩];unfold fillA;rw[h1,if_pos ⟨rfl,by show 2+1<=5;omega⟩];unfold fillA;rw[h2,if_pos ⟨rfl,by show 3+1<=5;omega⟩];rfl
set_option maxRecDepth 10000
attribute [local irreducible] WP WC WE WB WR WF WL WG WRg WQ
section
variable {P:Program}(T:Tbl P) {h:AHeap}
include T
def r5{M b:Nat}{s:AV}{L:List EV}(g:EvG M h b s L)(hM:M<=h.length)(gl:Gl h)(sh:ShE L)(hl:L.length<1000){kd:List UInt8}{nm:List (List UInt8)}{vl:List Int}{sn sv:AV}(on:IsSl h sn 1 (nm.map strRow))(ov:IsSl h sv 1 (vl.map intRow))(sz:nm.length<=3/\vl.length<=3)
  (fr:∀j,evB ⟨⟨(L.length:Int)+1,kd,nm,vl,[]⟩,sn,sv⟩ j->M<=j/\j≠b/\sB s≠some j) (ac:acptS (L.map EV.ev) ⟨(L.length:Int)+1,kd,nm,vl,[]⟩=0):
  GCall P 5 [.ptr b 0,.str kd,sv,sn] h (AncR M h b s L ⟨⟨(L.length:Int)+1,kd,nm,vl,[]⟩,sn,sv⟩):=by
 obtain⟨X,hX⟩:∃X:EV,X=⟨⟨(L.length:Int)+1,kd,nm,vl,[]⟩,sn,sv⟩:=⟨_,rfl⟩;have oX:EvOk h X:=by rw[hX];exact⟨on,ov⟩
 have hrow:X.row=[.int .i64 ((L.length:Int)+1),.str kd,sn,sv,.str []]:=by rw[hX];rfl
 have hXe:X.ev=⟨(L.length:Int)+1,kd,nm,vl,[]⟩:=by rw[hX]
 rw[<-hX]at fr ⊢;rw[<-hXe]at ac;refine .st4 35 T.mix T.c5 ?_;intro ts hlen t0 t1 t2 t3;unfold fn5;have hlm:=λG=>g.evs.sl.lenm G
 have l1:=@ldx _ _ _ g.m;have lv:ldV [s][0]? =some (s,.keep):=rfl;have e1:IntKind.i64.wrap ((L.length:Int)+1)=(L.length:Int)+1:=wrap_in (by omega) (by omega);have bd:=@fill_ev ((L.length:Int)+1) kd sn sv on.cells ov.cells;rw[<-hrow]at bd;have bz:∀{N:Nat},boxF (.agg [.int .i64 0,.str [],.nilSlice,.nilSlice,.str []]) N=some (.ptr N 0,.push (.cells [.int .i64 0,.str [],.nilSlice,.nilSlice,.str []] true false)):=λ{N}=>rfl
 have st:∀{b':Nat}{a0 a1 a2 a3 a4:AV},stB 5 0 (.agg X.row) b' (.cells [a0,a1,a2,a3,a4] true false)=some (undefA,.set b' (.cells X.row true false)):=λ{_ _ _ _ _ _}=>oX.st
 repeat (first|simp (config:={maxSteps:=1000000}) only[wset,hset,dset,bset,Nat.reduceAdd,Nat.reduceMul,Nat.reduceLeDiff,Nat.reduceEqDiff,pset,hlen,if_false,if_true,t0,t1,t2,t3,hlm,l1,lv,e1,bd,bz,st]|simp (config:={maxSteps:=1000000}) (disch:=first|(simp only[List.length_append,List.length_cons,List.length_nil]<;>omega)|rfl|omega|fail) only[kset,wset,hset,dset,bset,Nat.reduceAdd,Nat.reduceMul,Nat.reduceLeDiff,Nat.reduceEqDiff,pset,hlen,if_false,if_true,t0,t1,t2,t3,hlm,l1,lv,e1,bd,bz,st])
 obtain⟨K,hK⟩:∃K,K=h++[ABlk.cells X.row true false]:=⟨_,rfl⟩;have eK:Ext h K:=by rw[hK];exact Xx
 have m9:K[h.length]? =some (.cells X.row true false):=by rw[hK];exact at_new
 have hKl:K.length=h.length+1:=by rw[hK,List.length_append,List.length_singleton]
 rw[<-hK];clear hK;obtain⟨b9,hb9⟩:∃b9,b9=h.length:=⟨_,rfl⟩;rw[<-hb9]at m9 ⊢;have gK:=g.ext eK;have l9:ldB (some 5) 0 (.cells X.row true false)=some (.agg X.row,.keep):=rfl;have S5:TwA b b9 s X.row K:=⟨gK.m,m9⟩;refine WC_opsM (TwA b b9 s X.row) ?_;refine WM_op S5 rfl rfl ?_;refine Rs @t0 ?_;have S6:TwA b b9 s X.row (K++[ABlk.cells [] true false]):=S5.ext ⟨_,rfl⟩;refine WM_op S6 rfl rfl ?_;refine Rs @t0 ?_;refine WM_op S6 rfl rfl ?_;refine Rs @t0 ?_;refine WM_ld S6 (v:=s) (λg hg=>?_) ?_
 ·simp only[wset,hset,dset,bset,Nat.reduceAdd,Nat.reduceMul,Nat.reduceLeDiff,Nat.reduceEqDiff,pset,hlen,if_false,if_true,loadF_at hg.m,lv]
 refine WM_op S6 rfl rfl ?_;refine Rs @t0 ?_;refine WR.appz (N:=K.length) (w:=88) at_new (Nat.le_refl _) (gK.evs.sl.ext Xx) (by rw[List.length_map];omega) λv y1 f1=>?_
 obtain⟨K2,hK2⟩:∃K2,K2=K++[ABlk.cells [] true false]++y1:=⟨_,rfl⟩;rw[<-hK2]at f1 ⊢;have e12:Ext K K2:=by rw[hK2];exact Xx
 clear hK2;have S7:=S5.ext e12;refine Rs @t0 ?_;refine WM_ld S7 (v:=.agg X.row) (λg hg=>?_) ?_
 ·simp only[wset,hset,dset,bset,Nat.reduceAdd,Nat.reduceMul,Nat.reduceLeDiff,Nat.reduceEqDiff,pset,hlen,if_false,if_true,loadF_at hg.m9,l9]
 refine WM_op S7 rfl rfl ?_;have g2:=gK.ext e12;refine Rs @t0 ?_;refine WF.ce T.c10 (r10 T ⟨f1.isSl,g2.ok⟩ sh (gl.ext (eK.trans e12)) (oX.ext (eK.trans e12)) (by rw[hXe];simp only;omega)) λg3=>?_
 rw[ac];refine Rs @t0 ?_;refine WM_late (S7.ext ⟨_,rfl⟩) rfl ?_;obtain⟨W,hW⟩:∃W,W=K2++g3:=⟨_,rfl⟩;have eW:Ext K W:=e12.trans (by rw[hW];exact Xx);have ehW:Ext h W:=eK.trans eW;have gW:=gK.ext eW;have m9W:=eW.some m9;have oXW:=oX.ext ehW;rw[<-hW];clear hW;have l1W:=@ldx _ _ _ gW.m;have l9W:=@ldx _ _ _ m9W;have hb5:=@EvOk.bsl _ _ oXW;have hlW:=eW.len;have hlK:=ehW.len
 repeat (first|simp (config:={maxSteps:=1000000}) only[wset,hset,dset,bset,Nat.reduceAdd,Nat.reduceMul,Nat.reduceLeDiff,Nat.reduceEqDiff,pset,hlen,if_false,if_true,t0,dz0,l1W,l9W,l9,lv,hb5]|simp (config:={maxSteps:=1000000}) (disch:=first|(simp only[List.length_append,List.length_cons,List.length_nil]<;>omega)|rfl|omega|fail) only[kset,wset,hset,dset,bset,Nat.reduceAdd,Nat.reduceMul,Nat.reduceLeDiff,Nat.reduceEqDiff,pset,hlen,if_false,if_true,t0,dz0,l1W,l9W,l9,lv,hb5])
 refine WR.app2 (N:=M) (cs:=L.map EV.row) (ys:=[X.row]) (gW.ext ⟨_,rfl⟩).ow (Fr.push (N:=0) (Nat.zero_le _) [X.row] (by intro y hy;rw[List.mem_singleton]at hy;rw[hy];rfl)).isSl (by simp only[List.length_append];omega) (by decide) (by simp) (by simp only[List.length_map,List.length_cons,List.length_nil];omega) ?_;intro h' hl' ow' keep';obtain⟨s',hs'⟩:∃s',s' =AV.slice (W++[ABlk.cells X.row true true]).length 0 (L.map EV.row++[X.row]).length 5:=⟨_,rfl⟩;have hb':∀j,sB s' =some j->j=W.length+1:=λj hj=>by
  rw[hs',List.length_append,List.length_singleton]at hj;exact(Option.some.inj hj).symm
 have os':s'.one=true:=by rw[hs'];rfl
 rw[<-hs']at ow' ⊢;clear hs';rw[List.length_append,List.length_singleton]at hl';have kW:∀j,j<W.length->sB s≠some j->h'[j]? =W[j]? :=λj hj hn=>by
  rw[keep' j (by rw[List.length_append];omega) hn,List.getElem?_append_left hj]
 have nbs:=g.nm;have hbl:=(List.getElem?_eq_some_iff.1 g.m).1;have mb':h'[b]? =some (.cells [s] true false):=by rw[kW b (by omega) nbs];exact gW.m
 have sto:storeF 1 (.ptr b 0) s' (λz=>h'[z]?)=some (undefA,.set b (.cells [s'] true false)):=by
  rw[storeF_at mb',stB_one os' (by show 0+1<=1;omega)];rfl
 refine Rs (A2 @t0 @sto) ?_;have kh:∀j,j<h.length->j≠b->sB s≠some j->(h'.set b (.cells [s'] true false))[j]? =h[j]? :=λj hj hne hn=>by
  obtain⟨z,hz⟩:=ehW;rw[List.getElem?_set_ne (Ne.symm hne),kW j (by omega) hn,hz,List.getElem?_append_left hj]
 have nbX:∀x∈L++[X],∀j,evB x j->M<=j/\j≠b/\sB s≠some j/\j<h.length/\EvOk h x:=λx hx j hj=>by
  rcases List.mem_append.1 hx with hx|hx
  ·exact⟨(g.nb x hx j hj).1,(g.nb x hx j hj).2.1,(g.nb x hx j hj).2.2,(g.ok x hx).lt hj,g.ok x hx⟩
  ·rw[List.mem_singleton]at hx;subst hx;exact⟨(fr j hj).1,(fr j hj).2.1,(fr j hj).2.2,oX.lt hj,oX⟩
 refine⟨rfl,by rw[List.length_set];omega,⟨s',⟨set_eq' mb',?_,λx hx=>?_,λx hx j hj=>⟨(nbX x hx j hj).1,(nbX x hx j hj).2.1,λe=>?_⟩,λe=>by have:=hb' b e;omega⟩,λj hj=>by have:=hb' j hj;omega⟩,kh⟩
 ·rw[List.map_append];exact ow'.sBkeep λj hj=>List.getElem?_set_ne (by have:=hb' j hj;omega)
 ·have ox:EvOk h x:=by
   rcases List.mem_append.1 hx with hx|hx
   ·exact g.ok x hx
   ·rw[List.mem_singleton]at hx;rw[hx];exact oX
  exact ox.keepS λj hj=>by
   obtain⟨_,q1,q2,q3,_⟩:=nbX x hx j hj;exact kh j q3 q1 q2
 ·have h1:=hb' j e;have h2:=(nbX x hx j hj).2.2.2.1;omega
end
structure Two(M:Nat)(k:AHeap)(b1:Nat)(s1:AV)(L1:List EV)(b2:Nat)(s2:AV)(L2:List EV):Prop where
 g1:EvG M k b1 s1 L1
 g2:EvG M k b2 s2 L2
 d:∀j,sB s1=some j->sB s2≠some j
 x1:∀x∈L1,∀j,evB x j->sB s2≠some j
 x2:∀x∈L2,∀j,evB x j->sB s1≠some j
def Two.swap{M k b1 s1 L1 b2 s2 L2}(w:Two M k b1 s1 L1 b2 s2 L2):Two M k b2 s2 L2 b1 s1 L1:=⟨w.g2,w.g1,λj h1 h2=>w.d j h2 h1,w.x2,w.x1⟩
theorem Two.ext{M k k' b1 s1 L1 b2 s2 L2}(w:Two M k b1 s1 L1 b2 s2 L2)(e:Ext k k'):Two M k' b1 s1 L1 b2 s2 L2:=⟨w.g1.ext e,w.g2.ext e,w.d,w.x1,w.x2⟩
def Two.step{M h k b1 s1 L1 b2 s2 L2 x v}(w:Two M h b1 s1 L1 b2 s2 L2)(h12:b1≠b2)(h2M:b2<M)(h1M:b1<M)(r:AncR M h b1 s1 L1 x v k)(fr:∀j,evB x j->sB s2≠some j):v=.bool true/\h.length<=k.length/\(∃s',Two M k b1 s' (L1++[x]) b2 s2 L2)/\∀j,j<h.length->j≠b1->(j<M\/sB s1≠some j)->k[j]? =h[j]? :=by
 obtain⟨rfl,hl,⟨s',g',hs'⟩,hk⟩:=r;have hk2:∀j,j<h.length->j≠b1->(j<M\/sB s1≠some j)->k[j]? =h[j]? :=λj hj hne hn=>hk j hj hne λe=>by
  rcases hn with hn|hn
  ·have:=(w.g1.ow.sBlt e).1;omega
  ·exact hn e
 have hb2:=(List.getElem?_eq_some_iff.1 w.g2.m).1;refine⟨rfl,hl,⟨s',g',w.g2.keep (hk2 b2 hb2 (Ne.symm h12) (.inl h2M)) (λj hj=>?_) (λx hx j hj=>?_),λj hj e=>?_,λy hy j hj=>?_,λy hy j hj e=>?_⟩,hk2⟩
 ·have:=w.g2.ow.sBlt hj;exact hk j this.2 (by omega) λe=>w.d j e hj
 ·have h1:=(w.g2.nb x hx j hj).1;exact hk j ((w.g2.ok x hx).lt hj) (by omega) (w.x2 x hx j hj)
 ·have:=hs' j hj;have:=(w.g2.ow.sBlt e).2;omega
 ·rcases List.mem_append.1 hy with hy|hy
  ·exact w.x1 y hy j hj
  ·rw[List.mem_singleton]at hy;subst hy;exact fr j hj
 ·have:=hs' j e;have:=(w.g2.ok y hy).lt hj;omega
end Go.Abs
namespace Go.Abs
def isSl_strsA{X:AHeap}(l:List (List UInt8)):IsSl (X++[.cells (l.map AV.str) true true]) (.slice X.length 0 l.length 1) 1 (l.map strRow):=by
 have hf:(l.map strRow).flatten=l.map AV.str:=by induction l with
  |nil=>rfl
  |cons x xs ih=>simp[strRow]at ih ⊢;exact ih
 have h1:(l.map strRow).length=l.length:=by simp
 have:=(Fr.push (h:=X) (es:=1) (N:=0) (Nat.zero_le _) (l.map strRow) (by simp[strRow])).isSl;rw[hf,h1]at this;exact this
structure AnS(M:Nat)(k:AHeap)(b:Nat)(A:List Evt)(s:AV)(L:List EV):Prop where
 g:EvG M k b s L
 e:L.map EV.ev=A
 z:∀x∈L,x.ev.names.length<=3/\x.ev.vals.length<=3
def AnS.len{M k b A s L}(a:AnS M k b A s L):L.length=A.length:=by rw[<-a.e,List.length_map]
def AnS.sh{M k b A s L}(a:AnS M k b A s L)(hl:A.length<900):ShE L:=⟨by rw[a.len];omega,λx hx=>by have:=a.z x hx;omega⟩
theorem AnS.ext{M h k b A s L}(a:AnS M h b A s L)(e:Ext h k):AnS M k b A s L:=⟨a.g.ext e,a.e,a.z⟩
def AnS.add{M h k b A s L x e v s'}(a:AnS M h b A s L)(hx:x.ev=e)(hz:e.names.length<=3/\e.vals.length<=3)(g:EvG M k b s' (L++[x]))(_:v=AV.bool true):AnS M k b (A++[e]) s' (L++[x]):=
 ⟨g,by rw[List.map_append,a.e,<-hx];rfl,λy hy=>by
  rcases List.mem_append.1 hy with hy|hy
  ·exact a.z y hy
  ·rw[List.mem_singleton]at hy;rw[hy,hx];exact hz⟩
theorem AnS.nil{M k b}(hb:k[b]? =some (.cells [.nilSlice] true false)):AnS M k b [] .nilSlice []:=⟨⟨hb,.nil,λx hx=>(by cases hx),λx hx=>(by cases hx),λe=>(by cases e)⟩,rfl,λx hx=>(by cases hx)⟩
set_option maxRecDepth 10000
attribute [local irreducible] WP WC WE WB WR WF WL WG WRg WQ
section
variable {P:Program}(T:Tbl P) {h:AHeap}
include T
def an_call0{ro:Option Nat->Prop}{ks:List Kt}{ts:TS}{Q:Ex->TS->AHeap->Prop}{d:Option Nat}{l:List IOp}{M b:Nat}{W:AHeap}{s:AV}{L:List EV}{A:List Evt}(a:AnS M W b A s L)(hM:M<=W.length)(gl:Gl W)(hl:A.length<900){dk:Kd}{nm:List (List UInt8)}{vl:List Int}(hn:nm.length<=3)(hv:vl.length<=3)(ac:acptS A (evT A.length dk nm vl)=0)
  (K:∀k x,x.ev=evT A.length dk nm vl->(∀j,evB x j->W.length<=j)->AncR M (W++[ABlk.cells (vl.map (AV.int .i64)) true true]++[ABlk.cells (nm.map AV.str) true true]) b s L x (.bool true) k->WP P ro l ks (put ts d (.bool true)) k Q):
  WF P ro false (.func (.func 5) [] []) [.ptr b 0,.str (kdName dk),.slice W.length 0 vl.length 1,.slice (W++[ABlk.cells (vl.map (AV.int .i64)) true true]).length 0 nm.length 1] d l ks ts (W++[ABlk.cells (vl.map (AV.int .i64)) true true]++[ABlk.cells (nm.map AV.str) true true]) Q:=by
 have e2:Ext W (W++[ABlk.cells (vl.map (AV.int .i64)) true true]++[ABlk.cells (nm.map AV.str) true true]):=⟨_,List.append_assoc _ _ _⟩;have on:=isSl_strsA (X:=W++[ABlk.cells (vl.map (AV.int .i64)) true true]) nm;have ov:=(isSl_ints (X:=W) vl).ext (k:=W++[ABlk.cells (vl.map (AV.int .i64)) true true]++[ABlk.cells (nm.map AV.str) true true]) ⟨_,rfl⟩;have hbl:b<W.length:=(List.getElem?_eq_some_iff.1 a.g.m).1;have hlen:=a.len;have ge:∀j,(j=W.length\/j=W.length+1)->M<=j/\j≠b/\sB s≠some j:=λj hj=>⟨by omega,by omega,λe=>by have:=(a.g.ow.sBlt e).2;omega⟩
 have bl:∀{e:Evt} j,evB ⟨e,.slice (W++[ABlk.cells (vl.map (AV.int .i64)) true true]).length 0 nm.length 1,.slice W.length 0 vl.length 1⟩ j->j=W.length\/j=W.length+1:=λ{e} j hj=>by
  rcases hj with hj|hj
  ·have:=Option.some.inj hj;rw[List.length_append,List.length_singleton]at this;exact .inr this.symm
  ·exact .inl (Option.some.inj hj).symm
 refine WF.gen T.c5 (R:=AncR M (W++[ABlk.cells (vl.map (AV.int .i64)) true true]++[ABlk.cells (nm.map AV.str) true true]) b s L ⟨evT A.length dk nm vl,.slice (W++[ABlk.cells (vl.map (AV.int .i64)) true true]).length 0 nm.length 1,.slice W.length 0 vl.length 1⟩) ?_ λv k r=>?_
 ·have:=r5 T (a.g.ext e2) (by simp only[List.length_append];omega) (gl.ext e2) (a.sh hl) (by omega) (kd:=kdName dk) on ov ⟨hn,hv⟩ (λj hj=>ge j (bl j hj)) (by rw[a.e,hlen];exact ac);rw[hlen]at this;exact this
 ·obtain⟨rfl,r2⟩:=r;exact K k _ rfl (λj hj=>by have:=bl j hj;omega) ⟨rfl,r2⟩
def an_call{ro:Option Nat->Prop}{ks:List Kt}{ts:TS}{Q:Ex->TS->AHeap->Prop}{d:Option Nat}{l:List IOp}{M b:Nat}{W:AHeap}{s:AV}{L:List EV}{A:List Evt}(a:AnS M W b A s L)(hM:M<=W.length)(gl:Gl W)(hG:1<M)(hGb:1≠b)(hl:A.length<900)(dk:Kd)(nm:List (List UInt8))(vl:List Int)(hn:nm.length<=3)(hv:vl.length<=3)(ac:acptS A (evT A.length dk nm vl)=0)
  (K:∀k s' L',Gl k->W.length<=k.length->AnS M k b (A++[evT A.length dk nm vl]) s' L'->(∀j,j<M->j≠b->k[j]? =W[j]?)->WP P ro l ks (put ts d (.bool true)) k Q):
  WF P ro false (.func (.func 5) [] []) [.ptr b 0,.str (kdName dk),.slice W.length 0 vl.length 1,.slice (W++[ABlk.cells (vl.map (AV.int .i64)) true true]).length 0 nm.length 1] d l ks ts (W++[ABlk.cells (vl.map (AV.int .i64)) true true]++[ABlk.cells (nm.map AV.str) true true]) Q:=by
 refine an_call0 T a hM gl hl hn hv ac λk x hx _ r=>?_
 obtain⟨_,hlk,⟨s',g',_⟩,kp⟩:=r;have kM:∀j,j<M->j≠b->k[j]? =W[j]? :=λj hj hne=>by
  rw[kp j (by simp only[List.length_append];omega) hne (λe=>by have:=(a.g.ow.sBlt e).1;omega),List.append_assoc,List.getElem?_append_left (by omega)]
 obtain⟨mu,tl,e⟩:=gl;exact K k s' _ ⟨mu,tl,by rw[kM _ hG hGb];exact e⟩ (by simp only[List.length_append]at hlk;omega) (a.add hx ⟨hn,hv⟩ g' rfl) kM
end
def begL:List Evt:=[evT 0 .tape [[116]] [0,50],evT 1 .line [[108]] [0,1],evT 2 .shot [[115],[108],[116]] [1],evT 3 .accept [[108]] [1],evT 4 .source [[109],[108]] [1],evT 5 .modl [[102],[109]] [1,1],evT 6 .run [[106],[102]] [2,2]]
def beg0:acptS [] (evT 0 .tape [[116]] [0,50])=0:=by decide+kernel
def beg1:acptS (begL.take 1) (evT 1 .line [[108]] [0,1])=0:=by decide+kernel
def beg2:acptS (begL.take 2) (evT 2 .shot [[115],[108],[116]] [1])=0:=by decide+kernel
def beg3:acptS (begL.take 3) (evT 3 .accept [[108]] [1])=0:=by decide+kernel
def beg4:acptS (begL.take 4) (evT 4 .source [[109],[108]] [1])=0:=by decide+kernel
def beg5:acptS (begL.take 5) (evT 5 .modl [[102],[109]] [1,1])=0:=by decide+kernel
def beg6:acptS (begL.take 6) (evT 6 .run [[106],[102]] [2,2])=0:=by decide+kernel
def beg7:acptS begL (evT 7 .tile [[106]] [3,1,4])=0:=by decide+kernel
def beg8:acptS (begL++[evT 7 .tile [[106]] [3,1,4]]) (evT 8 .tile [[106]] [3,0,3])=0:=by decide+kernel
def beg9:acptS (begL++[evT 7 .tile [[106]] [3,1,4]]++[evT 8 .tile [[106]] [3,0,3]]) (evT 9 .pict [[112],[106]] [3])=0:=by decide+kernel
def endL:List Evt:=begL++[evT 7 .tile [[106]] [3,1,4]]++[evT 8 .tile [[106]] [3,0,3]]++[evT 9 .pict [[112],[106]] [3]]
def end_ok:(repS endL).2.2=0:=by decide+kernel
def end_pc:(repS endL).1.now.picts.map (λp=>p.digest)=[66824]:=by decide+kernel
end Go.Abs
namespace Go.Abs
def extOf{h k:AHeap}(hl:h.length<=k.length)(hk:∀j,j<h.length->k[j]? =h[j]?):Ext h k:=⟨k.drop h.length,by
 refine List.ext_getElem? λi=>?_
 by_cases hi:i<h.length
 ·rw[List.getElem?_append_left hi,hk i hi]
 ·rw[List.getElem?_append_right (by omega),List.getElem?_drop];congr 1;omega⟩
set_option maxRecDepth 10000
attribute [local irreducible] WP WC WE WB WR WF WL WG WRg WQ
section
variable {P:Program}(T:Tbl P) {h:AHeap}
include T
structure AnL(M:Nat)(k:AHeap)(A:List Evt)(s:AV)(L:List EV):Prop where
 ow:Ow M k s 5 (L.map EV.row)
 ok:∀x∈L,EvOk k x
 nb:∀x∈L,∀j,evB x j->M<=j/\sB s≠some j
 e:L.map EV.ev=A
 z:∀x∈L,x.ev.names.length<=3/\x.ev.vals.length<=3
def r31(gl:Gl h):RCall P 31 [.int .i64 2] h (λv k=>∃s L,v=.tup [s,.bool true]/\AnL h.length k begL s L):=by
 refine .st1 42 T.mix T.c31 ?_;intro ts hlen t0;unfold fn31;have hG:1<h.length:=by obtain⟨mu,tl,e⟩:=gl;exact(List.getElem?_eq_some_iff.1 e).1
 have bz:∀{N:Nat},boxF .nilSlice N=some (.ptr N 0,.push (.cells [.nilSlice] true false)):=λ{N}=>rfl
 refine Rs (A2 @t0 @bz) ?_;have e0:Ext h (h++[ABlk.cells [AV.nilSlice] true false]):=⟨_,rfl⟩;refine an_call T (M:=h.length) (AnS.nil at_new) (by simp) (gl.ext e0) hG (by omega) (by decide) .tape [[116]] [0,50] (by decide) (by decide) beg0 ?_;intro W1 s1 L1 gl1 hl1 a1 k1;replace a1:AnS h.length W1 h.length (begL.take 1) s1 L1:=a1;rw[List.length_append]at hl1;refine Rs (A2 @t0 @Bool.not_true) ?_;refine an_call T a1 (by omega) gl1 hG (by omega) (by decide) .line [[108]] [0,1] (by decide) (by decide) beg1 ?_;intro W2 s2 L2 gl2 hl2 a2 k2;replace a2:AnS h.length W2 h.length (begL.take 2) s2 L2:=a2;refine Rs (A2 @t0 @Bool.not_true) ?_
 refine an_call T a2 (by omega) gl2 hG (by omega) (by decide) .shot [[115],[108],[116]] [1] (by decide) (by decide) beg2 ?_;intro W3 s3 L3 gl3 hl3 a3 k3;replace a3:AnS h.length W3 h.length (begL.take 3) s3 L3:=a3;refine Rs (A2 @t0 @Bool.not_true) ?_;refine an_call T a3 (by omega) gl3 hG (by omega) (by decide) .accept [[108]] [1] (by decide) (by decide) beg3 ?_;intro W4 s4 L4 gl4 hl4 a4 k4;replace a4:AnS h.length W4 h.length (begL.take 4) s4 L4:=a4;refine Rs (A2 @t0 @Bool.not_true) ?_;refine an_call T a4 (by omega) gl4 hG (by omega) (by decide) .source [[109],[108]] [1] (by decide) (by decide) beg4 ?_
 intro W5 s5 L5 gl5 hl5 a5 k5;replace a5:AnS h.length W5 h.length (begL.take 5) s5 L5:=a5;refine Rs (A2 @t0 @Bool.not_true) ?_;refine an_call T a5 (by omega) gl5 hG (by omega) (by decide) .modl [[102],[109]] [1,1] (by decide) (by decide) beg5 ?_;intro W6 s6 L6 gl6 hl6 a6 k6;replace a6:AnS h.length W6 h.length (begL.take 6) s6 L6:=a6;refine Rs (A2 @t0 @Bool.not_true) ?_;refine an_call T a6 (by omega) gl6 hG (by omega) (by decide) .run [[106],[102]] [2,2] (by decide) (by decide) beg6 ?_;intro W7 s7 L7 gl7 hl7 a7 k7;replace a7:AnS h.length W7 h.length (begL.take 7) s7 L7:=a7;have ld:=@ldx _ _ _ a7.g.m
 have lv:ldV [s7][0]? =some (s7,.keep):=rfl
 repeat (first|simp (config:={maxSteps:=1000000}) only[wset,hset,dset,bset,Nat.reduceAdd,Nat.reduceMul,Nat.reduceLeDiff,Nat.reduceEqDiff,pset,hlen,if_false,if_true,t0,ld,lv]|simp (config:={maxSteps:=1000000}) (disch:=first|(simp only[List.length_append,List.length_cons,List.length_nil]<;>omega)|rfl|omega|fail) only[kset,wset,hset,dset,bset,Nat.reduceAdd,Nat.reduceMul,Nat.reduceLeDiff,Nat.reduceEqDiff,pset,hlen,if_false,if_true,t0,ld,lv])
 refine⟨extOf (by omega) λj hj=>?_,s7,L7,rfl,⟨a7.g.ow,a7.g.ok,λx hx j hj=>⟨(a7.g.nb x hx j hj).1,(a7.g.nb x hx j hj).2.2⟩,a7.e,a7.z⟩⟩;rw[k7 j hj (by omega),k6 j hj (by omega),k5 j hj (by omega),k4 j hj (by omega),k3 j hj (by omega),k2 j hj (by omega),k1 j hj (by omega),List.getElem?_append_left hj]
end
end Go.Abs
namespace Go.Abs
def hoA:Trc:=⟨λ_=>0,false,[1065353216,1073741824,1082130432]⟩
def hoB:Trc:=⟨λ_=>0,true,[]⟩
def ho_s:[1065353216,1073741824,1082130432]=[16,32,64].map smpl:=by decide+kernel
def ho_t:[1065353216,1065353216,1073741824]=[16,16,32].map smpl:=by decide+kernel
def ho_s2:(∀b∈([1065353216,1073741824,1082130432] :List Nat),gridE b=0)/\([1065353216,1073741824,1082130432] :List Nat).map gridN=[16,32,64]:=by
 rw[ho_s];exact smpl_all (by decide+kernel)
def ho_t2:(∀b∈([1065353216,1065353216,1073741824] :List Nat),gridE b=0)/\([1065353216,1065353216,1073741824] :List Nat).map gridN=[16,16,32]:=by
 rw[ho_t];exact smpl_all (by decide+kernel)
def ho_a:chkTr hoA=0:=by
 unfold chkTr;rw[show chkL hoA.sm=0 from chkL_ok (by decide) ho_s2.1];rfl
def ho_b:chkTr hoB=0:=by
 unfold chkTr;rw[show chkL hoB.sm=0 from chkL_ok (by decide) (λb hb=>by cases hb)];rfl
def ho_1:chkSh [115] [hoA,hoB]=0:=by
 unfold chkSh;rw[List.map_cons,List.map_cons,List.map_nil,ho_a,ho_b];rfl
def ho_2:chkTp [1,-1]=0:=by decide
def ho_3:apL [1,-1] (hoA.sm.map gridN) (-1)=[16,16,32]:=by
 show apL [1,-1] (([1065353216,1073741824,1082130432] :List Nat).map gridN) (-1)=[16,16,32];rw[ho_s2.2];decide+kernel
def ho_4:fitsB [16,16,32]=true:=by decide+kernel
def ho_e{s s':AV}:errL (eachE [1,-1]) [(hoA,s),(hoB,s')]=0:=by
 have h1:eachE [1,-1] (hoA,s)=0:=by
  unfold eachE;simp only;rw[ho_3,ho_4,if_pos rfl]
 have a1:¬(hoA,s).1.hole=true:=by show ¬false=true;decide
 have a2:(hoB,s').1.hole=true:=rfl;rw[errL_cons,if_neg a1,if_pos h1,errL_cons,if_pos a2,if_pos rfl];rfl
def ho_c{s:AV}:chgT (eachG [1,-1]) (hoA,s)=⟨λ_=>0,false,([16,16,32] :List Int).map smpl⟩:=by
 unfold chgT;rw[if_neg (by show ¬false=true;decide)];unfold eachG;simp only;rw[ho_3];rfl
def ho_d{s:AV}:chgT (eachG [1,-1]) (hoB,s)=hoB:=by
 unfold chgT;exact if_pos rfl
def list2{α β:Type}{L:List (α×β)}{a b:α}(h:L.map Prod.fst=[a,b]):∃x y,L=[(a,x),(b,y)]:=by
 match L,h with
 |[(u,x),(v,y)],h=>
  simp only[List.map_cons,List.map_nil,List.cons.injEq,and_true]at h;exact⟨x,y,by rw[h.1,h.2]⟩
def st_bx{s0:AV}(o:s0.one=true){n:Nat}{s:AV}{tl:Bool}:stB 1 0 s0 n (.cells [s] true tl)=some (undefA,.set n (.cells [s0] true tl)):=by
 rw[stB_one o (by show 0+1<=1;omega)];rfl
def fl_p{c:List AV}{off n:Nat}{v:AV}{r:List (Nat×Nat×AV)}(h1:v.cells.length=n)(h2:off+n<=c.length):fillA c ((off,n,v)::r)=fillA (setL c off v.cells) r:=if_pos ⟨h1,h2⟩
def tf9:fillA [.flt .f32 0,.flt .f32 0,.flt .f32 0] [(0,1,.flt .f32 1065353216),(1,1,.flt .f32 1073741824),(2,1,.flt .f32 1082130432)]=some [.flt .f32 1065353216,.flt .f32 1073741824,.flt .f32 1082130432]:=
 (fl_p rfl (Nat.le_of_ble_eq_true rfl)).trans ((fl_p rfl (Nat.le_of_ble_eq_true rfl)).trans ((fl_p rfl (Nat.le_of_ble_eq_true rfl)).trans rfl))
def tf48:fillA [.flt .f32 0,.flt .f32 0,.flt .f32 0] [(0,1,.flt .f32 1065353216),(1,1,.flt .f32 1065353216),(2,1,.flt .f32 1073741824)]=some [.flt .f32 1065353216,.flt .f32 1065353216,.flt .f32 1073741824]:=
 (fl_p rfl (Nat.le_of_ble_eq_true rfl)).trans ((fl_p rfl (Nat.le_of_ble_eq_true rfl)).trans ((fl_p rfl (Nat.le_of_ble_eq_true rfl)).trans rfl))
def tf10{a b c d:Nat}:fillA [.int .i64 0,.int .i64 0,.int .i64 0,.int .i64 0,.int .i64 0,.int .i64 0,.int .i64 0,.int .i64 0,.bool false,.nilSlice] [(9,1,.slice a b c d)]=some [.int .i64 0,.int .i64 0,.int .i64 0,.int .i64 0,.int .i64 0,.int .i64 0,.int .i64 0,.int .i64 0,.bool false,.slice a b c d]:=
 (fl_p rfl (Nat.le_of_ble_eq_true rfl)).trans rfl
def tf11:fillA [.int .i64 0,.int .i64 0,.int .i64 0,.int .i64 0,.int .i64 0,.int .i64 0,.int .i64 0,.int .i64 0,.bool false,.nilSlice] [(8,1,.bool true)]=some [.int .i64 0,.int .i64 0,.int .i64 0,.int .i64 0,.int .i64 0,.int .i64 0,.int .i64 0,.int .i64 0,.bool true,.nilSlice]:=
 (fl_p rfl (Nat.le_of_ble_eq_true rfl)).trans rfl
def tf13{a b c d:Nat}:fillA [.str [],.nilSlice] [(0,1,.str [115]),(1,1,.slice a b c d)]=some [.str [115],.slice a b c d]:=
 (fl_p rfl (Nat.le_of_ble_eq_true rfl)).trans ((fl_p rfl (Nat.le_of_ble_eq_true rfl)).trans rfl)
def tf12{a b c d:Nat}:fillA [.int .i64 0,.int .i64 0,.int .i64 0,.int .i64 0,.int .i64 0,.int .i64 0,.int .i64 0,.int .i64 0,.bool false,.nilSlice,.int .i64 0,.int .i64 0,.int .i64 0,.int .i64 0,.int .i64 0,.int .i64 0,.int .i64 0,.int .i64 0,.bool false,.nilSlice] [(0,10,.agg [.int .i64 0,.int .i64 0,.int .i64 0,.int .i64 0,.int .i64 0,.int .i64 0,.int .i64 0,.int .i64 0,.bool false,.slice a b c d]),(10,10,.agg [.int .i64 0,.int .i64 0,.int .i64 0,.int .i64 0,.int .i64 0,.int .i64 0,.int .i64 0,.int .i64 0,.bool true,.nilSlice])]=some [.int .i64 0,.int .i64 0,.int .i64 0,.int .i64 0,.int .i64 0,.int .i64 0,.int .i64 0,.int .i64 0,.bool false,.slice a b c d,.int .i64 0,.int .i64 0,.int .i64 0,.int .i64 0,.int .i64 0,.int .i64 0,.int .i64 0,.int .i64 0,.bool true,.nilSlice]:=
 (fl_p rfl (Nat.le_of_ble_eq_true rfl)).trans ((fl_p rfl (Nat.le_of_ble_eq_true rfl)).trans rfl)
set_option maxRecDepth 10000
attribute [local irreducible] WP WC WE WB WR WF WL WG WRg WQ
section
variable {P:Program}(T:Tbl P) {h:AHeap}
include T
def r9(rg:Rng h)(gl:Gl h):RCall P 9 [] h (λv _=>v=.bool true):=by
 refine .st0 90 T.mix T.c9 ?_;intro ts hlen;unfold fn9;have hG:1<h.length:=by obtain⟨mu,tl,e⟩:=gl;exact(List.getElem?_eq_some_iff.1 e).1
 have bz:∀{N:Nat},boxF .nilSlice N=some (.ptr N 0,.push (.cells [.nilSlice] true false)):=λ{N}=>rfl
 have f9:∀{M:Nat},bslF 1 3 (fillA [.flt .f32 0,.flt .f32 0,.flt .f32 0] [(0,1,.flt .f32 1065353216),(1,1,.flt .f32 1073741824),(2,1,.flt .f32 1082130432)]) M=some (.slice M 0 3 1,.push (.cells [.flt .f32 1065353216,.flt .f32 1073741824,.flt .f32 1082130432] true true)):=λ{M}=>by rw[tf9];exact bsl_ok rfl rfl (by decide)
 have f12:∀{a b c d M:Nat},bslF 10 2 (fillA [.int .i64 0,.int .i64 0,.int .i64 0,.int .i64 0,.int .i64 0,.int .i64 0,.int .i64 0,.int .i64 0,.bool false,.nilSlice,.int .i64 0,.int .i64 0,.int .i64 0,.int .i64 0,.int .i64 0,.int .i64 0,.int .i64 0,.int .i64 0,.bool false,.nilSlice] [(0,10,.agg [.int .i64 0,.int .i64 0,.int .i64 0,.int .i64 0,.int .i64 0,.int .i64 0,.int .i64 0,.int .i64 0,.bool false,.slice a b c d]),(10,10,.agg [.int .i64 0,.int .i64 0,.int .i64 0,.int .i64 0,.int .i64 0,.int .i64 0,.int .i64 0,.int .i64 0,.bool true,.nilSlice])]) M=some (.slice M 0 2 10,.push (.cells [.int .i64 0,.int .i64 0,.int .i64 0,.int .i64 0,.int .i64 0,.int .i64 0,.int .i64 0,.int .i64 0,.bool false,.slice a b c d,.int .i64 0,.int .i64 0,.int .i64 0,.int .i64 0,.int .i64 0,.int .i64 0,.int .i64 0,.int .i64 0,.bool true,.nilSlice] true true)):=λ{a b c d M}=>by rw[tf12];exact bsl_ok rfl rfl (by decide)
 have f10:=@tf10;have f11:=tf11;have f13:=@tf13;refine Rs (A6 @bz @f9 @f10 @f11 @f12 @f13) ?_;obtain⟨L,hL⟩:∃L:List (Trc×AV),L=[(hoA,.slice h.length 0 3 1),(hoB,.nilSlice)]:=⟨_,rfl⟩;obtain⟨h1,hh1⟩:∃h1,h1=h++[ABlk.cells [.flt .f32 1065353216,.flt .f32 1073741824,.flt .f32 1082130432] true true]:=⟨_,rfl⟩;have i1:IsSl h1 (.slice h.length 0 3 1) 1 (([1065353216,1073741824,1082130432] :List Nat).map fltR):=by
  rw[hh1];exact(Fr.push (h:=h) (es:=1) (N:=0) (Nat.zero_le _) (([1065353216,1073741824,1082130432] :List Nat).map fltR) (λx hx=>by obtain⟨y,_,rfl⟩:=List.mem_map.1 hx;rfl)).isSl
 have e1:Ext h h1:=by rw[hh1];exact⟨_,rfl⟩
 rw[<-hh1];clear hh1;obtain⟨h2,hh2⟩:∃h2,h2=h1++[ABlk.cells [.int .i64 0,.int .i64 0,.int .i64 0,.int .i64 0,.int .i64 0,.int .i64 0,.int .i64 0,.int .i64 0,.bool false,.slice h.length 0 3 1,.int .i64 0,.int .i64 0,.int .i64 0,.int .i64 0,.int .i64 0,.int .i64 0,.int .i64 0,.int .i64 0,.bool true,.nilSlice] true true]:=⟨_,rfl⟩;have i2:IsSl h2 (.slice h1.length 0 2 10) 10 (L.map trRow):=by
  rw[hh2,hL];exact(Fr.push (h:=h1) (es:=10) (N:=0) (Nat.zero_le _) ([(hoA,AV.slice h.length 0 3 1),(hoB,.nilSlice)].map trRow) (λx hx=>by obtain⟨y,_,rfl⟩:=List.mem_map.1 hx;rfl)).isSl
 have e2:Ext h1 h2:=by rw[hh2];exact⟨_,rfl⟩
 rw[<-hh2];clear hh2;have i3:=isSl_ints (X:=h2) [1,-1];obtain⟨Y,hY⟩:∃Y,Y=h2++[ABlk.cells [.int .i64 1,.int .i64 (-1)] true true]:=⟨_,rfl⟩;have e3:Ext h2 Y:=by rw[hY];exact⟨_,rfl⟩
 replace i3:IsSl Y (.slice h2.length 0 2 1) 1 ([1,-1].map intRow):=by rw[hY];exact i3
 rw[<-hY];clear hY;have eY:Ext h Y:=e1.trans (e2.trans e3);have o:ShOk Y L (.slice h1.length 0 2 10):=⟨i2.ext e3,λx hx=>by
  rw[hL]at hx;simp only[List.mem_cons,List.not_mem_nil,or_false]at hx;rcases hx with rfl|rfl
  ·exact i1.ext (e2.trans e3)
  ·exact .nil⟩
 have z:ShSz L:=⟨by rw[hL];show 2<2^40;decide,λx hx=>by
  rw[hL]at hx;simp only[List.mem_cons,List.not_mem_nil,or_false]at hx;rcases hx with rfl|rfl
  ·show 3<2^40;decide
  ·show 0<2^40;decide⟩
 refine WF.res T.c30 (r30 T (rg.ext eY) (nm:=[115]) o z (by rw[hL];show 2<2^38;decide) i3 (by decide)) ?_;rintro _ g ⟨r,e,rfl,he,hr⟩;have he0:e=0:=by
  rw[he,hL,List.map_cons,List.map_cons,List.map_nil,ho_1,ho_2,ho_e];rfl
 rw[if_pos he0,hL]at hr;obtain⟨s',L',rfl,o',hL'⟩:=hr;obtain⟨su,sw,rfl⟩:=list2 (a:=⟨λ_=>0,false,([16,16,32] :List Int).map smpl⟩) (b:=hoB) (by
  rw[hL'];rw[List.map_cons,List.map_cons,List.map_nil,ho_c,ho_d])
 rw[he0];clear he hL';have bq:∀{N:Nat},boxF (.agg [.str [],.nilSlice]) N=some (.ptr N 0,.push (.cells (shC [] .nilSlice) true false)):=λ{N}=>rfl
 have oo:=o'.sl.one;have sq:∀{n:Nat},stB 2 0 (.agg [.str [115],s']) n (.cells (shC [] .nilSlice) true false)=some (undefA,.set n (.cells (shC [115] s') true false)):=λ{n}=>sh_st oo
 refine Rs (A2 @bq @sq) ?_;obtain⟨Z,hZ⟩:∃Z,Z=Y++g++[ABlk.cells (shC [115] s') true false]:=⟨_,rfl⟩;have eZ:Ext (Y++g) Z:=by rw[hZ];exact⟨_,rfl⟩
 have m1:Z[(Y++g).length]? =some (.cells (shC [115] s') true false):=by rw[hZ];exact at_new
 obtain⟨b1,hb1⟩:∃b,b=(Y++g).length:=⟨_,rfl⟩;have ehZ:Ext h Z:=(eY.trans ⟨_,rfl⟩).trans eZ;rw[<-hb1]at m1;rw[<-hZ,<-hb1];clear hZ hb1;have oZ:=o'.ext eZ;clear f9 f10 f11 f12 f13 i1 i2 i3 o z bq sq;refine WF.res T.c31 (r31 T (gl.ext ehZ)) ?_;rintro _ g2 ⟨s0,L0,rfl,a0⟩;have o0:=a0.ow.isSl.one;have s1q:∀{n:Nat}{s:AV}{tl:Bool},stB 1 0 s0 n (.cells [s] true tl)=some (undefA,.set n (.cells [s0] true tl)):=λ{n s tl}=>st_bx o0
 have ld1:=@ldx _ _ _ m1;have l1v:ldV (shC [115] s')[1]? =some (s',.keep):=rfl;have ln2:∀G,lenG .sl G s' =some 2:=λG=>oZ.sl.lenm G
 have d22:decide (((2:Nat):Int)≠2)=false:=rfl;have ix1:iadrF 10 s' (.int .i64 1)=some (elp s' 10 1,.keep):=oZ.sl.ixm (kk:=.i64) (i:=1) (by show 1<2;decide);have ix0:iadrF 10 s' (.int .i64 0)=some (elp s' 10 0,.keep):=oZ.sl.ixm (kk:=.i64) (i:=0) (by show 0<2;decide);have lf8:∀{k:AHeap},Ext Z k->loadF none (elf s' 10 1 8) (λb=>k[b]?)=some (.bool true,.keep):=λ{k} e=>oZ.sl.lfm (i:=1) (by show 1<2;decide) rfl e
 have lf9:∀{k:AHeap},Ext Z k->loadF none (elf s' 10 0 9) (λb=>k[b]?)=some (su,.keep):=λ{k} e=>oZ.sl.lfm (i:=0) (by show 0<2;decide) rfl e
 have f48:∀{M:Nat},bslF 1 3 (fillA [.flt .f32 0,.flt .f32 0,.flt .f32 0] [(0,1,.flt .f32 1065353216),(1,1,.flt .f32 1065353216),(2,1,.flt .f32 1073741824)]) M=some (.slice M 0 3 1,.push (.cells [.flt .f32 1065353216,.flt .f32 1065353216,.flt .f32 1073741824] true true)):=λ{M}=>by rw[tf48];exact bsl_ok rfl rfl (by decide)
 refine Rs (A13 @bz @s1q @dz0 @Bool.not_true @ld1 @l1v @ln2 @d22 @ix1 @ix0 @lf8 @lf9 @f48) ?_;obtain⟨V0,hV0⟩:∃V0,V0=Z++g2++[ABlk.cells [s0] true false]:=⟨_,rfl⟩;have eV:Ext Z V0:=by rw[hV0];exact(Ext.trans ⟨_,rfl⟩ ⟨_,rfl⟩)
 have a1:AnS Z.length V0 (Z++g2).length begL s0 L0:=by
  have m3:V0[(Z++g2).length]? =some (.cells [s0] true false):=by rw[hV0];exact at_new
  have ee:Ext (Z++g2) V0:=by rw[hV0];exact⟨_,rfl⟩
  refine⟨⟨m3,a0.ow.sBkeep λj hj=>?_,λx hx=>(a0.ok x hx).ext ee,λx hx j hj=>⟨(a0.nb x hx j hj).1,?_,(a0.nb x hx j hj).2⟩,λe=>?_⟩,a0.e,a0.z⟩
  ·rw[hV0,List.getElem?_append_left (a0.ow.sBlt hj).2]
  ·have:=(a0.ok x hx).lt hj;omega
  ·have:=(a0.ow.sBlt e).2;omega
 obtain⟨b3,hb3⟩:∃b,b=(Z++g2).length:=⟨_,rfl⟩;have hZl:=ehZ.len;have hb3Z:Z.length<=b3:=by rw[hb3,List.length_append];omega
 rw[<-hb3]at a1;rw[<-hV0,<-hb3];clear hV0 hb3 a0;have isu:=(oZ.all (⟨λ_=>0,false,([16,16,32] :List Int).map smpl⟩,su) List.mem_cons_self).ext eV;have ist:IsSl (V0++[ABlk.cells [.flt .f32 1065353216,.flt .f32 1065353216,.flt .f32 1073741824] true true]) (.slice V0.length 0 3 1) 1 (([1065353216,1065353216,1073741824] :List Nat).map fltR):=
  (Fr.push (h:=V0) (es:=1) (N:=0) (Nat.zero_le _) (([1065353216,1065353216,1073741824] :List Nat).map fltR) (λx hx=>by obtain⟨y,_,rfl⟩:=List.mem_map.1 hx;rfl)).isSl
 have ds:decide ((([16,16,32] :List Int).map smpl).map gridN=([1065353216,1065353216,1073741824] :List Nat).map gridN)=true:=decide_eq_true (by rw[(smpl_all ho_4).2,ho_t2.2]);refine WF.ce T.c32 (r32 T (isu.ext ⟨_,rfl⟩) ist (by show 3<2^40;decide) (smpl_all ho_4).1 ho_t2.1) λg3=>?_
 rw[ds];refine Rs @Bool.not_true ?_;have eV1:Ext V0 (V0++[ABlk.cells [.flt .f32 1065353216,.flt .f32 1065353216,.flt .f32 1073741824] true true]++g3):=Ext.trans ⟨_,rfl⟩ ⟨_,rfl⟩;have hV0l:=eV.len;have hG3:1<Z.length:=by omega
 have hG4:1≠b3:=by omega
 refine an_call T (M:=Z.length) (a1.ext eV1) (by have:=eV1.len;omega) ((gl.ext ehZ).ext (eV.trans eV1)) hG3 hG4 (by decide) .tile [[106]] [3,1,4] (by decide) (by decide) beg7 ?_;intro W1 s1 L1 gl1 hl1 c1 k1;refine Rs @Bool.not_true ?_;refine an_call T c1 (by have:=eV1.len;omega) gl1 hG3 hG4 (by decide) .tile [[106]] [3,0,3] (by decide) (by decide) beg8 ?_;intro W2 s2 L2 gl2 hl2 c2 k2;refine Rs @Bool.not_true ?_;refine an_call T c2 (by have:=eV1.len;omega) gl2 hG3 hG4 (by decide) .pict [[112],[106]] [3] (by decide) (by decide) beg9 ?_;intro W3 s3 L3 gl3 hl3 c3 k3;have ld3:=@ldx _ _ _ c3.g.m;have l3v:ldV [s3][0]? =some (s3,.keep):=rfl
 refine Rs (A3 @Bool.not_true @ld3 @l3v) ?_;have ce:=c3.e;refine WF.res T.c14 (r14 T c3.g.evs (c3.sh (by decide)) gl3) ?_;rintro _ g4 ⟨V,rfl,hV,oV,_⟩;have hrep:repS (L3.map EV.ev)=repS endL:=congrArg repS ce;rw[hrep]at hV ⊢;rw[end_ok];have hpc:V.picts.map (λp=>p.digest)=[66824]:=by
  have:V.reg.picts=(repS endL).1.now.picts:=by rw[hV]
  have e:V.reg.picts=V.picts:=rfl;rw[<-e,this];exact end_pc
 obtain⟨p,hp,hd⟩:∃p,V.picts=[p]/\p.digest=66824:=by
  obtain⟨l,hl⟩:∃l,l=V.picts:=⟨_,rfl⟩;rw[<-hl]at hpc ⊢;cases l with
  |nil=>cases hpc
  |cons p r=>
   simp only[List.map_cons,List.cons.injEq,List.map_eq_nil_iff]at hpc;exact⟨p,by rw[hpc.2],hpc.1⟩
 have i5:=oV.i5;rw[hp]at i5;have bx7:∀{N:Nat},boxF (.agg [.int .i64 0,.nilSlice,.nilSlice,.nilSlice,.nilSlice,.nilSlice,.nilSlice]) N=some (.ptr N 0,.push (.cells [.int .i64 0,.nilSlice,.nilSlice,.nilSlice,.nilSlice,.nilSlice,.nilSlice] true false)):=λ{N}=>rfl
 have st7:∀{b':Nat}{a0 a1 a2 a3 a4 a5 a6:AV},stB 7 0 (.agg V.row) b' (.cells [a0,a1,a2,a3,a4,a5,a6] true false)=some (undefA,.set b' (.cells V.row true false)):=λ{_ _ _ _ _ _ _ _}=>oV.st
 have lr:ldV V.row[6]? =some (V.s5,.keep):=rfl;have lnp:∀G,lenG .sl G V.s5=some 1:=λG=>i5.lenm G
 have d1:decide (((1:Nat):Int)=1)=true:=rfl;have d00:decide ((0:Int)=0)=true:=rfl;have jx:iadrF 4 V.s5 (.int .i64 0)=some (elp V.s5 4 0,.keep):=i5.ixm (kk:=.i64) (i:=0) (by show 0<1;decide);have lf:∀{k:AHeap},Ext (W3++g4) k->loadF none (elf V.s5 4 0 2) (λb=>k[b]?)=some (.int .i64 p.digest,.keep):=λ{k} e=>i5.lfm (i:=0) (by show 0<1;decide) rfl e
 have dd:decide (p.digest=66824)=true:=decide_eq_true hd;refine Rs (A10 @bx7 @st7 @lr @lnp @d1 @d00 @jx @lf @dd @decide_true) ?_;have eA:=ehZ.trans (eV.trans eV1);have hA:=eV1.len;have eW:Ext h W3:=extOf (by omega) λj hj=>by
  rw[k3 j (by omega) (by omega),k2 j (by omega) (by omega),k1 j (by omega) (by omega)];obtain⟨z,hz⟩:=eA;rw[hz,List.getElem?_append_left hj]
 exact⟨eW.trans (Ext.trans ⟨_,rfl⟩ ⟨_,rfl⟩),trivial⟩
end
end Go.Abs
namespace Go.Abs
def acT(k:Nat):ICode:=(fn3).body.dr k
def acB:ICode:=(acT 6).hd.tl.inn.inn
def acD:ICode:=(acB.dr 2).hd.inn
def acE:ICode:=acD.tl.tl.inn.inn
def acF:ICode:=(acE.dr 2).hd.inn
def ac_6:acT 6=.seq (.seq (acT 6).hd.hd (.block 0 (.loop (.seq acB.hd (.seq acB.tl.hd (.seq (.block 1 acD) (acB.dr 3))))))) (acT 7):=rfl
def ac_D:acD=.seq acD.hd (.seq acD.tl.hd (.block 2 (.loop (.seq acE.hd (.seq acE.tl.hd (.seq (.block 3 acF) (acE.dr 3))))))):=rfl
structure TwE(M:Nat)(k:AHeap)(bp:Nat)(b1:Nat)(A1:List Evt)(s1:AV)(L1:List EV)(b2:Nat)(A2:List Evt)(s2:AV)(L2:List EV):Prop where
 w:Two M k b1 s1 L1 b2 s2 L2
 e1:L1.map EV.ev=A1
 e2:L2.map EV.ev=A2
 z1:∀x∈L1,x.ev.names.length<=3/\x.ev.vals.length<=3
 z2:∀x∈L2,x.ev.names.length<=3/\x.ev.vals.length<=3
 p1:sB s1≠some bp
 p2:sB s2≠some bp
theorem TwE.swap{M k bp b1 A1 s1 L1 b2 A2 s2 L2}(t:TwE M k bp b1 A1 s1 L1 b2 A2 s2 L2):TwE M k bp b2 A2 s2 L2 b1 A1 s1 L1:=⟨t.w.swap,t.e2,t.e1,t.z2,t.z1,t.p2,t.p1⟩
theorem TwE.ext{M k k' bp b1 A1 s1 L1 b2 A2 s2 L2}(t:TwE M k bp b1 A1 s1 L1 b2 A2 s2 L2)(e:Ext k k'):TwE M k' bp b1 A1 s1 L1 b2 A2 s2 L2:=⟨t.w.ext e,t.e1,t.e2,t.z1,t.z2,t.p1,t.p2⟩
def TwE.an1{M k bp b1 A1 s1 L1 b2 A2 s2 L2}(t:TwE M k bp b1 A1 s1 L1 b2 A2 s2 L2):AnS M k b1 A1 s1 L1:=⟨t.w.g1,t.e1,t.z1⟩
def TwE.an2{M k bp b1 A1 s1 L1 b2 A2 s2 L2}(t:TwE M k bp b1 A1 s1 L1 b2 A2 s2 L2):AnS M k b2 A2 s2 L2:=⟨t.w.g2,t.e2,t.z2⟩
def acC:List AV:=(List.range 8).map λi=>AV.str (acN i)
def acC_at{i:Nat}(h:i<8):ldV acC[i]? =some (.str (acN i),.keep):=by
 unfold acC;rw[List.getElem?_map,List.getElem?_range h];rfl
set_option maxRecDepth 10000
attribute [local irreducible] WP WC WE WB WR WF WL WG WRg WQ
section
variable {P:Program}(T:Tbl P) {h:AHeap}
include T
def tw_call{ro:Option Nat->Prop}{ks:List Kt}{ts:TS}{Q:Ex->TS->AHeap->Prop}{d:Option Nat}{l:List IOp}{M bp b1 b2:Nat}{W:AHeap}{s1 s2:AV}{L1 L2:List EV}{A1 A2:List Evt}(t:TwE M W bp b1 A1 s1 L1 b2 A2 s2 L2)(h12:b1≠b2)(h1M:b1<M)(h2M:b2<M)(hM:M<=W.length)(hbp:bp<W.length)(eh:Ext h W)(gl:Gl h)(hh:h.length<=b1)(hl:A1.length<900)
  (dk:Kd) (nm:List (List UInt8)) (vl:List Int) (hn:nm.length<=3) (hv:vl.length<=3) (ac:acptS A1 (evT A1.length dk nm vl)=0)
  (K:∀k s' L',Ext h k->W.length<=k.length->TwE M k bp b1 (A1++[evT A1.length dk nm vl]) s' L' b2 A2 s2 L2->(∀j,j<W.length->j≠b1->(j<M\/j=bp)->k[j]? =W[j]?)->WP P ro l ks (put ts d (.bool true)) k Q):
  WF P ro false (.func (.func 5) [] []) [.ptr b1 0,.str (kdName dk),.slice W.length 0 vl.length 1,.slice (W++[ABlk.cells (vl.map (AV.int .i64)) true true]).length 0 nm.length 1] d l ks ts (W++[ABlk.cells (vl.map (AV.int .i64)) true true]++[ABlk.cells (nm.map AV.str) true true]) Q:=by
 refine an_call0 T t.an1 hM (gl.ext eh) hl hn hv ac λk x hx hb r=>?_
 have e2:Ext W (W++[ABlk.cells (vl.map (AV.int .i64)) true true]++[ABlk.cells (nm.map AV.str) true true]):=⟨_,List.append_assoc _ _ _⟩;have r0:=r;obtain⟨_,_,⟨s0,g0,hs0⟩,_⟩:=r0;have hl2:=e2.len;obtain⟨_,hlk,⟨s',w'⟩,kp⟩:=(t.w.ext e2).step h12 h2M h1M r (λj hj e=>by have:=hb j hj;have:=(t.w.g2.ow.sBlt e).2;omega);have kp2:∀j,j<W.length->j≠b1->(j<M\/j=bp)->k[j]? =W[j]? :=λj hj hne hor=>by
  rw[kp j (by omega) hne (hor.imp id λe=>by rw[e];exact t.p1)];rw[List.append_assoc,List.getElem?_append_left hj]
 have es:s' =s0:=by
  have q1:=w'.g1.m;rw[g0.m]at q1
  simpa using q1.symm
 refine K k s' _ (extOf (by have:=eh.len;omega) λj hj=>?_) (by omega) ⟨w',by rw[List.map_append,t.e1,<-hx];rfl,t.e2,λy hy=>?_,t.z2,λe=>?_,t.p2⟩ kp2
 ·rw[kp2 j (by have:=eh.len;omega) (by omega) (.inl (by omega))];obtain⟨z,hz⟩:=eh;rw[hz,List.getElem?_append_left hj]
 ·rcases List.mem_append.1 hy with hy|hy
  ·exact t.z1 y hy
  ·rw[List.mem_singleton]at hy;rw[hy,hx];exact⟨hn,hv⟩
 ·rw[es]at e;have:=hs0 bp e;omega
end
end Go.Abs
namespace Go.Abs
def AbQ(h W:AHeap)(M bp b1 b2:Nat)(A:List Evt)(A2:List Evt)(s2:AV)(L2:List EV)(R:TS->Prop):Ex->TS->AHeap->Prop:=λe ts k=>
 (e=.normal\/e=.exit 3)/\Ext h k/\W.length<=k.length/\(∃s' L',TwE M k bp b1 A s' L' b2 A2 s2 L2)/\(∀j,j<W.length->j≠b1->(j<M\/j=bp)->k[j]? =W[j]?)/\R ts
abbrev AbS(n i k:Nat)(mi:Nat)(p f:Int)(b7 b8 b9 bp:Nat)(ts:TS):Prop:=ts.length=230/\slot ts 3=.int .i64 n/\slot ts 4=.int .i64 p/\slot ts 5=.int .i64 f/\slot ts 6=.int .i64 mi/\slot ts 7=.ptr b7 0/\slot ts 8=.ptr b8 0/\slot ts 9=.ptr b9 0/\slot ts 45=.int .i64 n/\slot ts 46=.int .i64 i/\slot ts 10=.int .i64 i/\slot ts 49=.slice bp 0 2 1/\slot ts 50=.int .i64 2/\slot ts 51=.int .i64 k
def acL_gap{p f:Int}{ms i:Nat}(h0:i≠0)(hm:i=ms):acL p f ms (i+1)=acL p f ms i++[evT (acL p f ms i).length .tape [acN i] [(i:Int)*p,f]]:=by
 rw[acL,if_neg h0,if_pos hm]
def acL_cp{p f:Int}{ms i:Nat}(h0:i≠0)(hm:i≠ms):acL p f ms (i+1)=acL p f ms i++[evT (acL p f ms i).length .tape [acN i] [(i:Int)*p,f]]++[evT (acL p f ms i++[evT (acL p f ms i).length .tape [acN i] [(i:Int)*p,f]]).length .copy [acN (i-1),acN i] [(i:Int)*p]]:=by
 rw[acL,if_neg h0,if_neg hm]
def eqp_ok{b1 b9:Nat}{c1 c9:List AV}{k:AHeap}{q:Bool}(h1:k[b1]? =some (.cells c1 true false))(h9:k[b9]? =some (.cells c9 true false))(l1:0<c1.length)(l9:0<c9.length)(hq:decide (b1=b9)=q):eqpF false (.ptr b1 0) (.ptr b9 0) (λz=>k[z]?)=some (.bool q,.keep):=by
 unfold eqpF;simp only[h1,h9];rw[if_pos ⟨l1,l9⟩,<-hq];simp
def acF_eq:acF=.seq acF.hd (.seq acF.tl.hd (.seq (acF.dr 2).hd (.seq (acF.dr 3).hd (acF.dr 3).tl))):=rfl
set_option maxRecDepth 10000
attribute [local irreducible] WP WC WE WB WR WF WL WG WRg WQ
section
variable {P:Program}(T:Tbl P) {h:AHeap}
include T
def ab_body{W:AHeap}{ts:TS}{n i mi:Nat}{p f:Int}{b7 b8 b9 bp:Nat}{M b1 b2 k ms:Nat}{q:Bool}{s1 s2:AV}{L1 L2:List EV}{A2:List Evt}(gl:Gl h)(eh:Ext h W)(hh:h.length<=b1)(hM:M<=W.length)(h12:b1≠b2)(h1M:b1<M)(h2M:b2<M)(hbp:bp<W.length)(hbpM:M<=bp)(h7:b7<M)(h71:b7≠b1)
  (m7:W[b7]? =some (.cells acC true false)) (mp:W[bp]? =some (.cells [.ptr b8 0,.ptr b9 0] true true)) (hp:1<=p/\p<=20) (hf:p<=f/\f<=29) (hi:i<n) (hn:n<=8) (hk:k<2) (hb1:[AV.ptr b8 0,AV.ptr b9 0][k]? =some (.ptr b1 0)) (hb9:b9=b1\/b9=b2) (hq:decide (b1=b9)=q) (hq1:q=true->ms=mi) (hq2:q=false->ms=0)
  (t:TwE M W bp b1 (acL p f ms i) s1 L1 b2 A2 s2 L2) (hlen:ts.length=230) (t3:slot ts 3=.int .i64 n) (t4:slot ts 4=.int .i64 p) (t5:slot ts 5=.int .i64 f) (t6:slot ts 6=.int .i64 mi) (t7:slot ts 7=.ptr b7 0) (t8:slot ts 8=.ptr b8 0) (t9:slot ts 9=.ptr b9 0) (t45:slot ts 45=.int .i64 n) (t46:slot ts 46=.int .i64 i) (t10:slot ts 10=.int .i64 i) (t49:slot ts 49=.slice bp 0 2 1) (t50:slot ts 50=.int .i64 2) (t51:slot ts 51=.int .i64 k):
  WC P inFn acF [] ts W (AbQ h W M bp b1 b2 (acL p f ms (i+1)) A2 s2 L2 (AbS n i k mi p f b7 b8 b9 bp)):=by
 have hip:0<=(i:Int)*p/\(i:Int)*p<=140:=⟨Int.mul_nonneg (by omega) (by omega),by
  have h1:(i:Int)*p<=7*p:=Int.mul_le_mul_of_nonneg_right (by omega) (by omega);omega⟩
 have wm:IntKind.i64.wrap ((i:Int)*p)=(i:Int)*p:=wrap_in (by omega) (by omega);have lp:=@ldx _ _ _ mp;have ix:iadrF 1 (.slice bp 0 2 1) (.int .i64 (k:Int))=some (.ptr bp k,.keep):=by
  have hk2:k=0\/k=1:=by omega
  rcases hk2 with rfl|rfl<;>rfl
 have lk:ldV [AV.ptr b8 0,AV.ptr b9 0][k]? =some (.ptr b1 0,.keep):=by rw[hb1];rfl
 have ia:∀{j:Nat},j<8->iadaF 8 1 (.ptr b7 0) (.int .i64 (j:Int))=some (.ptr b7 j):=λ{j} hj=>by
  rcases eight hj with rfl|rfl|rfl|rfl|rfl|rfl|rfl|rfl<;>rfl
 have iai:=ia (j:=i) (by omega);have l7:=@ldx _ _ _ m7;have li:=acC_at (i:=i) (by omega);generalize hR2:(acF.dr 2).hd=R2;generalize hR3:(acF.dr 3).hd=R3;generalize hR4:(acF.dr 3).tl=R4;rw[acF_eq,hR2,hR3,hR4];unfold acF acE acD acB acT fn3;simp only[ICode.j,ICode.s,ICode.r,ICode.dr,ICode.tl,ICode.hd,ICode.inn];refine Rs (A20 @t3 @t4 @t5 @t6 @t7 @t8 @t9 @t45 @t46 @t10 @t49 @t50 @t51 @ix @lp @lk @wm @iai @l7 @li) ?_;have hlA:=acL_len p f ms i;have htp:acptS (acL p f ms i) (evT (acL p f ms i).length .tape [acN i] [(i:Int)*p,f])=0:=by
  by_cases h0:i=0
  ·subst h0;exact(ac_one (ms:=ms) hp hf).1
  ·exact(ac_tpS hp hf (ac_all hp hf i (by omega) (by omega)) (by omega) (by omega) (by omega)).1
 refine tw_call T t h12 h1M h2M hM hbp eh gl hh (by omega) .tape [acN i] [(i:Int)*p,f] (by show 1<=3;decide) (by show 2<=3;decide) htp ?_;intro W1 s3 L3 e1 hl1 u1 k1;refine Rs @Bool.not_true ?_;rw[<-hR2];unfold acF acE acD acB acT fn3;simp only[ICode.j,ICode.s,ICode.r,ICode.dr,ICode.tl,ICode.hd,ICode.inn];by_cases h0:i=0
 ·have di:decide ((i:Int)=0)=true:=decide_eq_true (by omega);subst h0;refine Rs (A14 @t3 @t4 @t5 @t6 @t7 @t8 @t9 @t45 @t46 @t10 @t49 @t50 @t51 @di) ?_;refine tw_call T u1 h12 h1M h2M (by omega) (by omega) e1 gl hh (by simp;omega) .line [[108]] [0,1] (by decide) (by decide) (ac_one (ms:=ms) hp hf).2.1 ?_;intro W2 s4 L4 e2 hl2 u2 k2;refine Rs @Bool.not_true ?_;refine tw_call T u2 h12 h1M h2M (by omega) (by omega) e2 gl hh (by simp;omega) .shot [[115],[108],acN 0] [0] (by decide) (by decide) (ac_one (ms:=ms) hp hf).2.2.1 ?_;intro W3 s5 L5 e3 hl3 u3 k3;refine Rs @Bool.not_true ?_;refine⟨.inr rfl,e3,by omega,⟨s5,L5,u3⟩,λj hj hne hor=>?_,Sn,(Sq @t3),(Sq @t4),(Sq @t5),(Sq @t6),(Sq @t7),(Sq @t8),(Sq @t9),(Sq @t45),(Sq @t46),(Sq @t10),(Sq @t49),(Sq @t50),(Sq @t51)⟩
  rw[k3 j (by omega) hne hor,k2 j (by omega) hne hor,k1 j hj hne hor]
 have di:decide ((i:Int)=0)=false:=decide_eq_false (by omega);refine Rs (A14 @t3 @t4 @t5 @t6 @t7 @t8 @t9 @t45 @t46 @t10 @t49 @t50 @t51 @di) ?_;have mm:∃c9,W1[b9]? =some (.cells c9 true false)/\0<c9.length:=by
  rcases hb9 with e|e<;>rw[e]
  ·exact⟨_,u1.w.g1.m,Nat.one_pos⟩
  ·exact⟨_,u1.w.g2.m,Nat.one_pos⟩
 obtain⟨c9,m9,l9⟩:=mm;have ep:=eqp_ok u1.w.g1.m m9 Nat.one_pos l9 hq;rw[<-hR3];unfold acF acE acD acB acT fn3;simp only[ICode.j,ICode.s,ICode.r,ICode.dr,ICode.tl,ICode.hd,ICode.inn];by_cases hg:q=true/\i=mi
 ·obtain⟨q1,q2⟩:=hg;have dm:decide ((i:Int)=(mi:Int))=true:=decide_eq_true (by omega);rw[q1]at ep;refine Rs (A16 @t3 @t4 @t5 @t6 @t7 @t8 @t9 @t45 @t46 @t10 @t49 @t50 @t51 @WP_eqp @ep @dm) ?_;refine⟨.inr rfl,e1,by omega,⟨s3,L3,?_⟩,k1,Sn,(Sq @t3),(Sq @t4),(Sq @t5),(Sq @t6),(Sq @t7),(Sq @t8),(Sq @t9),(Sq @t45),(Sq @t46),(Sq @t10),(Sq @t49),(Sq @t50),(Sq @t51)⟩;rw[acL_gap h0 (by rw[hq1 q1];exact q2)];exact u1
 have hms:i≠ms:=by
  cases hqv:q with
  |true=>rw[hq1 hqv];exactλe=>hg ⟨hqv,e⟩
  |false=>rw[hq2 hqv];exact h0
 have s1:=ac_all (ms:=ms) hp hf i (by omega) (by omega);have s2':=(ac_tpS hp hf s1 (by omega) (by omega) (by omega)).2;have hcp:=(ac_cpS hp hf s2' (by simp;omega) (by omega) (by omega) hms).1;have ws:IntKind.i64.wrap ((i:Int)-1)=((i-1:Nat):Int):=by rw[wrap_in (by omega) (by omega)];omega
 have iaj:=ia (j:=i-1) (by omega);have lj:=acC_at (i:=i-1) (by omega);have l71:=@ldx _ _ _ ((k1 b7 (by omega) h71 (.inl h7)).trans m7);have main:∀(ts:TS),ts.length=230->slot ts 12=.ptr b1 0->slot ts 3=.int .i64 n->slot ts 4=.int .i64 p->slot ts 5=.int .i64 f->slot ts 6=.int .i64 mi->slot ts 7=.ptr b7 0->slot ts 8=.ptr b8 0->slot ts 9=.ptr b9 0->slot ts 45=.int .i64 n->slot ts 46=.int .i64 i->slot ts 10=.int .i64 i->slot ts 49=.slice bp 0 2 1->slot ts 50=.int .i64 2->slot ts 51=.int .i64 k->WC P inFn R4 [] ts W1 (AbQ h W M bp b1 b2 (acL p f ms (i+1)) A2 s2 L2 (AbS n i k mi p f b7 b8 b9 bp)):=by
  intro ts hlen t12 t3 t4 t5 t6 t7 t8 t9 t45 t46 t10 t49 t50 t51;rw[<-hR4];unfold acF acE acD acB acT fn3;simp only[ICode.j,ICode.s,ICode.r,ICode.dr,ICode.tl,ICode.hd,ICode.inn];refine Rs (A21 @t3 @t4 @t5 @t6 @t7 @t8 @t9 @t45 @t46 @t10 @t49 @t50 @t51 @t12 @wm @ws @iai @iaj @l71 @li @lj) ?_;refine tw_call T u1 h12 h1M h2M (by omega) (by omega) e1 gl hh (by simp;omega) .copy [acN (i-1),acN i] [(i:Int)*p] (by show 2<=3;decide) (by show 1<=3;decide) hcp ?_;intro W2 s4 L4 e2 hl2 u2 k2;refine Rs @Bool.not_true ?_;refine⟨.inl rfl,e2,by omega,⟨s4,L4,?_⟩,λj hj hne hor=>?_,Sn,(Sq @t3),(Sq @t4),(Sq @t5),(Sq @t6),(Sq @t7),(Sq @t8),(Sq @t9),(Sq @t45),(Sq @t46),(Sq @t10),(Sq @t49),(Sq @t50),(Sq @t51)⟩
  ·rw[acL_cp h0 hms];exact u2
  ·rw[k2 j (by omega) hne hor,k1 j hj hne hor]
 clear l7 lp m7 mp;cases hqv:q with
 |true=>
  have dm:decide ((i:Int)=(mi:Int))=false:=decide_eq_false (λe=>hg ⟨hqv,by omega⟩);rw[hqv]at ep;refine Rs (A16 @t3 @t4 @t5 @t6 @t7 @t8 @t9 @t45 @t46 @t10 @t49 @t50 @t51 @WP_eqp @ep @dm) ?_;exact main _ Sn Sw (Sq @t3) (Sq @t4) (Sq @t5) (Sq @t6) (Sq @t7) (Sq @t8) (Sq @t9) (Sq @t45) (Sq @t46) (Sq @t10) (Sq @t49) (Sq @t50) (Sq @t51)
 |false=>
  rw[hqv]at ep;refine Rs (A15 @t3 @t4 @t5 @t6 @t7 @t8 @t9 @t45 @t46 @t10 @t49 @t50 @t51 @WP_eqp @ep) ?_;exact main _ Sn Sw (Sq @t3) (Sq @t4) (Sq @t5) (Sq @t6) (Sq @t7) (Sq @t8) (Sq @t9) (Sq @t45) (Sq @t46) (Sq @t10) (Sq @t49) (Sq @t50) (Sq @t51)
end
end Go.Abs
