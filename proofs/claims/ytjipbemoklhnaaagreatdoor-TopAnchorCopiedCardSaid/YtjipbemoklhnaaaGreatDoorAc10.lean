/- The abstract layer: an input that is read, laid as a heap of ours. No condition. · The abstract layer: package-level variables that are laid; a row of the kind 'the result is true', closed. No condition. · What the rows of the filter have in common: the arguments' types. No condition. · A row whose last package-level variable is not laid: the world's form tells that it is there. No condition. · Closed facts on the seat's program, one declaration each. No condition. -/
import Derived.Test.YtjipbemoklhnaaaGreatDoorAc3
import Derived.ChangeArms
import Derived.Deep.Slices
import Derived.WideShapes
import Derived.ChangeShapes
import Derived.ChangeMaps5
import Derived.OpenShut
import Derived.Carry
import Derived.ChangeSame
import Derived.RowKit
import Derived.ProofKit
import Derived.LaidMore
import Derived.Lay
import Derived.SevenTiedAt
import Derived.Stop.Joined
import Derived.Test.YtjipbemoklhnaaaGreatDoorAc9
import Derived.Test.YtjipbemoklhnaaaGreatDoorRows
import Derived.Test.YtjipbemoklhnaaaGreatDoorTie
import Derived.Test.YtjipbemoklhnaaaGreatDoorCards
set_option linter.all false
namespace Go.Abs
open Go.ChangeShapes Go.WideShapes Go.Deep
inductive CT where
 |int (k:IntKind)
 |bool
 |str
 |flt (k:FloatKind)
 |sl (row:List CT)
def ctFields(P:Program)(f:TypeId->Option (List CT)):List Field->Nat->Option (List CT)
 |[],_=>some []
 |x::r,o=>
  match f x.type with
  |some a=>
   if x.offset=o/\a.length=P.cellsOf x.type then
    match ctFields P f r (o+a.length)with
    |some b=>some (a++b)
    |none=>none
   else none
  |none=>none
def ctOf(P:Program):Nat->TypeId->Option (List CT)
 | 0,_=>none
 |n+1,t=>
  match P.underlying t with
  |some (.int k)=>some [.int k]
  |some .bool=>some [.bool]
  |some .string=>some [.str]
  |some (.float k)=>some [.flt k]
  |some (.slice e)=>
   match ctOf P n e with
   |some r=>if r.length=P.cellsOf e/\0<r.length then some [.sl r]else none
   |none=>none
  |some (.struct fs)=>
   match ctFields P (ctOf P n) fs.toList 0 with
   |some r=>if r.length=P.cellsOf t then some r else none
   |none=>none
  |some (.array m e)=>
   match ctOf P n e with
   |some r=>if r.length=P.cellsOf e/\P.cellsOf t=m*P.cellsOf e then some (List.replicate m r).flatten else none
   |none=>none
  |_=>none
mutual
def TY(h:AHeap):CT->AV->Prop
 |.int k,a=>∃z,a=.int k z/\(Lit.int k z).wf=true
 |.bool,a=>∃b,a=.bool b
 |.str,a=>∃s:List UInt8,a=.str s/\s.length<=maxLen
 |.flt k,a=>∃b:Nat,a=.flt k b
 |.sl r,a=>∃cs:List (List AV),IsSl h a r.length cs/\cs.length<=maxLen/\∀c∈cs,TYs h r c
def TYs(h:AHeap):List CT->List AV->Prop
 |[],l=>l=[]
 |t::ts,l=>∃a l',l=a::l'/\TY h t a/\TYs h ts l'
end
mutual
theorem TY.ext{h k}(e:Ext h k):∀{t}{a},TY h t a->TY k t a
 |.int _,a,x=>x
 |.bool,a,x=>x
 |.str,a,x=>x
 |.flt _,a,x=>x
 |.sl r,a,x=>by
  rw[TY]at x ⊢;obtain⟨cs,h1,h2,h3⟩:=x;exact⟨cs,h1.ext e,h2,λc hc=>TYs.ext e (h3 c hc)⟩
theorem TYs.ext{h k}(e:Ext h k):∀{ts}{l},TYs h ts l->TYs k ts l
 |[],l,x=>x
 |t::ts,l,x=>by
  rw[TYs]at x ⊢;obtain⟨a,l',h1,h2,h3⟩:=x;exact⟨a,l',h1,TY.ext e h2,TYs.ext e h3⟩
end
theorem TY.one{h}:∀{t}{a},TY h t a->a.one=true
 |.int _,a,x=>by rw[TY]at x;obtain⟨z,rfl,_⟩:=x;rfl
 |.bool,a,x=>by rw[TY]at x;obtain⟨z,rfl⟩:=x;rfl
 |.str,a,x=>by rw[TY]at x;obtain⟨z,rfl,_⟩:=x;rfl
 |.flt _,a,x=>by rw[TY]at x;obtain⟨z,rfl⟩:=x;rfl
 |.sl r,a,x=>by rw[TY]at x;obtain⟨z,h1,_⟩:=x;exact h1.one
theorem TYs.one{h}:∀{ts}{l},TYs h ts l->l.all AV.one=true
 |[],l,x=>by rw[TYs]at x;subst x;rfl
 |t::ts,l,x=>by
  rw[TYs]at x;obtain⟨a,l',rfl,h1,h2⟩:=x;rw[List.all_cons,h1.one,TYs.one h2];rfl
theorem TYs.length{h}:∀{ts}{l},TYs h ts l->l.length=ts.length
 |[],l,x=>by rw[TYs]at x;subst x;rfl
 |t::ts,l,x=>by
  rw[TYs]at x;obtain⟨a,l',rfl,h1,h2⟩:=x;rw[List.length_cons,List.length_cons,TYs.length h2]
theorem TYs.append{h}:∀{ts us}{l m},TYs h ts l->TYs h us m->TYs h (ts++us) (l++m)
 |[],us,l,m,x,y=>by rw[TYs]at x;subst x;exact y
 |t::ts,us,l,m,x,y=>by
  rw[TYs]at x;obtain⟨a,l',rfl,h1,h2⟩:=x;show TYs h (t:: (ts++us)) (a:: (l'++m));rw[TYs];exact⟨a,_,rfl,h1,TYs.append h2 y⟩
def embOf(E:List Ent):Emb:=λb=>E[b]?
def embOf_le(E F:List Ent):(embOf E).le (embOf (E++F)):=λb e hb=>by
 unfold embOf at hb ⊢;rw[List.getElem?_append_left (List.getElem?_eq_some_iff.1 hb).1];exact hb
structure AW(P:Program)(w:World)(E:List Ent)(B:AHeap):Prop where
 len:E.length=B.length
 own:∀(b:Nat) e,E[b]? =some e->e.own=false/\e.cb<w.heap.size
 blk:∀(b:Nat) e k,E[b]? =some e->B[b]? =some k->BR P (embOf E) w e k/\(k=.dead\/∃c,k=.cells c false false)
 glob:∀g,g<P.globals.size->∃e,E[g]? =some e/\e.cb=g/\e.d=0/\e.own=false/\e.sz=gsz P g
variable {P:Program}{w:World}{E:List Ent}{B:AHeap}
def AW.hr(a:AW P w E B):HR P (embOf E) B w where
 dom:=λb e hb=>by rw[<-a.len];exact(List.getElem?_eq_some_iff.1 hb).1
 blk:=λb e k hb hk=>(a.blk b e k hb hk).1
 sep:=λb1 b2 e1 e2 k1 k2 _ h1 h2 hk1 hk2 _=>by
  rcases(a.blk b1 e1 k1 h1 hk1).2 with rfl|⟨c1,rfl⟩
  ·cases k2<;>trivial
  ·rcases(a.blk b2 e2 k2 h2 hk2).2 with rfl|⟨c2,rfl⟩
   ·trivial
   ·exact⟨rfl,rfl,λx=>by cases x⟩
 glob:=a.glob
 lt:=λb e hb=>(a.own b e hb).2
def AW.push(a:AW P w E B){e k}(ho:e.own=false)(hlt:e.cb<w.heap.size)(hb:BR P (embOf E) w e k)(hk:k=.dead\/∃c,k=.cells c false false):AW P w (E++[e]) (B++[k]) where
 len:=by simp[a.len]
 own:=λb e' h=>by
  by_cases hlb:b<E.length
  ·rw[List.getElem?_append_left hlb]at h;exact a.own b e' h
  ·have:=(List.getElem?_eq_some_iff.1 h).1;simp at this;have:b=E.length:=by omega
   subst this;simp at h;subst h;exact⟨ho,hlt⟩
 blk:=λb e' k' h h'=>by
  by_cases hlb:b<E.length
  ·rw[List.getElem?_append_left hlb]at h;rw[List.getElem?_append_left (by rw[<-a.len];exact hlb)]at h';exact⟨(a.blk b e' k' h h').1.mono (embOf_le E [e]),(a.blk b e' k' h h').2⟩
  ·have:=(List.getElem?_eq_some_iff.1 h).1;simp at this;have hbe:b=E.length:=by omega
   have hbb:b=B.length:=by rw[hbe,a.len]
   rw[hbe]at h;rw[hbb]at h';simp at h h';subst h;subst h';exact⟨hb.mono (embOf_le E [e]),hk⟩
 glob:=λg hg=>by
  obtain⟨e',h1,h2⟩:=a.glob g hg;exact⟨e',embOf_le E [e] g e' h1,h2⟩
def Laid(P:Program)(w:World)(E:List Ent)(B:AHeap)(row:List CT)(cs:List Value):Prop:=
 ∃F C ax,AW P w (E++F) (B++C)/\VRs (embOf (E++F)) ax cs/\TYs (B++C) row ax
def Laid.app{row row2 cs cs2}(h1:Laid P w E B row cs)(h2:∀F C,AW P w (E++F) (B++C)->Laid P w (E++F) (B++C) row2 cs2):Laid P w E B (row++row2) (cs++cs2):=by
 obtain⟨F,C,ax,a1,a2,a3⟩:=h1;obtain⟨F',C',ax',b1,b2,b3⟩:=h2 F C a1;refine⟨F++F',C++C',ax++ax',by rw[<-List.append_assoc,<-List.append_assoc];exact b1,?_,?_⟩
 ·rw[<-List.append_assoc];exact(VRs.mono (embOf_le _ _) _ _ a2).append b2
 ·rw[<-List.append_assoc];exact TYs.append (a3.ext ⟨C',rfl⟩) b3
def laid_nil(a:AW P w E B):Laid P w E B [] []:=⟨[],[],[],by simpa using a,by rw[VRs_nil],rfl⟩
def laid_one(a:AW P w E B){t x v}(hv:VR (embOf E) x v)(ht:TY B t x):Laid P w E B [t] [v]:=
 ⟨[],[],[x],by simpa using a,by simpa using VRs_cons.2 ⟨v,[],rfl,hv,by rw[VRs_nil]⟩,by
  rw[List.append_nil,TYs];exact⟨x,[],rfl,ht,rfl⟩⟩
section
variable {H:Type}{enc:TypeId×Value->H}{base:Nat}{held:Bool}
theorem laid_rows{es:Nat}{r:List CT}{a:Addr}{m:Nat}(row:∀i,i<m->∃cs,w.cells? base (a.add (i*es)) es=some cs/\∀E B,AW P w E B->Laid P w E B r cs):∀(k:Nat) {E:List Ent}{B:AHeap},k<=m->AW P w E B->
  ∃(F:List Ent) (C:AHeap) (rows:List (List AV)) (VL:List Value),AW P w (E++F) (B++C)/\rows.length=k/\VRs (embOf (E++F)) rows.flatten VL/\(∀c∈rows,TYs (B++C) r c)/\VL.length=k*es/\∀i,i<k*es->w.cell? (a.add i)=VL[i]?
 | 0,E,B,_,aw=>⟨[],[],[],[],by rw[List.append_nil,List.append_nil];exact aw,rfl,rfl,λc hc=>by(cases hc),by rw[Nat.zero_mul];rfl,λi hi=>by rw[Nat.zero_mul]at hi;exact absurd hi (Nat.not_lt_zero _)⟩
 |k+1,E,B,hkm,aw=>by
  obtain⟨F,C,rows,VL,h1,h2,h3,h4,h5,h6⟩:=laid_rows row k (by omega) aw;obtain⟨cs,hcs,hl⟩:=row k (by omega);obtain⟨F',C',ax,a1,a2,a3⟩:=hl _ _ h1;obtain⟨_,hlen,hcell⟩:=World.cells?_some hcs;refine⟨F++F',C++C',rows++[ax],VL++cs,by rw[<-List.append_assoc,<-List.append_assoc];exact a1,by rw[List.length_append,h2];rfl,?_,?_,by rw[List.length_append,h5,hlen,Nat.succ_mul],?_⟩
  ·rw[<-List.append_assoc,List.flatten_append];refine(VRs.mono (embOf_le _ _) _ _ h3).append ?_;have:[ax].flatten=ax:=by simp
   rw[this];exact a2
  ·intro c hcm;rw[<-List.append_assoc];rcases List.mem_append.1 hcm with hm|hm
   ·exact(h4 c hm).ext ⟨C',rfl⟩
   ·rw[List.mem_singleton]at hm;subst hm;exact a3
  ·intro i hi;rw[Nat.succ_mul]at hi;by_cases hlt:i<k*es
   ·rw[h6 i hlt,List.getElem?_append_left (by omega)]
   ·rw[List.getElem?_append_right (by omega),h5,<-hcell (i-k*es) (by omega),add_add,show k*es+(i-k*es)=i by omega]
theorem laid_chunks{r:List CT}{cs:List Value}{s m:Nat}(hr:r.length=s)(h:∀i,i<m->∀E B,AW P w E B->Laid P w E B r ((cs.drop (i*s)).take s)):∀(j i:Nat),i+j<=m->∀E B,AW P w E B->Laid P w E B (List.replicate j r).flatten ((cs.drop (i*s)).take (j*s))
 | 0,i,_,E,B,aw=>by
  rw[Nat.zero_mul,List.take_zero];exact laid_nil aw
 |j+1,i,hij,E,B,aw=>by
  have h1:=h i (by omega) E B aw;rw[List.replicate_succ,List.flatten_cons,show(j+1)*s=s+j*s by rw[Nat.succ_mul,Nat.add_comm],List.take_add,List.drop_drop];refine h1.app λF C aw'=>?_
  have:=laid_chunks hr h j (i+1) (by omega) _ _ aw';rw[Nat.succ_mul]at this;exact this
theorem laid_fields{f:TypeId->Option (List CT)}{cs:List Value}:∀(l:List Field) (o:Nat) {row:List CT},ctFields P f l o=some row->
  (∀x∈l,∀a,f x.type=some a->∀E B,AW P w E B->Laid P w E B a ((cs.drop x.offset).take (P.cellsOf x.type)))->∀E B,AW P w E B->Laid P w E B row ((cs.drop o).take row.length)
 |[],o,row,h,_,E,B,aw=>by
  unfold ctFields at h;cases h;rw[List.length_nil,List.take_zero];exact laid_nil aw
 |x::l,o,row,h,hf,E,B,aw=>by
  unfold ctFields at h;split at h
  case h_2=>cases h
  rename_i a ha;split at h
  case isFalse=>cases h
  rename_i hc;split at h
  case h_2=>cases h
  rename_i b hb;cases h;have h1:=hf x (List.mem_cons_self ..) a ha E B aw;rw[hc.1,<-hc.2]at h1;rw[List.length_append,List.take_add,List.drop_drop];exact h1.app λF C aw'=>laid_fields l _ hb (λy hy=>hf y (List.mem_cons_of_mem _ hy)) _ _ aw'
def trod_float{k:FloatKind}{t:TypeId}{fuel:Nat}{cs:List Value}{x:DataW H×List MemPlace}{sp:Nat->Bool}(ht:P.underlying t=some (.float k))(h:DataW.trod enc P w base sp held fuel t cs=some x):∃b,cs=[.float k b]:=by
 cases fuel with
 |zero=>simp[DataW.trod]at h
 |succ n=>
  unfold DataW.trod at h;rw[ht]at h;split at h<;>simp_all
theorem laid_of_trod(hz:∃(z:Nat) (cc:Array Value) (el:TypeId) (fz:Nat×Nat),w.heap[z]? =some (Obj.cells cc el fz)):∀(n:Nat) (t:TypeId) (row:List CT),ctOf P n t=some row->∀(fuel:Nat) (cs:List Value) (x:DataW H×List MemPlace),
  DataW.trod enc P w base (λ_=>true) held fuel t cs=some x->∀E B,AW P w E B->Laid P w E B row cs
 | 0,t,row,h,_,_,_,_,_,_,_=>by cases h
 |n+1,t,row,h,fuel,cs,x,ht,E,B,aw=>by
  unfold ctOf at h;split at h
  ·rename_i k hu;cases h;obtain⟨z,rfl,_,hwf⟩:=DataW.trod_int hu ht;exact laid_one aw (x:=.int k z) (by rw[VR]) (by rw[TY];exact⟨z,rfl,hwf⟩)
  ·rename_i hu;cases h;obtain⟨b,rfl,_⟩:=DataW.trod_bool hu ht;exact laid_one aw (x:=.bool b) (by rw[VR]) (by rw[TY];exact⟨b,rfl⟩)
  ·rename_i hu;cases h;obtain⟨s,rfl,_,hs⟩:=DataW.trod_string hu ht;refine laid_one aw (x:=.str s.data.toList) (by rw[VR]) (by rw[TY];exact⟨_,rfl,by simpa using hs⟩)
  ·rename_i k hu;cases h;obtain⟨b,rfl⟩:=trod_float hu ht;exact laid_one aw (x:=.flt k b) (by rw[VR];exact⟨b,rfl,.inl rfl⟩) (by rw[TY];exact⟨b,rfl⟩)
  ·rename_i e hu;split at h
   case h_2=>cases h
   rename_i r hr;split at h
   case isFalse=>cases h
   rename_i hc;cases h;obtain⟨hrl,hpos⟩:=hc;rcases open_slice hu ht with⟨rfl,_⟩|⟨a,len,cap,m,n',D,Pl,rfl,hb,hl,hm,hmm,_,hx⟩
   ·exact laid_one aw (x:=.nilSlice) (by rw[VR]) (by rw[TY];exact⟨[],.nil,Nat.zero_le _,λc hc=>by cases hc⟩)
   simp only[if_true]at hmm;subst hmm;rw[<-hrl]at hx;by_cases hcap:m=0
   ·have hlen0:len=0:=by omega
    subst hlen0;subst hcap;obtain⟨z,cc,el,fz,hz0⟩:=hz;have h0lt:z<w.heap.size:=(Array.getElem?_eq_some_iff.1 hz0).1;have hbr:BR P (embOf E) w ⟨z,0,cc.size,false⟩ (.cells [] false false):=
     ⟨cc,el,fz,hz0,⟨Nat.zero_le _,Nat.zero_le _,rfl⟩,λi x hx=>by(rw[List.getElem?_nil]at hx;cases hx),⟨λx=>absurd x Bool.false_ne_true,λx=>by rcases x with x|x<;>exact absurd x Bool.false_ne_true⟩⟩
    have aw2:=aw.push (e:=⟨z,0,cc.size,false⟩) (k:=.cells [] false false) rfl h0lt hbr (.inr ⟨[],rfl⟩);refine⟨[⟨z,0,cc.size,false⟩],[.cells [] false false],[.slice B.length 0 0 r.length],aw2,?_,?_⟩
    ·refine VRs_cons.2 ⟨_,[],rfl,?_,by rw[VRs_nil]⟩;rw[VR];exact⟨⟨z,0,cc.size,false⟩,a,0,by unfold embOf;rw[<-aw.len];simp,rfl,Nat.le_refl _,λx=>absurd x (by omega),by rw[Nat.zero_mul];exact Nat.zero_le _⟩
    ·rw[TYs];refine⟨_,[],rfl,?_,by rw[TYs]⟩;rw[TY];refine⟨[],?_,Nat.zero_le _,λc hc=>by cases hc⟩;exact IsSl.mk (cs:=[]) (b:=B.length) (o:=0) (c:=[]) (mu:=false) (tl:=false) (by simp) (by simp) (by simp) (λx hx=>by cases hx)
   ·obtain⟨cs0,h00,_⟩:=hx 0 (by omega);obtain⟨csl,hll,_⟩:=hx (m-1) (by omega);obtain⟨_,hlen0,hc0⟩:=World.cells?_some h00;obtain⟨_,hlenl,hcl⟩:=World.cells?_some hll;have hcell0:=hc0 0 hpos;have hlast:=hcl (r.length-1) (by omega);rw[add_add]at hlast;rw[add_add,Nat.zero_mul,Nat.add_zero]at hcell0;have ha0:a.add 0=a:=by unfold Addr.add;simp
    rw[ha0,List.getElem?_eq_getElem (by omega)]at hcell0;unfold World.cell? at hcell0;split at hcell0
    case h_2=>cases hcell0
    rename_i cc el fz hblk;split at hcell0
    ·cases hcell0
    rename_i hspot;have haspot:a=⟨a.block,a.off,none⟩:=by
     cases a with
     |mk b o s=>cases s with
      |none=>rfl
      |some s=>exact absurd rfl hspot
    have hadd:∀i,a.add i=⟨a.block,a.off+i,none⟩:=λi=>by
     unfold Addr.add;by_cases hi:i=0
     ·subst hi;rw[if_pos rfl];exact haspot
     ·rw[if_neg hi]
    have hcellcc:∀i,w.cell? (a.add i)=cc[a.off+i]? :=λi=>by
     rw[hadd];unfold World.cell?;simp only[hblk,Option.isSome_none,Bool.false_eq_true,if_false]
    have hmr:(m-1)*r.length+(r.length-1)+1=m*r.length:=by
     obtain⟨m',rfl⟩:∃m',m=m'+1:=⟨m-1,by omega⟩;rw[Nat.succ_mul];simp only[Nat.add_sub_cancel];omega
    have hsz:a.off+m*r.length<=cc.size:=by
     rw[hcellcc,List.getElem?_eq_getElem (by omega)]at hlast;have:=(Array.getElem?_eq_some_iff.1 hlast).1;omega
    obtain⟨F,C,rows,VL,h1,h2,h3,h4,h5,h6⟩:=laid_rows (P:=P) (w:=w) (base:=base) (es:=r.length) (r:=r) (a:=a) (m:=m)
     (λi hi=>by
      obtain⟨cs',q1,q2⟩:=hx i hi;exact⟨cs',q1,λE B aw=>laid_of_trod hz n e r hr _ _ _ q2 E B aw⟩) len hl aw
    have hfl:rows.flatten.length=len*r.length:=by rw[<-h5,h3.length]
    have hmul:len*r.length<=m*r.length:=Nat.mul_le_mul_right _ hl;have hrows:∀c∈rows,c.length=r.length:=λc hc=>(h4 c hc).length
    have hone:∀x∈rows.flatten,x.one=true:=λx hx=>by
     obtain⟨c,hc,hxc⟩:=List.mem_flatten.1 hx;exact List.all_eq_true.1 (h4 c hc).one x hxc
    have hlt:a.block<w.heap.size:=(Array.getElem?_eq_some_iff.1 hblk).1;have hbr:BR P (embOf (E++F)) w ⟨a.block,a.off,cc.size,false⟩ (.cells rows.flatten false false):=
     ⟨cc,el,fz,hblk,⟨by rw[hfl];show a.off+_<=_;omega,by rw[hfl];show a.off+_<=cc.size;omega,rfl⟩,λi x hx=>by
       refine⟨hone x (List.mem_of_getElem? hx),?_⟩;obtain⟨v,hv,hvr⟩:=h3.get hx;have hi:i<len*r.length:=by rw[<-hfl];exact(List.getElem?_eq_some_iff.1 hx).1
       refine⟨v,?_,hvr⟩;show cc[a.off+i]? =some v;rw[<-hcellcc,h6 i hi,hv],⟨λx=>absurd x Bool.false_ne_true,λx=>by rcases x with x|x<;>exact absurd x Bool.false_ne_true⟩⟩
    have aw2:=h1.push (e:=⟨a.block,a.off,cc.size,false⟩) (k:=.cells rows.flatten false false) rfl hlt hbr (.inr ⟨_,rfl⟩);rw[List.append_assoc,List.append_assoc]at aw2;refine⟨F++[⟨a.block,a.off,cc.size,false⟩],C++[.cells rows.flatten false false],[.slice (B++C).length 0 len r.length],aw2,?_,?_⟩
    ·refine VRs_cons.2 ⟨_,[],rfl,?_,by rw[VRs_nil]⟩;rw[VR];refine⟨⟨a.block,a.off,cc.size,false⟩,a,m,?_,rfl,hl,λ_=>?_,?_⟩
     ·unfold embOf;rw[<-h1.len,<-List.append_assoc,List.getElem?_append_right (Nat.le_refl _),Nat.sub_self];rfl
     ·show a=⟨a.block,0+a.off,none⟩;rw[Nat.zero_add];exact haspot
     ·show 0+a.off+m*r.length<=cc.size;omega
    ·rw[TYs];refine⟨_,[],rfl,?_,by rw[TYs]⟩;rw[TY];refine⟨rows,?_,by omega,λc hc=>?_⟩
     ·rw[<-h2];refine IsSl.mk (c:=rows.flatten) (mu:=false) (tl:=false) ?_ ?_ ?_ hrows
      ·rw[<-List.append_assoc,List.getElem?_append_right (Nat.le_refl _),Nat.sub_self];rfl
      ·rw[List.drop_zero,h2,<-hfl,List.take_length]
      ·rw[h2,hfl];omega
     ·rw[<-List.append_assoc];exact(h4 c hc).ext ⟨_,rfl⟩
  ·rename_i fs hu;split at h
   case h_2=>cases h
   rename_i r hr;split at h
   case isFalse=>cases h
   rename_i hc;cases h;obtain⟨xs,n',rfl,rfl,hlen,hxl,hf⟩:=DataW.trod_struct hu ht;have:=laid_fields (P:=P) (w:=w) (cs:=cs) fs.toList 0 hr (λx hx a ha E B aw=>by
    obtain⟨i,hi⟩:=List.getElem?_of_mem hx;have hi':fs[i]? =some x:=by rw[<-Array.getElem?_toList];exact hi
    have hlt:i<xs.length:=by rw[hxl];exact(Array.getElem?_eq_some_iff.1 hi').1
    have h1:=hf i x hi';rw[List.getElem?_eq_getElem hlt]at h1;exact laid_of_trod hz n x.type a ha _ _ _ h1 E B aw) E B aw
   rw[List.drop_zero,hc,<-hlen,List.take_length]at this;exact this
  ·rename_i m e hu;split at h
   case h_2=>cases h
   rename_i r hr;split at h
   case isFalse=>cases h
   rename_i hc;cases h;obtain⟨xs,n',rfl,rfl,hlen,hxl,hf⟩:=DataW.trod_array hu ht;have:=laid_chunks (P:=P) (w:=w) (r:=r) (cs:=cs) (s:=P.cellsOf e) (m:=m) hc.1 (λi hi E B aw=>by
    have hlt:i<xs.length:=by omega
    have h1:=hf i hi;rw[List.getElem?_eq_getElem hlt]at h1;exact laid_of_trod hz n e r hr _ _ _ h1 E B aw) m 0 (by omega) E B aw
   rw[Nat.zero_mul,List.drop_zero,<-hc.2,<-hlen,List.take_length]at this;exact this
  ·cases h
inductive AT where
 |one (t:CT)
 |agg (r:List CT)
def ctOne(P:Program)(e:TypeId):Option CT:=
 match P.underlying e with
 |some (.int k)=>some (.int k)
 |some .string=>some .str
 |_=>none
def atOf(P:Program)(n:Nat)(t:TypeId):Option AT:=
 match P.underlying t with
 |some (.struct _)=>
  match ctOf P n t with
  |some r=>some (.agg r)
  |none=>none
 |some (.int k)=>some (.one (.int k))
 |some .bool=>some (.one .bool)
 |some .string=>some (.one .str)
 |some (.slice _)=>
  match ctOf P n t with
  |some [c]=>some (.one c)
  |_=>none
 |some (.array m e)=>
  match ctOne P e with
  |some c=>if P.cellsOf e=1/\P.cellsOf t=m then some (.agg (List.replicate m c))else none
  |none=>
   match ctOf P n e with
   |some [c]=>if P.cellsOf e=1/\P.cellsOf t=m then some (.agg (List.replicate m c))else none
   |_=>
    match ctOf P n t with
    |some r=>some (.agg r)
    |none=>none
 |_=>none
def okWide_array{w r b0}{t e:TypeId}{m v}(ht:P.underlying t=some (.array m e))(h:Value.okWide P w r b0 t v):∃cs,v=.agg cs/\cs.size=P.cellsOf t:=by
 simp only[Value.okWide,ht]at h;obtain⟨cs,h1,h2,_⟩:=h;exact⟨cs,h1,h2⟩
theorem ones_laid{M B c}:∀(L:List Value),(∀i (hi:i<L.length),∃a,VR M a L[i]/\TY B c a)->∃l:List AV,VRs M l L/\TYs B (List.replicate L.length c) l
 |[],_=>⟨[],by rw[VRs_nil],by rw[List.length_nil,List.replicate_zero,TYs]⟩
 |v::L,h=>by
  obtain⟨a,e,hz⟩:=h 0 (by simp);obtain⟨l,h1,h2⟩:=ones_laid L λi hi=>h (i+1) (by simpa using hi)
  simp only[List.getElem_cons_zero]at e;refine⟨a::l,VRs_cons.2 ⟨_,_,rfl,e,h1⟩,?_⟩;rw[List.length_cons,List.replicate_succ,TYs];exact⟨_,_,rfl,hz,h2⟩
def atsOf(P:Program)(n:Nat):List TypeId->Option (List AT)
 |[]=>some []
 |t::ts=>
  match atOf P n t,atsOf P n ts with
  |some a,some l=>some (a::l)
  |_,_=>none
def TYa(h:AHeap):AT->AV->Prop
 |.one t,a=>TY h t a
 |.agg r,a=>∃l,a=.agg l/\TYs h r l
theorem TYa.ext{h k}(e:Ext h k):∀{t}{a},TYa h t a->TYa k t a
 |.one _,_,x=>TY.ext e x
 |.agg _,_,⟨l,e1,x⟩=>⟨l,e1,TYs.ext e x⟩
def TYas(h:AHeap):List AT->List AV->Prop
 |[],l=>l=[]
 |t::ts,l=>∃a l',l=a::l'/\TYa h t a/\TYas h ts l'
theorem laid_reps{c:CT}:∀(L:List Value),(∀v∈L,∀E B,AW P w E B->Laid P w E B [c] [v])->∀E B,AW P w E B->Laid P w E B (List.replicate L.length c) L
 |[],_,E,B,aw=>laid_nil aw
 |v::L,h,E,B,aw=>by
  have h1:=h v (List.mem_cons_self ..) E B aw;have:=h1.app λF C aw'=>laid_reps L (λx hx=>h x (List.mem_cons_of_mem _ hx)) _ _ aw'
  rw[List.length_cons,List.replicate_succ];exact this
def laid_arg(hz:∃(z:Nat) (cc:Array Value) (el:TypeId) (fz:Nat×Nat),w.heap[z]? =some (Obj.cells cc el fz)){n}{t:TypeId}{at'}(h:atOf P n t=some at'){v d ps}(ht:DataW.Trod enc P w base (λ_=>true) held t v d ps)
  {r}{b0}(ho:Value.okWide P w r b0 t v) (aw:AW P w E B):∃(F:List Ent) (C:AHeap) (a:AV),AW P w (E++F) (B++C)/\VR (embOf (E++F)) a v/\TYa (B++C) at' a:=by
 obtain⟨fuel,ht⟩:=ht;unfold atOf at h;split at h
 ·rename_i fs hu;split at h
  case h_2=>cases h
  rename_i r hr;cases h;obtain⟨cs,rfl,_⟩:=okWide_struct hu ho;obtain⟨F,C,ax,h1,h2,h3⟩:=laid_of_trod hz n t r hr fuel _ _ ht E B aw;refine⟨F,C,.agg ax,h1,?_,ax,rfl,h3⟩;rw[VR];exact⟨_,rfl,h2⟩
 ·rename_i k hu;cases h;obtain⟨z,rfl⟩:=okWide_int hu ho;obtain⟨z',e,_,hwf⟩:=DataW.trod_int hu ht;cases e;exact⟨[],[],.int k z,by rw[List.append_nil,List.append_nil];exact aw,by rw[VR],by show TY _ _ _;rw[TY];exact⟨z,rfl,hwf⟩⟩
 ·rename_i hu;cases h;obtain⟨z,rfl⟩:=okWide_bool hu ho;exact⟨[],[],.bool z,by rw[List.append_nil,List.append_nil];exact aw,by rw[VR],by show TY _ _ _;rw[TY];exact⟨z,rfl⟩⟩
 ·rename_i hu;cases h;obtain⟨s,rfl⟩:=okWide_string hu ho;obtain⟨s',e,_,hs⟩:=DataW.trod_string hu ht;cases e;exact⟨[],[],.str s.data.toList,by rw[List.append_nil,List.append_nil];exact aw,by rw[VR],by show TY _ _ _;rw[TY];exact⟨_,rfl,by simpa using hs⟩⟩
 ·rename_i e hu;split at h
  case h_2=>cases h
  rename_i c hc;cases h;obtain⟨a,len,cap,rfl⟩:=okWide_slice hu ho;obtain⟨F,C,ax,h1,h2,h3⟩:=laid_of_trod hz n t _ hc fuel _ _ ht E B aw;rw[TYs]at h3;obtain⟨x,l',rfl,h4,h5⟩:=h3;rw[TYs]at h5;subst h5;obtain⟨y,ys,e,h6,_⟩:=VRs_cons.1 h2;cases e;exact⟨F,C,x,h1,h6,h4⟩
 ·rename_i m e hu;split at h
  case h_2=>
   split at h
   case h_2=>
    split at h
    case h_2=>cases h
    rename_i r hr;cases h;obtain⟨cs,rfl,_⟩:=okWide_array hu ho;obtain⟨F,C,ax,h1,h2,h3⟩:=laid_of_trod hz n t r hr fuel _ _ ht E B aw;refine⟨F,C,.agg ax,h1,?_,ax,rfl,h3⟩;rw[VR];exact⟨_,rfl,h2⟩
   rename_i c hk;split at h
   case isFalse=>cases h
   rename_i hc;cases h;obtain⟨cs,rfl,hcs⟩:=okWide_array hu ho;obtain⟨xs,n',rfl,_,hlen,hxl,hf⟩:=DataW.trod_array hu ht;have hcl:(Value.agg cs).cells.toList=cs.toList:=rfl;rw[hcl]at hlen hf;rw[hc.2]at hlen;obtain⟨F,C,ax,h1,h2,h3⟩:=laid_reps (P:=P) (w:=w) (c:=c) cs.toList (λv hv E B aw=>by
    obtain⟨i,hi,rfl⟩:=List.mem_iff_getElem.1 hv;have hi':i<xs.length:=by omega
    have h3:=hf i (by omega);rw[hc.1,Nat.mul_one,List.getElem?_eq_getElem hi',List.drop_eq_getElem_cons hi,List.take_succ_cons,List.take_zero]at h3;exact laid_of_trod hz n e [c] hk _ _ _ h3 E B aw) E B aw
   rw[hlen]at h3;exact⟨F,C,.agg ax,h1,by rw[VR];exact⟨_,rfl,h2⟩,ax,rfl,h3⟩
  rename_i c hk;split at h
  case isFalse=>cases h
  rename_i hc;cases h;obtain⟨cs,rfl,hcs⟩:=okWide_array hu ho;obtain⟨xs,n',rfl,_,hlen,hxl,hf⟩:=DataW.trod_array hu ht;have hcl:(Value.agg cs).cells.toList=cs.toList:=rfl;rw[hcl]at hlen hf;rw[hc.2]at hlen;obtain⟨l,h1,h2⟩:=ones_laid (M:=embOf E) (B:=B) (c:=c) cs.toList λi hi=>by
   have hi':i<xs.length:=by omega
   have h3:=hf i (by omega);rw[hc.1,Nat.mul_one,List.getElem?_eq_getElem hi',List.drop_eq_getElem_cons hi,List.take_succ_cons,List.take_zero]at h3;unfold ctOne at hk;split at hk
   ·rename_i k hk';cases hk;obtain⟨z,e1,_,hwf⟩:=DataW.trod_int hk' h3;exact⟨.int k z,by rw[(List.cons.inj e1).1,VR],by rw[TY];exact⟨z,rfl,hwf⟩⟩
   ·rename_i hk';cases hk;obtain⟨s',e1,_,hs⟩:=DataW.trod_string hk' h3;exact⟨.str s'.data.toList,by rw[(List.cons.inj e1).1,VR],by rw[TY];exact⟨_,rfl,by simpa using hs⟩⟩
   ·cases hk
  rw[hlen]at h2;exact⟨[],[],.agg l,by rw[List.append_nil,List.append_nil];exact aw,by rw[VR,List.append_nil];exact⟨_,rfl,h1⟩,l,rfl,by rw[List.append_nil];exact h2⟩
 ·cases h
theorem laid_args(hz:∃(z:Nat) (cc:Array Value) (el:TypeId) (fz:Nat×Nat),w.heap[z]? =some (Obj.cells cc el fz)){n r b0}:∀(tys:List TypeId) {ats},atsOf P n tys=some ats->∀(vs:List Value) (ds:List (DataW H)) (ps:List MemPlace),
  DataW.TrodAll enc P w base (λ_=>true) held tys vs ds ps->(∀(j:Nat) t v,tys[j]? =some t->vs[j]? =some v->Value.okWide P w r b0 t v)->∀{E}{B},AW P w E B->
  ∃(F:List Ent) (C:AHeap) (ax:List AV),AW P w (E++F) (B++C)/\VRs (embOf (E++F)) ax vs/\TYas (B++C) ats ax
 |[],ats,h,vs,ds,ps,ht,_,E,B,aw=>by
  unfold atsOf at h;cases h;cases vs with
  |cons v vs=>cases ds<;>exact ht.elim
  |nil=>exact⟨[],[],[],by rw[List.append_nil,List.append_nil];exact aw,by rw[VRs_nil],by rw[TYas]⟩
 |t::tys,ats,h,vs,ds,ps,ht,ho,E,B,aw=>by
  unfold atsOf at h;split at h
  case h_2=>cases h
  rename_i a l ha hl;cases h;cases vs with
  |nil=>cases ds<;>exact ht.elim
  |cons v vs=>
   cases ds with
   |nil=>exact ht.elim
   |cons d ds=>
    obtain⟨p,q,h1,h2,_⟩:=ht;obtain⟨F,C,x,a1,a2,a3⟩:=laid_arg hz ha h1 (ho 0 t v rfl rfl) aw;obtain⟨F',C',xs,b1,b2,b3⟩:=laid_args hz tys hl vs ds q h2 (λj t v h h'=>ho (j+1) t v h h') a1;refine⟨F++F',C++C',x::xs,by rw[<-List.append_assoc,<-List.append_assoc];exact b1,?_,?_⟩
    ·rw[<-List.append_assoc];exact VRs_cons.2 ⟨v,vs,rfl,VR.mono (embOf_le _ _) _ _ a2,b2⟩
    ·rw[<-List.append_assoc,TYas];exact⟨x,xs,rfl,a3.ext ⟨C',rfl⟩,b3⟩
end
end Go.Abs
namespace Go.Abs
open Go.ChangeShapes Go.WideShapes Go.RowKit
def avsL(f:DataW Unit->Option (List AV)):List (DataW Unit)->Option (List AV)
 |[]=>some []
 |d::r=>
  match f d,avsL f r with
  |some a,some b=>some (a++b)
  |_,_=>none
def avsF(P:Program)(f:TypeId->DataW Unit->Option (List AV)):List Field->List (DataW Unit)->Nat->Option (List AV)
 |[],[],_=>some []
 |a::fs,d::r,o=>
  match f a.type d,avsF P f fs r (o+P.cellsOf a.type)with
  |some x,some y=>if a.offset=o/\x.length=P.cellsOf a.type then some (x++y)else none
  |_,_=>none
 |_,_,_=>none
def avsOf(P:Program):Nat->TypeId->DataW Unit->Option (List AV)
 | 0,_,_=>none
 |n+1,t,d=>
  match P.underlying t with
  |some (.int k)=>
   match d with
   |.lit (.int _ z)=>some [.int k z]
   |_=>none
  |some .string=>
   match d with
   |.lit (.string s)=>some [.str s]
   |_=>none
  |some (.array m e)=>
   match d with
   |.agg l=>
    match avsL (avsOf P n e) l with
    |some r=>if P.cellsOf t=m*P.cellsOf e then some r else none
    |none=>none
   |_=>none
  |some (.struct fs)=>
   match d with
   |.agg l=>
    match avsF P (avsOf P n) fs.toList l 0 with
    |some r=>if r.length=P.cellsOf t then some r else none
    |none=>none
   |_=>none
  |some (.interface _)=>
   match d with
   |.iface _ _=>some [.someIfc]
   |_=>none
  |_=>none
section
variable {P:Program}{w:World}{base:Nat}{sp:Nat->Bool}{held:Bool}
def trod_ifc{t:TypeId}{ms}(hu:P.underlying t=some (.interface ms)){fuel:Nat}{cs:List Value}{n d p}(h:DataW.trod (λ_=>()) P w base sp held fuel t cs=some (.iface n d,p)):∃u v,cs=[.iface u v]:=by
 cases fuel with
 |zero=>simp[DataW.trod]at h
 |succ f=>
  unfold DataW.trod at h;rw[hu]at h;split at h<;>simp_all
theorem avsL_ok{f:DataW Unit->Option (List AV)}{m:Emb}{ce:Nat}{cs:List Value}{g:List Value->Option (DataW Unit×List MemPlace)}(hf:∀c d p ax,g c=some (d,p)->f d=some ax->VRs m ax c/\ax.all AV.one=true):
  ∀(l:List (DataW Unit×List MemPlace)) (o:Nat) {ax:List AV},avsL f (l.map (·.1))=some ax->(∀i (hi:i<l.length),g ((cs.drop ((o+i)*ce)).take ce)=some l[i])->VRs m ax ((cs.drop (o*ce)).take (l.length*ce))/\ax.all AV.one=true
 |[],o,ax,h,_=>by
  unfold avsL at h;cases h;rw[List.length_nil,Nat.zero_mul,List.take_zero];exact⟨by rw[VRs_nil],rfl⟩
 |x::l,o,ax,h,hx=>by
  rw[List.map_cons]at h;unfold avsL at h;split at h
  case h_2=>cases h
  rename_i a b ha hb;cases h;have h0:=hx 0 (by rw[List.length_cons];omega);rw[Nat.add_zero,List.getElem_cons_zero]at h0;obtain⟨p1,p2⟩:=hf _ x.1 x.2 a h0 ha;obtain⟨q1,q2⟩:=avsL_ok hf l (o+1) hb (λi hi=>by
   have:=hx (i+1) (by rw[List.length_cons];omega);rw[List.getElem_cons_succ]at this;rw[show o+1+i=o+(i+1) by omega];exact this)
  refine⟨?_,by rw[List.all_append,p2,q2];rfl⟩;rw[List.length_cons,Nat.succ_mul,Nat.add_comm (l.length*ce) ce,List.take_add,List.drop_drop];refine p1.append ?_;rw[<-Nat.succ_mul];exact q1
theorem avsF_ok{f:TypeId->DataW Unit->Option (List AV)}{m:Emb}{cs:List Value}{g:TypeId->List Value->Option (DataW Unit×List MemPlace)}(hf:∀t c d p ax,g t c=some (d,p)->f t d=some ax->VRs m ax c/\ax.all AV.one=true):
  ∀(fs:List Field) (l:List (DataW Unit×List MemPlace)) (o:Nat) {ax:List AV},avsF P f fs (l.map (·.1)) o=some ax->(∀(i:Nat) (a:Field),fs[i]? =some a->g a.type ((cs.drop a.offset).take (P.cellsOf a.type))=l[i]?)->VRs m ax ((cs.drop o).take ax.length)/\ax.all AV.one=true
 |[],[],o,ax,h,_=>by
  unfold avsF at h;cases h;exact⟨by rw[List.length_nil,List.take_zero,VRs_nil],rfl⟩
 |[],_::_,o,ax,h,_=>by unfold avsF at h;cases h
 |_::_,[],o,ax,h,_=>by unfold avsF at h;cases h
 |a::fs,x::l,o,ax,h,hx=>by
  rw[List.map_cons]at h;unfold avsF at h;split at h
  case h_2=>cases h
  rename_i x' y' ha hb;split at h
  case isFalse=>cases h
  rename_i hc;cases h;have h0:=hx 0 a rfl;rw[List.getElem?_cons_zero,hc.1,<-hc.2]at h0;obtain⟨p1,p2⟩:=hf _ _ x.1 x.2 x' h0 ha;obtain⟨q1,q2⟩:=avsF_ok hf fs l _ hb (λi b hi=>by
   have:=hx (i+1) b (by rw[List.getElem?_cons_succ];exact hi);rw[List.getElem?_cons_succ]at this;exact this)
  refine⟨?_,by rw[List.all_append,p2,q2];rfl⟩;rw[List.length_append,List.take_add,List.drop_drop];refine p1.append ?_;rw[hc.2];exact q1
theorem avsOf_ok{m:Emb}:∀(n:Nat) (t:TypeId) (fuel:Nat) (cs:List Value) (d:DataW Unit) (p:List MemPlace) (ax:List AV),
  DataW.trod (λ_=>()) P w base sp held fuel t cs=some (d,p)->avsOf P n t d=some ax->VRs m ax cs/\ax.all AV.one=true
 | 0,_,_,_,_,_,_,_,h=>by cases h
 |n+1,t,fuel,cs,d,p,ax,ht,h=>by
  unfold avsOf at h;split at h
  ·rename_i k hu;obtain⟨z,rfl,e,_⟩:=DataW.trod_int hu ht;cases e;cases h;exact⟨VRs_cons.2 ⟨_,[],rfl,by rw[VR],by rw[VRs_nil]⟩,rfl⟩
  ·rename_i hu;obtain⟨s,rfl,e,_⟩:=DataW.trod_string hu ht;cases e;cases h;exact⟨VRs_cons.2 ⟨_,[],rfl,rfl,by rw[VRs_nil]⟩,rfl⟩
  ·rename_i mm e hu;obtain⟨xs,m',_,ex,hlen,hxl,hf⟩:=DataW.trod_array hu ht;cases ex;simp only at h;split at h
   case h_2=>cases h
   rename_i r hr;split at h
   case isFalse=>cases h
   rename_i hc;cases h;have:=avsL_ok (m:=m) (ce:=P.cellsOf e) (cs:=cs) (g:=DataW.trod (λ_=>()) P w base sp held m' e) (λc d p ax h1 h2=>avsOf_ok n e m' c d p ax h1 h2) xs 0 hr (λi hi=>by
    have:=hf i (by omega);rw[List.getElem?_eq_getElem hi]at this;rw[Nat.zero_add];exact this)
   rw[Nat.zero_mul,List.drop_zero,hxl,<-hc,<-hlen,List.take_length]at this;exact this
  ·rename_i fs hu;obtain⟨xs,m',_,ex,hlen,hxl,hf⟩:=DataW.trod_struct hu ht;cases ex;simp only at h;split at h
   case h_2=>cases h
   rename_i r hr;split at h
   case isFalse=>cases h
   rename_i hc;cases h;have:=avsF_ok (m:=m) (cs:=cs) (g:=λt' c=>DataW.trod (λ_=>()) P w base sp held m' t' c) (λt' c d p ax h1 h2=>avsOf_ok n t' m' c d p ax h1 h2) fs.toList xs 0 hr (λi a hi=>hf i a (by rw[<-Array.getElem?_toList];exact hi));rw[List.drop_zero,hc,<-hlen,List.take_length]at this;exact this
  ·rename_i ms hu;split at h
   case h_2=>cases h
   cases h;obtain⟨u,v,rfl⟩:=trod_ifc hu ht;exact⟨VRs_cons.2 ⟨_,[],rfl,⟨u,v,rfl⟩,by rw[VRs_nil]⟩,rfl⟩
  ·cases h
def globB(P:Program)(laid:List (String×DataW Unit))(n:Nat)(g:Nat):ABlk:=
 match laid.find? (λx=>P.globalNamed x.1==some g)with
 |some x=>
  match (P.globals[g]?).map (·.type)with
  |some t=>
   match avsOf P n t x.2 with
   |some ax=>if ax.length=gsz P g then .cells ax false false else .dead
   |none=>.dead
  |none=>.dead
 |none=>.dead
def globE(P:Program):List Ent:=(List.range P.globals.size).map λg=>⟨g,0,gsz P g,false⟩
def globL(P:Program)(laid:List (String×DataW Unit))(n:Nat):AHeap:=(List.range P.globals.size).map (globB P laid n)
theorem laidVars_mem:∀{laid}{ps},DataW.LaidVars P w laid ps->∀x∈laid,∃g t cs fuel p,P.globalNamed x.1=some g/\(P.globals[g]?).map (·.type)=some t/\w.var? P x.1=some cs/\
  DataW.trod (λ_=>()) P w 0 (λ_=>true) false fuel t cs.toList=some (x.2,p)
 |[],_,_,x,hx=>by cases hx
 |(n,d)::r,ps,h,x,hx=>by
  obtain⟨g,t,cs,fuel,p,q,h1,h2,h3,h4,h5,_⟩:=h;rcases List.mem_cons.1 hx with rfl|hx
  ·exact⟨g,t,cs,fuel,p,h1,h2,h3,h4⟩
  ·exact laidVars_mem h5 x hx
def var_blk{n g cs}(hg:P.globalNamed n=some g)(h:w.var? P n=some cs):∃el fz,w.heap[g]? =some (.cells cs el fz):=by
 unfold World.var? at h;rw[hg]at h;simp only[Option.bind_some]at h;split at h
 ·rename_i c el fz hb;cases h;exact⟨el,fz,hb⟩
 ·cases h
end
section
variable {P:Program}{W W':World}{E:List Ent}{B h':AHeap}{m':Emb}
def AW.below(aw:AW P W E B)(g:Grow (embOf E) B W m' h' W'):Below W.heap.size W W':=
 ⟨g.os,g.tape,g.out,g.size,λk hk=>g.frame k hk λb e hb ho=>by rw[(aw.own b e hb).1]at ho;cases ho⟩
def below_kept(b:Below W.heap.size W W')(may:MemPlace->Prop):W.keptBut W' may:=by
 refine⟨b.os,b.output,λi hi=>?_⟩;rw[b.block i hi];split
 ·rename_i h1 h2;rw[h1]at h2;simp only[Option.some.injEq,Obj.cells.injEq]at h2;obtain⟨rfl,rfl,rfl⟩:=h2;exact⟨rfl,rfl,rfl,λ_ _=>rfl⟩
 ·rename_i h1 h2;rw[h1]at h2;simp only[Option.some.injEq,Obj.map.injEq]at h2;obtain⟨rfl,rfl⟩:=h2;exact .inr ⟨rfl,rfl⟩
 ·rfl
variable {H:Type}{enc:TypeId×Value->H}
theorem trodAll_below(hlo:laidOutB P=true)(hb:Below W.heap.size W W'){sp}:∀{tys}{vs}{ds}{ps},(∀t∈tys,P.readableRec t=true/\t<P.types.size)->
  DataW.TrodAll enc P W 0 (λ_=>true) true tys vs ds ps->(∀p∈ps,p.block<W.heap.size)->(∀p∈ps,sp p.block=true)->DataW.TrodAll enc P W' 0 sp true tys vs ds ps
 |[],[],[],ps,_,h,_,_=>h
 |[],[],_::_,_,_,h,_,_=>h.elim
 |[],_::_,_,_,_,h,_,_=>h.elim
 |_::_,[],_,_,_,h,_,_=>h.elim
 |_::_,_::_,[],_,_,h,_,_=>h.elim
 |t::tys,v::vs,d::ds,ps,hr,h,hl,hs=>by
  obtain⟨p,q,h1,h2,rfl⟩:=h;exact⟨p,q,WideElems.Trod_stays hlo (hr t (List.mem_cons_self ..)).1 (hr t (List.mem_cons_self ..)).2 h1 (λx hx=>hb.same (hl x (List.mem_append_left _ hx))) (λx hx=>hs x (List.mem_append_left _ hx)),
   trodAll_below hlo hb (λt ht=>hr t (List.mem_cons_of_mem _ ht)) h2 (λx hx=>hl x (List.mem_append_right _ hx)) (λx hx=>hs x (List.mem_append_right _ hx)),rfl⟩
def post_true{f:Func}{s:ChangeSpec}{apart fresh handsOn again:Bool}{args:Array Value}{ds gs:List (DataW H)}{before:List MemPlace}{tb:TypeId}
  (hlo:laidOutB P=true) (hpar:∀t∈f.params.toList,P.readableRec t=true/\t<P.types.size) (hrt:f.resultTypes=#[tb]) (htb:P.underlying tb=some .bool) (hvars:s.vars=[])
  (hfn:(s.fn H (ds++gs))={results:=[.lit (.bool true)],args:=ds}) (hW:DataW.Whole enc P f.params.toList s.vars apart W args.toList ds gs before) (hb:Below W.heap.size W W'):
  s.post enc P f apart fresh handsOn again W args (.bool true) W':=by
 have hlt:=hW.lt;have hW':=hW;obtain⟨p,q,hA,hV,rfl,hz,hn⟩:=hW';rw[hvars]at hV;obtain⟨rfl,rfl⟩:=trodVars_none hV;rw[List.append_nil]at hlt;have hres:∀(b:Nat) (sp:Nat->Bool) (hd:Bool),DataW.TrodAll enc P W' b sp hd f.resultTypes.toList ((Value.bool true).resultList f.resultTypes.size) (s.fn H (ds++[])).results []:=λb sp hd=>by
  rw[hfn,hrt];exact trodAll_mk1 (shut_bool htb _)
 have hargs:∀sp:Nat->Bool,(∀x∈p,sp x.block=true)->DataW.TrodAll enc P W' 0 sp true f.params.toList args.toList (s.fn H (ds++[])).args p:=λsp hs=>by
  rw[hfn];exact trodAll_below hlo hb hpar hA hlt hs
 have hvs:∀sp:Nat->Bool,DataW.TrodVars enc P W' sp s.vars (s.fn H (ds++[])).vars []:=λsp=>by
  rw[hfn,hvars];rfl
 refine⟨ds,[],p++[],[],p,[],hW,hres _ _ _,hargs _ (λx hx=>by simpa using hlt x hx),hvs _,below_kept hb _,λ_=>?_⟩;refine⟨?_,_,_,([]++p)++[],⟨[]++p,[],trodAll_append (hargs _ (λ_ _=>rfl)) (hres _ _ _),hvs _,rfl,?_,?_⟩,?_⟩
 ·exact ok_one hrt rfl (okWide_bool_mk htb _)
 ·intro b off hp;have hp:MemPlace.cell b off∈p:=by simpa using hp
  have:=hz b off (by simpa using hp);unfold World.frozen? at this ⊢;rw[hb.block b (hlt _ hp)];exact this
 ·intro ha;have:=hn ha
  simpa using this
 ·intro x hx _
  simpa using hx
def row_true{f:Func}{fid:FuncId}{s:ChangeSpec}{apart fresh handsOn again:Bool}{args:Array Value}{ds gs:List (DataW H)}{before:List MemPlace}{tb:TypeId}{n:Nat}{ats:List AT}{r:Reach}{b0:Nat}
  (hlo:laidOutB P=true) (hpar:∀t∈f.params.toList,P.readableRec t=true/\t<P.types.size) (hrt:f.resultTypes=#[tb]) (htb:P.underlying tb=some .bool) (hvars:s.vars=[])
  (hfn:(s.fn H (ds++gs))={results:=[.lit (.bool true)],args:=ds}) (hats:atsOf P n f.params.toList=some ats)
  (hval:∀(j:Nat) t v,f.params[j]? =some t->args[j]? =some v->Value.okWide P W r b0 t v)
  (hW:DataW.Whole enc P f.params.toList s.vars apart W args.toList ds gs before) (aw:AW P W E B) (hz:∃(z:Nat) (cc:Array Value) (el:TypeId) (fz:Nat×Nat),W.heap[z]? =some (Obj.cells cc el fz))
  (call:∀k ax,Ext B k->TYas k ats ax->RCall P fid ax k λv _=>v=.bool true):
  Calls P fid args W λe W'=>∃v,e=.returned v/\s.post enc P f apart fresh handsOn again W args v W':=by
 obtain⟨p,q,hA,_⟩:=id hW;obtain⟨F,C,ax,h1,h2,h3⟩:=laid_args hz f.params.toList hats args.toList ds p hA (λj t v h h'=>hval j t v (by rw[<-Array.getElem?_toList];exact h) (by rw[<-Array.getElem?_toList];exact h')) aw;obtain⟨v,g,hs,rfl⟩:=call (B++C) ax ⟨C,rfl⟩ h3;refine(hs (embOf (E++F)) W args.toList h1.hr h2).mono λe W' ⟨cv,m',he,hv,_,hg⟩=>?_
 rw[VR]at hv;subst hv;exact⟨_,he,post_true hlo hpar hrt htb hvars hfn hW (h1.below hg)⟩
end
end Go.Abs
namespace Go.Abs
def ty_int{h k a}(x:TY h (.int k) a):∃z,a=.int k z/\(Lit.int k z).wf=true:=by rw[TY]at x;exact x
def tys_nil{h l}(x:TYs h [] l):l=[]:=by rw[TYs]at x;exact x
def tys_cons{h t ts l}(x:TYs h (t::ts) l):∃a l',l=a::l'/\TY h t a/\TYs h ts l':=by rw[TYs]at x;exact x
def tyas_nil{h l}(x:TYas h [] l):l=[]:=by rw[TYas]at x;exact x
def tyas_cons{h t ts l}(x:TYas h (t::ts) l):∃a l',l=a::l'/\TYa h t a/\TYas h ts l':=by rw[TYas]at x;exact x
def u8_bd{z}(h:(Lit.int .u8 z).wf=true):0<=z/\z<=255:=by
 simp only[Lit.wf,Bool.and_eq_true,decide_eq_true_eq]at h;exact⟨h.1,h.2⟩
theorem tys_rep{h k}:∀{n}{c},TYs h (List.replicate n (.int k)) c->∃nn:List Int,c=nn.map (AV.int k)/\nn.length=n/\∀y∈nn,(Lit.int k y).wf=true
 | 0,c,x=>⟨[],tys_nil x,rfl,λ_ hy=>by cases hy⟩
 |n+1,c,x=>by
  rw[List.replicate_succ]at x;obtain⟨_,_,rfl,h1,x2⟩:=tys_cons x;obtain⟨z,rfl,hz⟩:=ty_int h1;obtain⟨nn,rfl,hl,hw⟩:=tys_rep x2;exact⟨z::nn,rfl,by rw[List.length_cons,hl],λy hy=>by
   rcases List.mem_cons.1 hy with rfl|hy
   ·exact hz
   ·exact hw y hy⟩
def tya_arr{h k n a}(x:TYa h (.agg (List.replicate n (.int k))) a):∃nn:List Int,a=.agg (nn.map (AV.int k))/\nn.length=n/\∀y∈nn,(Lit.int k y).wf=true:=by
 obtain⟨l,rfl,x⟩:=x;obtain⟨nn,rfl,h1,h2⟩:=tys_rep x;exact⟨nn,rfl,h1,h2⟩
end Go.Abs
namespace Go.Abs
open Go.ChangeShapes Go.WideShapes Go.RowKit
section
variable {H:Type}{enc:TypeId×Value->H}
def of_change_sh{a:Assume}{C:Checked}{os:Os}{f:FuncId}{fn:Func}{s:ChangeSpec}{conds:List PathCond}{apart fresh handsOn again:Bool}{X:World->Array Value->Prop}
  (hX:∀(w w':World) (args:Array Value),w.heap=w'.heap->X w args->X w' args)
  (own:ownKnob C.prog.godebug=none) (started:os.Started) (noInit:C.prog.inits.idxOf? f=none) (hfn:C.prog.funcs[f]? =some fn)
  (witness:∃(w:World) (tape:Tape) (i:Input),w.os=os/\(w.forCall tape i).Shaped C.prog/\i.vars=[]/\Input.okWide C.prog (w.forCall tape i) .any w.heap.size f i/\
   ((s.pre enc C.prog fn conds apart (w.forCall tape i).memory i.args/\X (w.forCall tape i).memory i.args)/\sizedMet enc C.prog fn (OpenSpec.ofChange s) apart (w.forCall tape i).memory i.args)/\a.holds C.prog (lone (Frame.enter C.prog f i.args .normal) [] (w.forCall tape i)))
  (contract:∀(W:World) (base:Nat) (args:Array Value) (ds gs:List (DataW H)) (before:List MemPlace),W.ShapedOpen C.prog->
   (∀(j:Nat) t v,fn.params[j]? =some t->args[j]? =some v->Value.okWide C.prog W .any base t v)->
   DataW.Whole enc C.prog fn.params.toList s.vars apart W args.toList ds gs before->
   conds.all (PathCond.test C.prog ⟨fn.params.toList,ds,s.plain.varTypes C.prog,gs⟩)=true->
   (DataW.weightsEach C.prog (fn.params.toList++s.plain.varTypes C.prog) (ds++gs)).all (·<=reachBytes)=true->X W args->
   a.holds C.prog (lone (Frame.enter C.prog f args .normal) [] W)->
   Calls C.prog f args W λe W'=>∃v,e=.returned v/\s.post enc C.prog fn apart fresh handsOn again W args v W'):
  ReturnsInHanded a C os f .any (λw args=>(s.pre enc C.prog fn conds apart w args/\X w args)/\sizedMet enc C.prog fn (OpenSpec.ofChange s) apart w args) (s.post enc C.prog fn apart fresh handsOn again):=by
 refine returnsInHanded_of_calls own started noInit witness ?_;intro w tape i _ hsh _ hok hpre hholds;obtain⟨_,_,_,fn',hfn',_,_,_,_,hval⟩:=hok;have e:fn' =fn:=Option.some.inj (hfn'.symm.trans hfn);subst e;obtain⟨⟨⟨ds,gs,before,hw,hc⟩,hx⟩,hz⟩:=hpre;have hw':=DataW.Whole.of_heap (w':=w.forCall tape i) (by rfl) hw;refine(contract (w.forCall tape i) w.heap.size i.args ds gs before hsh hval hw' hc (hz.weights hw) (hX _ _ _ (by rfl) hx) hholds).mono λe W' ⟨v,he,hp⟩=>?_
 subst he;exact ChangeSpec.post_blind hp
end
def shaped_last{P:Program}{w:World}(sh:w.ShapedOpen P)(h0:0<P.globals.size)(h:(((begin P (λ_ _=>0) default).world.heap[P.globals.size-1]?).bind Obj.row?).isSome=true):P.globals.size<=w.heap.size/\∃(z:Nat) (cc:Array Value) (el:TypeId) (fz:Nat×Nat),w.heap[z]? =some (Obj.cells cc el fz):=by
 obtain⟨x,hx⟩:=Option.isSome_iff_exists.1 h;obtain⟨cs,h1,_⟩:=sh.1 (P.globals.size-1) x.1 x.2 (by omega) hx;have:=(Array.getElem?_eq_some_iff.1 h1).1;exact⟨by omega,_,_,_,_,h1⟩
def AW.globals2{P:Program}{w:World}{laid0 laid:List (String×DataW Unit)}(hl:laidMet P laid0 w)(hsub:∀x∈laid,x∈laid0)(n:Nat)(hsz:P.globals.size<=w.heap.size):AW P w (globE P) (globL P laid n):=by
 obtain⟨ps,hv,_,_⟩:=hl;have hE:∀(b:Nat) e,(globE P)[b]? =some e->b<P.globals.size/\e=⟨b,0,gsz P b,false⟩:=λb e h=>by
  unfold globE at h;rw[List.getElem?_map]at h;have hb:b<P.globals.size:=by
   cases hr:(List.range P.globals.size)[b]? with
   |none=>rw[hr]at h;cases h
   |some y=>have:=(List.getElem?_eq_some_iff.1 hr).1;simpa using this
  rw[List.getElem?_range hb]at h;exact⟨hb,(Option.some.inj h).symm⟩
 refine⟨by simp[globE,globL],λb e h=>?_,λb e k h h'=>?_,λg hg=>⟨⟨g,0,gsz P g,false⟩,?_,rfl,rfl,rfl,rfl⟩⟩
 ·obtain⟨hb,rfl⟩:=hE b e h;exact⟨rfl,by show b<_;omega⟩
 ·obtain⟨hb,rfl⟩:=hE b e h;unfold globL at h';rw[List.getElem?_map,List.getElem?_range hb]at h';have h':=(Option.some.inj h').symm;subst h';unfold globB;split
  case h_2=>exact⟨trivial,.inl rfl⟩
  rename_i x hx;split
  case h_2=>exact⟨trivial,.inl rfl⟩
  rename_i t ht;split
  case h_2=>exact⟨trivial,.inl rfl⟩
  rename_i ax has;split
  case isFalse=>exact⟨trivial,.inl rfl⟩
  rename_i hlen;refine⟨?_,.inr ⟨ax,rfl⟩⟩;obtain⟨g,t',cs,fuel,p,b1,b2,b3,b4⟩:=laidVars_mem hv x (hsub _ (List.mem_of_find?_eq_some hx));have hgb:P.globalNamed x.1=some b:=by have:=List.find?_some hx;simpa using this
  have e1:g=b:=Option.some.inj (b1.symm.trans hgb);subst e1;have e2:t' =t:=Option.some.inj (b2.symm.trans ht);subst e2;obtain⟨el,fz,hblk⟩:=var_blk b1 b3;obtain⟨c1,c2⟩:=avsOf_ok (m:=embOf (globE P)) n t' fuel _ _ _ _ b4 has;have hcl:cs.size=ax.length:=by have:=c1.length;simpa using this
  refine⟨cs,el,fz,hblk,⟨by show 0+_<=_;omega,by show 0+_<=gsz P g;omega,by show cs.size=gsz P g;omega⟩,λi x hx=>?_,⟨λx=>absurd x Bool.false_ne_true,λx=>by rcases x with x|x<;>exact absurd x Bool.false_ne_true⟩⟩;refine⟨List.all_eq_true.1 c2 x (List.mem_of_getElem? hx),?_⟩;obtain⟨v,hv1,hv2⟩:=c1.get hx;refine⟨v,?_,hv2⟩;show cs[0+i]? =some v;rw[Nat.zero_add,<-Array.getElem?_toList];exact hv1
 ·unfold globE;rw[List.getElem?_map,List.getElem?_range hg];rfl
end Go.Abs
namespace Go.Proofs.YtjipbemoklhnaaaGreatDoor
open Go.ChangeShapes Go.WideShapes Go.RowKit Go.Abs
def tc_last:(((begin Tryz.prog (λ_ _=>0) default).world.heap[Tryz.prog.globals.size-1]?).bind Obj.row?).isSome=true:=by kernel_rfl
def and2{a b:Bool}(h:a=true)(h':b=true):(a&&b)=true:=by rw[h,h'];rfl
def own:ownKnob Tryz.prog.godebug=none:=by kernel_rfl
def laidOut:laidOutB Tryz.prog=true:=by kernel_rfl
def sc_maps:mapsRowed Tryz.prog=true:=by kernel_rfl
def sc_stops:(Tryz.prog.stops==[])=true:=by kernel_rfl
def sc_knobs:(Tryz.prog.stopKnobs==[])=true:=by kernel_rfl
def sc_heard:Tryz.prog.stopsHeard=true:=by kernel_rfl
def sc_enter:Tryz.prog.mayEnter=true:=by kernel_rfl
def sc_lifts:(Rows.topAnchorCopiedRow.lifted==Tryz.prog.liftsFinal)=true:=by kernel_rfl
def sc_make:(Tryz.prog.make==some Rows.topAnchorCopiedRow.make)=true:=by kernel_rfl
def sc_keys:(Rows.topAnchorCopiedRow.plainKeys==Tryz.prog.plainKeys)=true:=by kernel_rfl
def sc_main:Tryz.prog.mainIs=some (true, "c1b021ecd57596f2bf390c44327b1ef239e203b65a7d104cdc6fbd7710dc9fb7".toList):=by kernel_rfl
def sc_looks:true=Tryz.prog.looks []:=by kernel_rfl
def sc_shaped(os:Os)(args:Array Value):((World.laidAll Tryz.prog os Rows.topAnchorCopiedRow.laid).forCall (λ_ _=>0) ⟨#[],args,[]⟩).Shaped Tryz.prog:=World.shaped_of_ZipB (by kernel_rfl) (by kernel_rfl)
def sc_laid(os:Os)(args:Array Value):laidMetH Tryz.prog Rows.topAnchorCopiedRow.laid ((World.laidAll Tryz.prog os Rows.topAnchorCopiedRow.laid).forCall (λ_ _=>0) ⟨#[],args,[]⟩).memory:=by
 rw[MakeChecks.laidMetH_plain _ _ _ (by kernel_rfl)];exact laidMet_laidAll _ (by kernel_rfl) (by kernel_rfl)
end Go.Proofs.YtjipbemoklhnaaaGreatDoor
