/- A part of the proof that HouseSessions holds. No condition. -/
import Derived.Test.YtgplmdgpmbegiaaGreatDoorSe0
import Derived.Test.YtgplmdgpmbegiaaGreatDoorSe9
import Derived.Test.YtgplmdgpmbegiaaGreatDoorSe11
set_option linter.all false
namespace Go.Proofs.YtgplmdgpmbegiaaGreatDoor
open Go.ChangeShapes Go.WideShapes Go.RowKit Go.Abs
def rC:w8 Tryz.prog Rows.houseSessionsRow.laid 6=w9:=by kernel_rfl
def vV:Tryz.prog.inits.idxOf? 7=none:=by kernel_rfl
def vU(os:Os):Input.okWideB Tryz.prog ((World.laidAll Tryz.prog os Rows.houseSessionsRow.laid).forCall (λ_ _=>0) ⟨#[],#[.string ⟨#[]⟩,.slice none 0 0],[]⟩) 7 ⟨#[],#[.string ⟨#[]⟩,.slice none 0 0],[]⟩=true:=by kernel_rfl
def vT(os:Os)(H:Type)(enc:TypeId×Value->H):Rows.houseSessionsSpec.preB enc Tryz.prog Tryz.f7 Rows.houseSessionsRow.domain false ((World.laidAll Tryz.prog os Rows.houseSessionsRow.laid).forCall (λ_ _=>0) ⟨#[],#[.string ⟨#[]⟩,.slice none 0 0],[]⟩).memory #[.string ⟨#[]⟩,.slice none 0 0] 8=true:=by kernel_rfl
def vS(os:Os)(H:Type)(enc:TypeId×Value->H):Rows.houseSessionsSpec.sizedB enc Tryz.prog Tryz.f7 false ((World.laidAll Tryz.prog os Rows.houseSessionsRow.laid).forCall (λ_ _=>0) ⟨#[],#[.string ⟨#[]⟩,.slice none 0 0],[]⟩).memory #[.string ⟨#[]⟩,.slice none 0 0] 8=true:=by kernel_rfl
def uD:uq Tryz.prog 6 (Tryz.f7).params.toList=some [.one .str,.one (.sl [.str])]:=by kernel_rfl
def uC:∀t∈(Tryz.f7).params.toList,Tryz.prog.readableRec t=true/\t<Tryz.prog.types.size:=by decide+kernel
def uB:(Tryz.f7).resultTypes=#[4]:=by kernel_rfl
set_option maxRecDepth 100000 in
def qN(os:Os)(started:os.Started)(H:Type)(enc:TypeId×Value->H):
  ReturnsInHanded {} Tryz.checked os 7 .any (λw args=>(Rows.houseSessionsSpec.pre enc Tryz.prog Tryz.f7 Rows.houseSessionsRow.domain false w args/\laidMetH Tryz.prog Rows.houseSessionsRow.laid w)/\sizedMet enc Tryz.prog Tryz.f7 (OpenSpec.ofChange Rows.houseSessionsSpec) false w args)
   (Rows.houseSessionsSpec.post enc Tryz.prog Tryz.f7 false true false false):=by
 refine returnsInHanded_of_change_and (C:=Tryz.checked) (X:=λw _=>laidMetH Tryz.prog Rows.houseSessionsRow.laid w) (λ_ _ _ hh h=>h.of_heap hh) own started vV Tryz.func7
  (ChangeSpec.witness_shaped (enc:=enc) (C:=Tryz.checked) (os:=os) (X:=λw _=>laidMetH Tryz.prog Rows.houseSessionsRow.laid w) false (World.laidAll Tryz.prog os Rows.houseSessionsRow.laid) #[.string ⟨#[]⟩,.slice none 0 0] 8 (World.laidAll_os _ _ _)
   (AA os _) (vU os) (vT os H enc) (vS os H enc) (Ew os _)) ?_
 intro W base args ds gs before hval hW _ _ hL _;have VC:laidMetH Tryz.prog Rows.houseSessionsRow.laid W:=hL;rw[MakeChecks.laidMetH_plain _ _ _ (by kernel_rfl)]at VC;obtain⟨aw,hz⟩:=AW.globals VC (λx hx=>hx) 6 (nm:= "math/bits.deBruijn64tab") (d:=Rows.laid_math_bits_deBruijn64tab) (by unfold Rows.houseSessionsRow;simp) (by kernel_rfl);rw[rC]at aw;obtain⟨p,q,hA,hV,_⟩:=id hW;obtain⟨rfl,_⟩:=trodVars_none hV;have hA':DataW.TrodAll enc Tryz.prog W 0 (λ_=>true) true (Tryz.f7).params.toList args.toList ds p:=hA;rw[Tryz.params7]at hA';obtain⟨_,_,d1,d2,_,_,_,rfl,_⟩:=trodAll_two hA';refine Cs (n:=6) (ats:=[.one .str,.one (.sl [.str])]) laidOut uC uB Tryz.underlying4 rfl rfl uD hval hW aw hz ?_
 intro k vs e h;obtain⟨_,_,rfl,h1,h⟩:=tv h;obtain⟨_,_,rfl,h2,h⟩:=tv h;obtain rfl:=BV h;obtain⟨n,rfl,hn⟩:=Ef h1;obtain⟨M,hM,hMl,hMs⟩:=BW h2;exact r7 RK (λk' e'=>r15 RK RD RN (RP (e.trans e')) (RM (e.trans e'))) RD RN (RP e) (RM e) n (by unfold maxLen at *;omega) hM (by unfold maxLen at *;omega)
def wa:(Rows.houseSessionsRow.inPlace==Tryz.prog.inPlace 7)=true:=by kernel_rfl
def v8:(Rows.houseSessionsRow.unfollowed==Tryz.prog.unfollowed 7)=true:=by kernel_rfl
def v7:(Rows.houseSessionsRow.recurses==Tryz.prog.recurses 7)=true:=by kernel_rfl
def vZ:(Rows.houseSessionsRow.named==Tryz.prog.varsNamed 7)=true:=by kernel_rfl
def qk:Tryz.prog.funcNamed "moveout/moveoutlaw10.HouseSessions" =some 7:=by kernel_rfl
def vY:(Tryz.f7).isInstance Tryz.prog Rows.houseSessionsRow.origin Rows.houseSessionsRow.targs:=aaQ (by kernel_rfl)
def vX:(Tryz.f7).isWrapper Tryz.prog Rows.houseSessionsRow.wrapper Rows.houseSessionsRow.mainSum:=by
 unfold Func.isWrapper;first|(rw[ZY (by decide+kernel)];kernel_rfl)|(rw[ZW (by decide+kernel)];exact⟨rfl,rfl⟩)
def vW:((Tryz.f7).params.all (Tryz.prog.readableRec ·))=true:=by kernel_rfl
def qO:joinedFacts Tryz.prog 7 Tryz.f7 Rows.houseSessionsSpec Rows.houseSessionsRow=true:=by
 unfold joinedFacts;exact gU (gU (gU (gU (gU (gU (gU (gU (gU (gU (gU (gU (gU (gU (gU (gU (gU (gU (gU (gU (gU (gU (gU (gU (gU (gU (gU (gU (gU (gU (gU (by kernel_rfl) laidOut) Es) vW) (by kernel_rfl)) (by kernel_rfl)) Cd) (by kernel_rfl)) Ch) wa) v8) v7) vZ)
  (by kernel_rfl)) (by kernel_rfl)) (by kernel_rfl)) (by kernel_rfl)) (by kernel_rfl)) (by kernel_rfl)) (by kernel_rfl)) (by kernel_rfl)) (by kernel_rfl)) Ey) (by kernel_rfl)) Ci) Cj) Cg) Et) (by kernel_rfl)) (by kernel_rfl)) (by kernel_rfl)) (by kernel_rfl)
def rB:Rows.HouseSessionsSaid:=
 OpenClaim.holds_of_wide 7 Tryz.f7 rfl rfl rfl rfl rfl rfl rfl ⟨rfl,rfl,rfl,rfl,rfl⟩ rfl rfl rfl rfl rfl qk Tryz.func7 qO
  vY vX (λos started H enc _=>qN os started H enc)
def rA:((Tryz.f7).params.toList.all λu=>!Tryz.prog.wantsStandIn u)=true:=by kernel_rfl
def sU:false=Rows.houseSessionsRow.goesBy Tryz.prog:=by kernel_rfl
def sS:Rows.houseSessionsRow.wfByText (OpenSpec.ofChange Rows.houseSessionsSpec)=true:=by kernel_rfl
theorem sessions_card_holds:Rows.HouseSessionsCardSaid:=
 Claim7.holds_tied_plain_at .later [] [.data,.data,.data,.data,.sentinel,.sentinel,.data,.pinned] true (true, "99e684478f8cae51b056da3a355f6848a653f6e5f09f29bc4422acb306b2dd43") true rB (λ_ h=>by cases h) sS (λ_ h=>by cases h) houseSessions_row_tie rfl ⟨rfl,rfl⟩ Eu rfl
  (λf fn hf hfn=>by
   obtain rfl:f=7:=aaN (qk.symm.trans hf) |>.symm;obtain rfl:fn=Tryz.f7:=(aaN ((Tryz.func7).symm.trans hfn)).symm;exact⟨Ce,λj t ht=>by
    have hm:t∈(Tryz.f7).params.toList:=by simpa using Array.mem_of_getElem? ht
    exact(show Tryz.prog.wantsStandIn t=false by simpa using aas.1 rA t hm)⟩)
  sU
#print axioms sessions_card_holds
end Go.Proofs.YtgplmdgpmbegiaaGreatDoor
