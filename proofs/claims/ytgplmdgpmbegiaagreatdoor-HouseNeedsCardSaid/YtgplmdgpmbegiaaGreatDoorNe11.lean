/- A part of the proof that HouseNeeds holds. No condition. -/
import Derived.Test.YtgplmdgpmbegiaaGreatDoorNe0
import Derived.Test.YtgplmdgpmbegiaaGreatDoorNe9
import Derived.Test.YtgplmdgpmbegiaaGreatDoorNe10
set_option linter.all false
namespace Go.Proofs.YtgplmdgpmbegiaaGreatDoor
open Go.ChangeShapes Go.WideShapes Go.RowKit Go.Abs
def vS:wF Tryz.prog Rows.houseNeedsRow.laid 6=wG:=by kernel_rfl
def CM:Tryz.prog.inits.idxOf? 13=none:=by kernel_rfl
def CL(os:Os):Input.okWideB Tryz.prog ((World.laidAll Tryz.prog os Rows.houseNeedsRow.laid).forCall (λ_ _=>0) ⟨#[],#[.slice none 0 0],[]⟩) 13 ⟨#[],#[.slice none 0 0],[]⟩=true:=by kernel_rfl
def CJ(os:Os)(H:Type)(enc:TypeId×Value->H):Rows.houseNeedsSpec.preB enc Tryz.prog Tryz.f13 Rows.houseNeedsRow.domain false ((World.laidAll Tryz.prog os Rows.houseNeedsRow.laid).forCall (λ_ _=>0) ⟨#[],#[.slice none 0 0],[]⟩).memory #[.slice none 0 0] 8=true:=by kernel_rfl
def CI(os:Os)(H:Type)(enc:TypeId×Value->H):Rows.houseNeedsSpec.sizedB enc Tryz.prog Tryz.f13 false ((World.laidAll Tryz.prog os Rows.houseNeedsRow.laid).forCall (λ_ _=>0) ⟨#[],#[.slice none 0 0],[]⟩).memory #[.slice none 0 0] 8=true:=by kernel_rfl
def AB:tR Tryz.prog 6 (Tryz.f13).params.toList=some [.one (.sl FE)]:=by kernel_rfl
def AA:∀t∈(Tryz.f13).params.toList,Tryz.prog.readableRec t=true/\t<Tryz.prog.types.size:=by decide+kernel
def Az:(Tryz.f13).resultTypes=#[4]:=by kernel_rfl
set_option maxRecDepth 100000 in
def ug(os:Os)(started:os.Started)(H:Type)(enc:TypeId×Value->H):
  ReturnsInHanded {} Tryz.checked os 13 .any (λw args=>(Rows.houseNeedsSpec.pre enc Tryz.prog Tryz.f13 Rows.houseNeedsRow.domain false w args/\laidMetH Tryz.prog Rows.houseNeedsRow.laid w)/\sizedMet enc Tryz.prog Tryz.f13 (OpenSpec.ofChange Rows.houseNeedsSpec) false w args)
   (Rows.houseNeedsSpec.post enc Tryz.prog Tryz.f13 false true false false):=by
 refine returnsInHanded_of_change_and (C:=Tryz.checked) (X:=λw _=>laidMetH Tryz.prog Rows.houseNeedsRow.laid w) (λ_ _ _ hh h=>h.of_heap hh) own started CM Tryz.func13
  (ChangeSpec.witness_shaped (enc:=enc) (C:=Tryz.checked) (os:=os) (X:=λw _=>laidMetH Tryz.prog Rows.houseNeedsRow.laid w) false (World.laidAll Tryz.prog os Rows.houseNeedsRow.laid) #[.slice none 0 0] 8 (World.laidAll_os _ _ _)
   (Am os _) (CL os) (CJ os H enc) (CI os H enc) (Eu os _)) ?_
 intro W base args ds gs before hval hW _ _ hL _;have Xq:laidMetH Tryz.prog Rows.houseNeedsRow.laid W:=hL;rw[MakeChecks.laidMetH_plain _ _ _ (by kernel_rfl)]at Xq;obtain⟨aw,hz⟩:=AW.globals Xq (λx hx=>hx) 6 (nm:= "math/bits.deBruijn64tab") (d:=Rows.laid_math_bits_deBruijn64tab) (by unfold Rows.houseNeedsRow;simp) (by kernel_rfl);rw[vS]at aw;obtain⟨p,q,hA,hV,_⟩:=id hW;obtain⟨rfl,_⟩:=trodVars_none hV;have hA':DataW.TrodAll enc Tryz.prog W 0 (λ_=>true) true (Tryz.f13).params.toList args.toList ds p:=hA;rw[Tryz.params13]at hA';obtain⟨_,d1,_,rfl,_⟩:=trodAll_one hA';refine Cm (n:=6) (ats:=[.one (.sl FE)]) laidOut AA Az Tryz.underlying4 rfl rfl AB hval hW aw hz ?_
 intro k vs e h;obtain⟨_,_,rfl,h1,h⟩:=Aj h;obtain rfl:=BN h;obtain⟨L,o,sz⟩:=Ei h1;exact r13 RJ (λk' e'=>r15 RJ RY R6 (RP (e.trans e')) (R5 (e.trans e'))) o sz (RP e)
def CV:(Rows.houseNeedsRow.inPlace==Tryz.prog.inPlace 13)=true:=by kernel_rfl
def CU:(Rows.houseNeedsRow.unfollowed==Tryz.prog.unfollowed 13)=true:=by kernel_rfl
def CS:(Rows.houseNeedsRow.recurses==Tryz.prog.recurses 13)=true:=by kernel_rfl
def CR:(Rows.houseNeedsRow.named==Tryz.prog.varsNamed 13)=true:=by kernel_rfl
def vT:Tryz.prog.funcNamed "moveout/moveoutlaw10.HouseNeeds" =some 13:=by kernel_rfl
def CQ:(Tryz.f13).isInstance Tryz.prog Rows.houseNeedsRow.origin Rows.houseNeedsRow.targs:=aaU (by kernel_rfl)
def CP:(Tryz.f13).isWrapper Tryz.prog Rows.houseNeedsRow.wrapper Rows.houseNeedsRow.mainSum:=by
 unfold Func.isWrapper;first|(rw[ZS (by decide+kernel)];kernel_rfl)|(rw[ZN (by decide+kernel)];exact⟨rfl,rfl⟩)
def CO:((Tryz.f13).params.all (Tryz.prog.readableRec ·))=true:=by kernel_rfl
def uh:joinedFacts Tryz.prog 13 Tryz.f13 Rows.houseNeedsSpec Rows.houseNeedsRow=true:=by
 unfold joinedFacts;exact gx (gx (gx (gx (gx (gx (gx (gx (gx (gx (gx (gx (gx (gx (gx (gx (gx (gx (gx (gx (gx (gx (gx (gx (gx (gx (gx (gx (gx (gx (gx (by kernel_rfl) laidOut) Er) CO) (by kernel_rfl)) (by kernel_rfl)) B8) (by kernel_rfl)) Cb) CV) CU) CS) CR)
  (by kernel_rfl)) (by kernel_rfl)) (by kernel_rfl)) (by kernel_rfl)) (by kernel_rfl)) (by kernel_rfl)) (by kernel_rfl)) (by kernel_rfl)) (by kernel_rfl)) Ew) (by kernel_rfl)) Cc) Cd) Ca) Es) (by kernel_rfl)) (by kernel_rfl)) (by kernel_rfl)) (by kernel_rfl)
def vR:Rows.HouseNeedsSaid:=
 OpenClaim.holds_of_wide 13 Tryz.f13 rfl rfl rfl rfl rfl rfl rfl ⟨rfl,rfl,rfl,rfl,rfl⟩ rfl rfl rfl rfl rfl vT Tryz.func13 uh
  CQ CP (λos started H enc _=>ug os started H enc)
def vQ:((Tryz.f13).params.toList.all λu=>!Tryz.prog.wantsStandIn u)=true:=by kernel_rfl
def yt:false=Rows.houseNeedsRow.goesBy Tryz.prog:=by kernel_rfl
def yr:Rows.houseNeedsRow.wfByText (OpenSpec.ofChange Rows.houseNeedsSpec)=true:=by kernel_rfl
theorem needs_card_holds:Rows.HouseNeedsCardSaid:=
 Claim7.holds_tied_plain_at .later [] [.data,.data,.data,.data,.sentinel,.sentinel,.data,.pinned] true (true, "99e684478f8cae51b056da3a355f6848a653f6e5f09f29bc4422acb306b2dd43") true vR (λ_ h=>by cases h) yr (λ_ h=>by cases h) houseNeeds_row_tie rfl ⟨rfl,rfl⟩ Et rfl
  (λf fn hf hfn=>by
   obtain rfl:f=13:=aaE (vT.symm.trans hf) |>.symm;obtain rfl:fn=Tryz.f13:=(aaE ((Tryz.func13).symm.trans hfn)).symm;exact⟨B9,λj t ht=>by
    have hm:t∈(Tryz.f13).params.toList:=by simpa using Array.mem_of_getElem? ht
    exact(show Tryz.prog.wantsStandIn t=false by simpa using aae.1 vQ t hm)⟩)
  yt
#print axioms needs_card_holds
end Go.Proofs.YtgplmdgpmbegiaaGreatDoor
