/- A part of the proof that HouseGraphs holds. No condition. -/
import Derived.Test.YtgplmdgpmbegiaaGreatDoorGa0
import Derived.Test.YtgplmdgpmbegiaaGreatDoorGa9
import Derived.Test.YtgplmdgpmbegiaaGreatDoorGa10
set_option linter.all false
namespace Go.Proofs.YtgplmdgpmbegiaaGreatDoor
open Go.ChangeShapes Go.WideShapes Go.RowKit Go.Abs
def uf:vT Tryz.prog Rows.houseGraphsRow.laid 6=vU:=by kernel_rfl
def zT:Tryz.prog.inits.idxOf? 9=none:=by kernel_rfl
def zS(os:Os):Input.okWideB Tryz.prog ((World.laidAll Tryz.prog os Rows.houseGraphsRow.laid).forCall (λ_ _=>0) ⟨#[],#[.slice none 0 0,.agg #[.string ⟨#[]⟩,.string ⟨#[]⟩,.string ⟨#[]⟩]],[]⟩) 9 ⟨#[],#[.slice none 0 0,.agg #[.string ⟨#[]⟩,.string ⟨#[]⟩,.string ⟨#[]⟩]],[]⟩=true:=by kernel_rfl
def zR(os:Os)(H:Type)(enc:TypeId×Value->H):Rows.houseGraphsSpec.preB enc Tryz.prog Tryz.f9 Rows.houseGraphsRow.domain false ((World.laidAll Tryz.prog os Rows.houseGraphsRow.laid).forCall (λ_ _=>0) ⟨#[],#[.slice none 0 0,.agg #[.string ⟨#[]⟩,.string ⟨#[]⟩,.string ⟨#[]⟩]],[]⟩).memory #[.slice none 0 0,.agg #[.string ⟨#[]⟩,.string ⟨#[]⟩,.string ⟨#[]⟩]] 8=true:=by kernel_rfl
def zQ(os:Os)(H:Type)(enc:TypeId×Value->H):Rows.houseGraphsSpec.sizedB enc Tryz.prog Tryz.f9 false ((World.laidAll Tryz.prog os Rows.houseGraphsRow.laid).forCall (λ_ _=>0) ⟨#[],#[.slice none 0 0,.agg #[.string ⟨#[]⟩,.string ⟨#[]⟩,.string ⟨#[]⟩]],[]⟩).memory #[.slice none 0 0,.agg #[.string ⟨#[]⟩,.string ⟨#[]⟩,.string ⟨#[]⟩]] 8=true:=by kernel_rfl
def xR:tH Tryz.prog 6 (Tryz.f9).params.toList=some [.one (.sl Er),.agg [.str,.str,.str]]:=by kernel_rfl
def xQ:∀t∈(Tryz.f9).params.toList,Tryz.prog.readableRec t=true/\t<Tryz.prog.types.size:=by decide+kernel
def xP:(Tryz.f9).resultTypes=#[4]:=by kernel_rfl
set_option maxRecDepth 100000 in
def sC(os:Os)(started:os.Started)(H:Type)(enc:TypeId×Value->H):
  ReturnsInHanded {} Tryz.checked os 9 .any (λw args=>(Rows.houseGraphsSpec.pre enc Tryz.prog Tryz.f9 Rows.houseGraphsRow.domain false w args/\laidMetH Tryz.prog Rows.houseGraphsRow.laid w)/\sizedMet enc Tryz.prog Tryz.f9 (OpenSpec.ofChange Rows.houseGraphsSpec) false w args)
   (Rows.houseGraphsSpec.post enc Tryz.prog Tryz.f9 false true false false):=by
 refine returnsInHanded_of_change_and (C:=Tryz.checked) (X:=λw _=>laidMetH Tryz.prog Rows.houseGraphsRow.laid w) (λ_ _ _ hh h=>h.of_heap hh) own started zT Tryz.func9
  (ChangeSpec.witness_shaped (enc:=enc) (C:=Tryz.checked) (os:=os) (X:=λw _=>laidMetH Tryz.prog Rows.houseGraphsRow.laid w) false (World.laidAll Tryz.prog os Rows.houseGraphsRow.laid) #[.slice none 0 0,.agg #[.string ⟨#[]⟩,.string ⟨#[]⟩,.string ⟨#[]⟩]] 8 (World.laidAll_os _ _ _)
   (zv os _) (zS os) (zR os H enc) (zQ os H enc) (Dx os _)) ?_
 intro W base args ds gs before hval hW _ _ hL _;have Vi:laidMetH Tryz.prog Rows.houseGraphsRow.laid W:=hL;rw[MakeChecks.laidMetH_plain _ _ _ (by kernel_rfl)]at Vi;obtain⟨aw,hz⟩:=AW.globals Vi (λx hx=>hx) 6 (nm:= "math/bits.deBruijn64tab") (d:=Rows.laid_math_bits_deBruijn64tab) (by unfold Rows.houseGraphsRow;simp) (by kernel_rfl);rw[uf]at aw;obtain⟨p,q,hA,hV,_⟩:=id hW;obtain⟨rfl,_⟩:=trodVars_none hV;have hA':DataW.TrodAll enc Tryz.prog W 0 (λ_=>true) true (Tryz.f9).params.toList args.toList ds p:=hA;rw[Tryz.params9]at hA';obtain⟨_,_,d1,d2,_,_,_,rfl,_⟩:=trodAll_two hA';refine BD (n:=6) (ats:=[.one (.sl Er),.agg [.str,.str,.str]]) laidOut xQ xP Tryz.underlying4 rfl rfl xR hval hW aw hz ?_
 intro k vs e h;obtain⟨_,_,rfl,h1,h⟩:=sN h;obtain⟨_,_,rfl,h2,h⟩:=sN h;obtain rfl:=A0 h;obtain⟨L,o,sz⟩:=Df h1;obtain⟨n0,n1,n2,rfl⟩:=J2 h2;exact r9 Qe (λk' e'=>r15 Qe Qn Qv (Qh (e.trans e')) (Qu (e.trans e'))) o sz (Qh e) n0 n1 n2
def Aa:(Rows.houseGraphsRow.inPlace==Tryz.prog.inPlace 9)=true:=by kernel_rfl
def zZ:(Rows.houseGraphsRow.unfollowed==Tryz.prog.unfollowed 9)=true:=by kernel_rfl
def zY:(Rows.houseGraphsRow.recurses==Tryz.prog.recurses 9)=true:=by kernel_rfl
def zX:(Rows.houseGraphsRow.named==Tryz.prog.varsNamed 9)=true:=by kernel_rfl
def tu:Tryz.prog.funcNamed "moveout/moveoutlaw10.HouseGraphs" =some 9:=by kernel_rfl
def zW:(Tryz.f9).isInstance Tryz.prog Rows.houseGraphsRow.origin Rows.houseGraphsRow.targs:=Zb (by kernel_rfl)
def zV:(Tryz.f9).isWrapper Tryz.prog Rows.houseGraphsRow.wrapper Rows.houseGraphsRow.mainSum:=by
 unfold Func.isWrapper;first|(rw[X9 (by decide+kernel)];kernel_rfl)|(rw[X5 (by decide+kernel)];exact⟨rfl,rfl⟩)
def zU:((Tryz.f9).params.all (Tryz.prog.readableRec ·))=true:=by kernel_rfl
def sD:joinedFacts Tryz.prog 9 Tryz.f9 Rows.houseGraphsSpec Rows.houseGraphsRow=true:=by
 unfold joinedFacts;exact gf (gf (gf (gf (gf (gf (gf (gf (gf (gf (gf (gf (gf (gf (gf (gf (gf (gf (gf (gf (gf (gf (gf (gf (gf (gf (gf (gf (gf (gf (gf (by kernel_rfl) laidOut) Du) zU) (by kernel_rfl)) (by kernel_rfl)) Br) (by kernel_rfl)) Bu) Aa) zZ) zY) zX)
  (by kernel_rfl)) (by kernel_rfl)) (by kernel_rfl)) (by kernel_rfl)) (by kernel_rfl)) (by kernel_rfl)) (by kernel_rfl)) (by kernel_rfl)) (by kernel_rfl)) Dy) (by kernel_rfl)) Bv) Bw) Bt) Dv) (by kernel_rfl)) (by kernel_rfl)) (by kernel_rfl)) (by kernel_rfl)
def ue:Rows.HouseGraphsSaid:=
 OpenClaim.holds_of_wide 9 Tryz.f9 rfl rfl rfl rfl rfl rfl rfl ⟨rfl,rfl,rfl,rfl,rfl⟩ rfl rfl rfl rfl rfl tu Tryz.func9 sD
  zW zV (λos started H enc _=>sC os started H enc)
def ud:((Tryz.f9).params.toList.all λu=>!Tryz.prog.wantsStandIn u)=true:=by kernel_rfl
def vS:false=Rows.houseGraphsRow.goesBy Tryz.prog:=by kernel_rfl
def vR:Rows.houseGraphsRow.wfByText (OpenSpec.ofChange Rows.houseGraphsSpec)=true:=by kernel_rfl
theorem graphs_card_holds:Rows.HouseGraphsCardSaid:=
 Claim7.holds_tied_plain_at .later [] [.data,.data,.data,.data,.sentinel,.sentinel,.data,.pinned] true (true, "99e684478f8cae51b056da3a355f6848a653f6e5f09f29bc4422acb306b2dd43") true ue (λ_ h=>by cases h) vR (λ_ h=>by cases h) houseGraphs_row_tie rfl ⟨rfl,rfl⟩ Dw rfl
  (λf fn hf hfn=>by
   obtain rfl:f=9:=YU (tu.symm.trans hf) |>.symm;obtain rfl:fn=Tryz.f9:=(YU ((Tryz.func9).symm.trans hfn)).symm;exact⟨Bs,λj t ht=>by
    have hm:t∈(Tryz.f9).params.toList:=by simpa using Array.mem_of_getElem? ht
    exact(show Tryz.prog.wantsStandIn t=false by simpa using Yw.1 ud t hm)⟩)
  vS
#print axioms graphs_card_holds
end Go.Proofs.YtgplmdgpmbegiaaGreatDoor
