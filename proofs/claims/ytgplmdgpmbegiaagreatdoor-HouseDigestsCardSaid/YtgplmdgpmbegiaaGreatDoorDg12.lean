/- A part of the proof that HouseDigests holds. No condition. -/
import Derived.Test.YtgplmdgpmbegiaaGreatDoorDg0
import Derived.Test.YtgplmdgpmbegiaaGreatDoorDg9
import Derived.Test.YtgplmdgpmbegiaaGreatDoorDg11
set_option linter.all false
namespace Go.Proofs.YtgplmdgpmbegiaaGreatDoor
open Go.ChangeShapes Go.WideShapes Go.RowKit Go.Abs
def p7:tF Tryz.prog Rows.houseDigestsRow.laid 6=tG:=by kernel_rfl
def uZ:Tryz.prog.inits.idxOf? 12=none:=by kernel_rfl
def uY(os:Os):Input.okWideB Tryz.prog ((World.laidAll Tryz.prog os Rows.houseDigestsRow.laid).forCall (λ_ _=>0) ⟨#[],#[.slice none 0 0,.int .u16 0,.int .u8 0],[]⟩) 12 ⟨#[],#[.slice none 0 0,.int .u16 0,.int .u8 0],[]⟩=true:=by kernel_rfl
def uX(os:Os)(H:Type)(enc:TypeId×Value->H):Rows.houseDigestsSpec.preB enc Tryz.prog Tryz.f12 Rows.houseDigestsRow.domain false ((World.laidAll Tryz.prog os Rows.houseDigestsRow.laid).forCall (λ_ _=>0) ⟨#[],#[.slice none 0 0,.int .u16 0,.int .u8 0],[]⟩).memory #[.slice none 0 0,.int .u16 0,.int .u8 0] 8=true:=by kernel_rfl
def uW(os:Os)(H:Type)(enc:TypeId×Value->H):Rows.houseDigestsSpec.sizedB enc Tryz.prog Tryz.f12 false ((World.laidAll Tryz.prog os Rows.houseDigestsRow.laid).forCall (λ_ _=>0) ⟨#[],#[.slice none 0 0,.int .u16 0,.int .u8 0],[]⟩).memory #[.slice none 0 0,.int .u16 0,.int .u8 0] 8=true:=by kernel_rfl
def tR:qS Tryz.prog 6 (Tryz.f12).params.toList=some [.one (.sl [.int .i64]),.one (.int .u16),.one (.int .u8)]:=by kernel_rfl
def tQ:∀t∈(Tryz.f12).params.toList,Tryz.prog.readableRec t=true/\t<Tryz.prog.types.size:=by decide+kernel
def tP:(Tryz.f12).resultTypes=#[4]:=by kernel_rfl
set_option maxRecDepth 100000 in
def pB(os:Os)(started:os.Started)(H:Type)(enc:TypeId×Value->H):
  ReturnsInHanded {} Tryz.checked os 12 .any (λw args=>(Rows.houseDigestsSpec.pre enc Tryz.prog Tryz.f12 Rows.houseDigestsRow.domain false w args/\laidMetH Tryz.prog Rows.houseDigestsRow.laid w)/\sizedMet enc Tryz.prog Tryz.f12 (OpenSpec.ofChange Rows.houseDigestsSpec) false w args)
   (Rows.houseDigestsSpec.post enc Tryz.prog Tryz.f12 false true false false):=by
 refine returnsInHanded_of_change_and (C:=Tryz.checked) (X:=λw _=>laidMetH Tryz.prog Rows.houseDigestsRow.laid w) (λ_ _ _ hh h=>h.of_heap hh) own started uZ Tryz.func12
  (ChangeSpec.witness_shaped (enc:=enc) (C:=Tryz.checked) (os:=os) (X:=λw _=>laidMetH Tryz.prog Rows.houseDigestsRow.laid w) false (World.laidAll Tryz.prog os Rows.houseDigestsRow.laid) #[.slice none 0 0,.int .u16 0,.int .u8 0] 8 (World.laidAll_os _ _ _)
   (xD os _) (uY os) (uX os H enc) (uW os H enc) (Bm os _)) ?_
 intro W base args ds gs before hval hW _ _ hL _;have Rl:laidMetH Tryz.prog Rows.houseDigestsRow.laid W:=hL;rw[MakeChecks.laidMetH_plain _ _ _ (by kernel_rfl)]at Rl;obtain⟨aw,hz⟩:=AW.globals Rl (λx hx=>hx) 6 (nm:= "math/bits.deBruijn64tab") (d:=Rows.laid_math_bits_deBruijn64tab) (by unfold Rows.houseDigestsRow;simp) (by kernel_rfl);rw[p7]at aw;obtain⟨p,q,hA,hV,_⟩:=id hW;obtain⟨rfl,_⟩:=trodVars_none hV;have hA':DataW.TrodAll enc Tryz.prog W 0 (λ_=>true) true (Tryz.f12).params.toList args.toList ds p:=hA;rw[Tryz.params12]at hA';obtain⟨_,_,_,d1,d2,d3,_,_,_,_,rfl,_⟩:=trodAll_three hA';refine zm (n:=6) (ats:=[.one (.sl [.int .i64]),.one (.int .u16),.one (.int .u8)]) laidOut tQ tP Tryz.underlying4 rfl rfl tR hval hW aw hz ?_
 intro k vs e h;obtain⟨_,_,rfl,h1,h⟩:=mJ h;obtain⟨_,_,rfl,h2,h⟩:=mJ h;obtain⟨_,_,rfl,h3,h⟩:=mJ h;obtain rfl:=yP h;obtain⟨M,hM,hMl,hMs⟩:=yQ h1;obtain⟨x,rfl,hx⟩:=vK h2;obtain⟨y,rfl,hy⟩:=vK h3;exact r12 M4 (λk' e'=>r15 M4 Nf Nt (M8 (e.trans e')) (Ns (e.trans e'))) (M8 e) hM (by unfold maxLen at *;omega) (En hx) (Hn hy)
def vj:(Rows.houseDigestsRow.inPlace==Tryz.prog.inPlace 12)=true:=by kernel_rfl
def vi:(Rows.houseDigestsRow.unfollowed==Tryz.prog.unfollowed 12)=true:=by kernel_rfl
def vh:(Rows.houseDigestsRow.recurses==Tryz.prog.recurses 12)=true:=by kernel_rfl
def vg:(Rows.houseDigestsRow.named==Tryz.prog.varsNamed 12)=true:=by kernel_rfl
def pC:Tryz.prog.funcNamed "moveout/moveoutlaw10.HouseDigests" =some 12:=by kernel_rfl
def ve:(Tryz.f12).isInstance Tryz.prog Rows.houseDigestsRow.origin Rows.houseDigestsRow.targs:=UH (by kernel_rfl)
def vd:(Tryz.f12).isWrapper Tryz.prog Rows.houseDigestsRow.wrapper Rows.houseDigestsRow.mainSum:=by
 unfold Func.isWrapper;first|(rw[Ty (by decide+kernel)];kernel_rfl)|(rw[Tt (by decide+kernel)];exact⟨rfl,rfl⟩)
def vc:((Tryz.f12).params.all (Tryz.prog.readableRec ·))=true:=by kernel_rfl
def pD:joinedFacts Tryz.prog 12 Tryz.f12 Rows.houseDigestsSpec Rows.houseDigestsRow=true:=by
 unfold joinedFacts;exact fb (fb (fb (fb (fb (fb (fb (fb (fb (fb (fb (fb (fb (fb (fb (fb (fb (fb (fb (fb (fb (fb (fb (fb (fb (fb (fb (fb (fb (fb (fb (by kernel_rfl) laidOut) Bj) vc) (by kernel_rfl)) (by kernel_rfl)) y9) (by kernel_rfl)) zd) vj) vi) vh) vg)
  (by kernel_rfl)) (by kernel_rfl)) (by kernel_rfl)) (by kernel_rfl)) (by kernel_rfl)) (by kernel_rfl)) (by kernel_rfl)) (by kernel_rfl)) (by kernel_rfl)) Bn) (by kernel_rfl)) ze) zf) zb) Bk) (by kernel_rfl)) (by kernel_rfl)) (by kernel_rfl)) (by kernel_rfl)
def p6:Rows.HouseDigestsSaid:=
 OpenClaim.holds_of_wide 12 Tryz.f12 rfl rfl rfl rfl rfl rfl rfl ⟨rfl,rfl,rfl,rfl,rfl⟩ rfl rfl rfl rfl rfl pC Tryz.func12 pD
  ve vd (λos started H enc _=>pB os started H enc)
def p5:((Tryz.f12).params.toList.all λu=>!Tryz.prog.wantsStandIn u)=true:=by kernel_rfl
def rE:false=Rows.houseDigestsRow.goesBy Tryz.prog:=by kernel_rfl
def rD:Rows.houseDigestsRow.wfByText (OpenSpec.ofChange Rows.houseDigestsSpec)=true:=by kernel_rfl
theorem digests_card_holds:Rows.HouseDigestsCardSaid:=
 Claim7.holds_tied_plain_at .later [] [.data,.data,.data,.data,.sentinel,.sentinel,.data,.pinned] true (true, "99e684478f8cae51b056da3a355f6848a653f6e5f09f29bc4422acb306b2dd43") true p6 (λ_ h=>by cases h) rD (λ_ h=>by cases h) houseDigests_row_tie rfl ⟨rfl,rfl⟩ Bl rfl
  (λf fn hf hfn=>by
   obtain rfl:f=12:=Ug (pC.symm.trans hf) |>.symm;obtain rfl:fn=Tryz.f12:=(Ug ((Tryz.func12).symm.trans hfn)).symm;exact⟨za,λj t ht=>by
    have hm:t∈(Tryz.f12).params.toList:=by simpa using Array.mem_of_getElem? ht
    exact(show Tryz.prog.wantsStandIn t=false by simpa using TM.1 p5 t hm)⟩)
  rE
#print axioms digests_card_holds
end Go.Proofs.YtgplmdgpmbegiaaGreatDoor
