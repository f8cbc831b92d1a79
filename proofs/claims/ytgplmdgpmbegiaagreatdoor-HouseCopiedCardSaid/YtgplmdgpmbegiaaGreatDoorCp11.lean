/- A part of the proof that HouseCopied holds. No condition. -/
import Derived.Test.YtgplmdgpmbegiaaGreatDoorCp0
import Derived.Test.YtgplmdgpmbegiaaGreatDoorCp9
import Derived.Test.YtgplmdgpmbegiaaGreatDoorCp10
set_option linter.all false
namespace Go.Proofs.YtgplmdgpmbegiaaGreatDoor
open Go.ChangeShapes Go.WideShapes Go.RowKit Go.Abs
def uu:vZ Tryz.prog Rows.houseCopiedRow.laid 6=v7:=by kernel_rfl
def Am:Tryz.prog.inits.idxOf? 5=none:=by kernel_rfl
def Al(os:Os):Input.okWideB Tryz.prog ((World.laidAll Tryz.prog os Rows.houseCopiedRow.laid).forCall (λ_ _=>0) ⟨#[],#[.slice none 0 0,.int .u16 0],[]⟩) 5 ⟨#[],#[.slice none 0 0,.int .u16 0],[]⟩=true:=by kernel_rfl
def Ak(os:Os)(H:Type)(enc:TypeId×Value->H):Rows.houseCopiedSpec.preB enc Tryz.prog Tryz.f5 Rows.houseCopiedRow.domain false ((World.laidAll Tryz.prog os Rows.houseCopiedRow.laid).forCall (λ_ _=>0) ⟨#[],#[.slice none 0 0,.int .u16 0],[]⟩).memory #[.slice none 0 0,.int .u16 0] 8=true:=by kernel_rfl
def Aj(os:Os)(H:Type)(enc:TypeId×Value->H):Rows.houseCopiedSpec.sizedB enc Tryz.prog Tryz.f5 false ((World.laidAll Tryz.prog os Rows.houseCopiedRow.laid).forCall (λ_ _=>0) ⟨#[],#[.slice none 0 0,.int .u16 0],[]⟩).memory #[.slice none 0 0,.int .u16 0] 8=true:=by kernel_rfl
def yc:tK Tryz.prog 6 (Tryz.f5).params.toList=some [.one (.sl EN),.one (.int .u16)]:=by kernel_rfl
def yb:∀t∈(Tryz.f5).params.toList,Tryz.prog.readableRec t=true/\t<Tryz.prog.types.size:=by decide+kernel
def ya:(Tryz.f5).resultTypes=#[4]:=by kernel_rfl
set_option maxRecDepth 100000 in
def sC(os:Os)(started:os.Started)(H:Type)(enc:TypeId×Value->H):
  ReturnsInHanded {} Tryz.checked os 5 .any (λw args=>(Rows.houseCopiedSpec.pre enc Tryz.prog Tryz.f5 Rows.houseCopiedRow.domain false w args/\laidMetH Tryz.prog Rows.houseCopiedRow.laid w)/\sizedMet enc Tryz.prog Tryz.f5 (OpenSpec.ofChange Rows.houseCopiedSpec) false w args)
   (Rows.houseCopiedSpec.post enc Tryz.prog Tryz.f5 false true false false):=by
 refine returnsInHanded_of_change_and (C:=Tryz.checked) (X:=λw _=>laidMetH Tryz.prog Rows.houseCopiedRow.laid w) (λ_ _ _ hh h=>h.of_heap hh) own started Am Tryz.func5
  (ChangeSpec.witness_shaped (enc:=enc) (C:=Tryz.checked) (os:=os) (X:=λw _=>laidMetH Tryz.prog Rows.houseCopiedRow.laid w) false (World.laidAll Tryz.prog os Rows.houseCopiedRow.laid) #[.slice none 0 0,.int .u16 0] 8 (World.laidAll_os _ _ _)
   (zF os _) (Al os) (Ak os H enc) (Aj os H enc) (DK os _)) ?_
 intro W base args ds gs before hval hW _ _ hL _;have Wj:laidMetH Tryz.prog Rows.houseCopiedRow.laid W:=hL;rw[MakeChecks.laidMetH_plain _ _ _ (by kernel_rfl)]at Wj;obtain⟨aw,hz⟩:=AW.globals Wj (λx hx=>hx) 6 (nm:= "math/bits.deBruijn64tab") (d:=Rows.laid_math_bits_deBruijn64tab) (by unfold Rows.houseCopiedRow;simp) (by kernel_rfl);rw[uu]at aw;obtain⟨p,q,hA,hV,_⟩:=id hW;obtain⟨rfl,_⟩:=trodVars_none hV;have hA':DataW.TrodAll enc Tryz.prog W 0 (λ_=>true) true (Tryz.f5).params.toList args.toList ds p:=hA;rw[Tryz.params5]at hA';obtain⟨_,_,d1,d2,_,_,_,rfl,_⟩:=trodAll_two hA';refine BL (n:=6) (ats:=[.one (.sl EN),.one (.int .u16)]) laidOut yb ya Tryz.underlying4 rfl rfl yc hval hW aw hz ?_
 intro k vs e h;obtain⟨_,_,rfl,h1,h⟩:=sN h;obtain⟨_,_,rfl,h2,h⟩:=sN h;obtain rfl:=Bh h;obtain⟨L,o,sz⟩:=Dy h1;obtain⟨x,rfl,hx⟩:=Dx h2;exact r5 Q2 (λk' e'=>r15 Q2 Rb Rj (Q5 (e.trans e')) (Ri (e.trans e'))) o sz (Q5 e) (Hf hx)
def At:(Rows.houseCopiedRow.inPlace==Tryz.prog.inPlace 5)=true:=by kernel_rfl
def As:(Rows.houseCopiedRow.unfollowed==Tryz.prog.unfollowed 5)=true:=by kernel_rfl
def Ar:(Rows.houseCopiedRow.recurses==Tryz.prog.recurses 5)=true:=by kernel_rfl
def Aq:(Rows.houseCopiedRow.named==Tryz.prog.varsNamed 5)=true:=by kernel_rfl
def tG:Tryz.prog.funcNamed "moveout/moveoutlaw10.HouseCopied" =some 5:=by kernel_rfl
def Ap:(Tryz.f5).isInstance Tryz.prog Rows.houseCopiedRow.origin Rows.houseCopiedRow.targs:=aad (by kernel_rfl)
def Ao:(Tryz.f5).isWrapper Tryz.prog Rows.houseCopiedRow.wrapper Rows.houseCopiedRow.mainSum:=by
 unfold Func.isWrapper;first|(rw[Zb (by decide+kernel)];kernel_rfl)|(rw[Y6 (by decide+kernel)];exact⟨rfl,rfl⟩)
def An:((Tryz.f5).params.all (Tryz.prog.readableRec ·))=true:=by kernel_rfl
def sD:joinedFacts Tryz.prog 5 Tryz.f5 Rows.houseCopiedSpec Rows.houseCopiedRow=true:=by
 unfold joinedFacts;exact ga (ga (ga (ga (ga (ga (ga (ga (ga (ga (ga (ga (ga (ga (ga (ga (ga (ga (ga (ga (ga (ga (ga (ga (ga (ga (ga (ga (ga (ga (ga (by kernel_rfl) laidOut) DH) An) (by kernel_rfl)) (by kernel_rfl)) Bz) (by kernel_rfl)) BC) At) As) Ar) Aq)
  (by kernel_rfl)) (by kernel_rfl)) (by kernel_rfl)) (by kernel_rfl)) (by kernel_rfl)) (by kernel_rfl)) (by kernel_rfl)) (by kernel_rfl)) (by kernel_rfl)) DL) (by kernel_rfl)) BD) BE) BB) DI) (by kernel_rfl)) (by kernel_rfl)) (by kernel_rfl)) (by kernel_rfl)
def ur:Rows.HouseCopiedSaid:=
 OpenClaim.holds_of_wide 5 Tryz.f5 rfl rfl rfl rfl rfl rfl rfl ⟨rfl,rfl,rfl,rfl,rfl⟩ rfl rfl rfl rfl rfl tG Tryz.func5 sD
  Ap Ao (λos started H enc _=>sC os started H enc)
def uq:((Tryz.f5).params.toList.all λu=>!Tryz.prog.wantsStandIn u)=true:=by kernel_rfl
def wB:false=Rows.houseCopiedRow.goesBy Tryz.prog:=by kernel_rfl
def wA:Rows.houseCopiedRow.wfByText (OpenSpec.ofChange Rows.houseCopiedSpec)=true:=by kernel_rfl
theorem copied_card_holds:Rows.HouseCopiedCardSaid:=
 Claim7.holds_tied_plain_at .later [] [.data,.data,.data,.data,.sentinel,.sentinel,.data,.pinned] true (true, "99e684478f8cae51b056da3a355f6848a653f6e5f09f29bc4422acb306b2dd43") true ur (λ_ h=>by cases h) wA (λ_ h=>by cases h) houseCopied_row_tie rfl ⟨rfl,rfl⟩ DJ rfl
  (λf fn hf hfn=>by
   obtain rfl:f=5:=ZU (tG.symm.trans hf) |>.symm;obtain rfl:fn=Tryz.f5:=(ZU ((Tryz.func5).symm.trans hfn)).symm;exact⟨BA,λj t ht=>by
    have hm:t∈(Tryz.f5).params.toList:=by simpa using Array.mem_of_getElem? ht
    exact(show Tryz.prog.wantsStandIn t=false by simpa using Zy.1 uq t hm)⟩)
  wB
#print axioms copied_card_holds
end Go.Proofs.YtgplmdgpmbegiaaGreatDoor
