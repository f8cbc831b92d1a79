/- A part of the proof that HouseTurns holds. No condition. -/
import Derived.Test.YtgplmdgpmbegiaaGreatDoorTu0
import Derived.Test.YtgplmdgpmbegiaaGreatDoorTu9
import Derived.Test.YtgplmdgpmbegiaaGreatDoorTu10
set_option linter.all false
namespace Go.Proofs.YtgplmdgpmbegiaaGreatDoor
open Go.ChangeShapes Go.WideShapes Go.RowKit Go.Abs
def vB:wS Tryz.prog Rows.houseTurnsRow.laid 6=wT:=by kernel_rfl
def BQ:Tryz.prog.inits.idxOf? 8=none:=by kernel_rfl
def BP(os:Os):Input.okWideB Tryz.prog ((World.laidAll Tryz.prog os Rows.houseTurnsRow.laid).forCall (λ_ _=>0) ⟨#[],#[.slice none 0 0,.agg #[.int .i64 0,.string ⟨#[]⟩,.slice none 0 0,.slice none 0 0,.string ⟨#[]⟩]],[]⟩) 8 ⟨#[],#[.slice none 0 0,.agg #[.int .i64 0,.string ⟨#[]⟩,.slice none 0 0,.slice none 0 0,.string ⟨#[]⟩]],[]⟩=true:=by kernel_rfl
def BO(os:Os)(H:Type)(enc:TypeId×Value->H):Rows.houseTurnsSpec.preB enc Tryz.prog Tryz.f8 Rows.houseTurnsRow.domain false ((World.laidAll Tryz.prog os Rows.houseTurnsRow.laid).forCall (λ_ _=>0) ⟨#[],#[.slice none 0 0,.agg #[.int .i64 0,.string ⟨#[]⟩,.slice none 0 0,.slice none 0 0,.string ⟨#[]⟩]],[]⟩).memory #[.slice none 0 0,.agg #[.int .i64 0,.string ⟨#[]⟩,.slice none 0 0,.slice none 0 0,.string ⟨#[]⟩]] 8=true:=by kernel_rfl
def BN(os:Os)(H:Type)(enc:TypeId×Value->H):Rows.houseTurnsSpec.sizedB enc Tryz.prog Tryz.f8 false ((World.laidAll Tryz.prog os Rows.houseTurnsRow.laid).forCall (λ_ _=>0) ⟨#[],#[.slice none 0 0,.agg #[.int .i64 0,.string ⟨#[]⟩,.slice none 0 0,.slice none 0 0,.string ⟨#[]⟩]],[]⟩).memory #[.slice none 0 0,.agg #[.int .i64 0,.string ⟨#[]⟩,.slice none 0 0,.slice none 0 0,.string ⟨#[]⟩]] 8=true:=by kernel_rfl
def Aj:uf Tryz.prog 6 (Tryz.f8).params.toList=some [.one (.sl yH),.agg yH]:=by kernel_rfl
def Ai:∀t∈(Tryz.f8).params.toList,Tryz.prog.readableRec t=true/\t<Tryz.prog.types.size:=by decide+kernel
def Ah:(Tryz.f8).resultTypes=#[4]:=by kernel_rfl
set_option maxRecDepth 100000 in
def um(os:Os)(started:os.Started)(H:Type)(enc:TypeId×Value->H):
  ReturnsInHanded {} Tryz.checked os 8 .any (λw args=>(Rows.houseTurnsSpec.pre enc Tryz.prog Tryz.f8 Rows.houseTurnsRow.domain false w args/\laidMetH Tryz.prog Rows.houseTurnsRow.laid w)/\sizedMet enc Tryz.prog Tryz.f8 (OpenSpec.ofChange Rows.houseTurnsSpec) false w args)
   (Rows.houseTurnsSpec.post enc Tryz.prog Tryz.f8 false true false false):=by
 refine returnsInHanded_of_change_and (C:=Tryz.checked) (X:=λw _=>laidMetH Tryz.prog Rows.houseTurnsRow.laid w) (λ_ _ _ hh h=>h.of_heap hh) own started BQ Tryz.func8
  (ChangeSpec.witness_shaped (enc:=enc) (C:=Tryz.checked) (os:=os) (X:=λw _=>laidMetH Tryz.prog Rows.houseTurnsRow.laid w) false (World.laidAll Tryz.prog os Rows.houseTurnsRow.laid) #[.slice none 0 0,.agg #[.int .i64 0,.string ⟨#[]⟩,.slice none 0 0,.slice none 0 0,.string ⟨#[]⟩]] 8 (World.laidAll_os _ _ _)
   (An os _) (BP os) (BO os H enc) (BN os H enc) (En os _)) ?_
 intro W base args ds gs before hval hW _ _ hL _;have XO:laidMetH Tryz.prog Rows.houseTurnsRow.laid W:=hL;rw[MakeChecks.laidMetH_plain _ _ _ (by kernel_rfl)]at XO;obtain⟨aw,hz⟩:=AW.globals XO (λx hx=>hx) 6 (nm:= "math/bits.deBruijn64tab") (d:=Rows.laid_math_bits_deBruijn64tab) (by unfold Rows.houseTurnsRow;simp) (by kernel_rfl);rw[vB]at aw;obtain⟨p,q,hA,hV,_⟩:=id hW;obtain⟨rfl,_⟩:=trodVars_none hV;have hA':DataW.TrodAll enc Tryz.prog W 0 (λ_=>true) true (Tryz.f8).params.toList args.toList ds p:=hA;rw[Tryz.params8]at hA';obtain⟨_,_,d1,d2,_,_,_,rfl,_⟩:=trodAll_two hA';refine Ct (n:=6) (ats:=[.one (.sl yH),.agg yH]) laidOut Ai Ah Tryz.underlying4 rfl rfl Aj hval hW aw hz ?_
 intro k vs e h;obtain⟨_,_,rfl,h1,h⟩:=tu h;obtain⟨_,_,rfl,h2,h⟩:=tu h;obtain rfl:=BJ h;obtain⟨L,o,sz⟩:=Ea h1;obtain⟨ev,rfl,oe,se⟩:=HQ h2;exact r8 RP (λk' e'=>r15 RP RY Sk (RT (e.trans e')) (Sj (e.trans e'))) o sz (RT e) oe se
def BY:(Rows.houseTurnsRow.inPlace==Tryz.prog.inPlace 8)=true:=by kernel_rfl
def BX:(Rows.houseTurnsRow.unfollowed==Tryz.prog.unfollowed 8)=true:=by kernel_rfl
def BW:(Rows.houseTurnsRow.recurses==Tryz.prog.recurses 8)=true:=by kernel_rfl
def BV:(Rows.houseTurnsRow.named==Tryz.prog.varsNamed 8)=true:=by kernel_rfl
def vC:Tryz.prog.funcNamed "moveout/moveoutlaw10.HouseTurns" =some 8:=by kernel_rfl
def BU:(Tryz.f8).isInstance Tryz.prog Rows.houseTurnsRow.origin Rows.houseTurnsRow.targs:=abk (by kernel_rfl)
def BT:(Tryz.f8).isWrapper Tryz.prog Rows.houseTurnsRow.wrapper Rows.houseTurnsRow.mainSum:=by
 unfold Func.isWrapper;first|(rw[aai (by decide+kernel)];kernel_rfl)|(rw[aab (by decide+kernel)];exact⟨rfl,rfl⟩)
def BS:((Tryz.f8).params.all (Tryz.prog.readableRec ·))=true:=by kernel_rfl
def uo:joinedFacts Tryz.prog 8 Tryz.f8 Rows.houseTurnsSpec Rows.houseTurnsRow=true:=by
 unfold joinedFacts;exact gF (gF (gF (gF (gF (gF (gF (gF (gF (gF (gF (gF (gF (gF (gF (gF (gF (gF (gF (gF (gF (gF (gF (gF (gF (gF (gF (gF (gF (gF (gF (by kernel_rfl) laidOut) Ek) BS) (by kernel_rfl)) (by kernel_rfl)) Cg) (by kernel_rfl)) Cj) BY) BX) BW) BV)
  (by kernel_rfl)) (by kernel_rfl)) (by kernel_rfl)) (by kernel_rfl)) (by kernel_rfl)) (by kernel_rfl)) (by kernel_rfl)) (by kernel_rfl)) (by kernel_rfl)) Eo) (by kernel_rfl)) Ck) Cl) Ci) El) (by kernel_rfl)) (by kernel_rfl)) (by kernel_rfl)) (by kernel_rfl)
def vA:Rows.HouseTurnsSaid:=
 OpenClaim.holds_of_wide 8 Tryz.f8 rfl rfl rfl rfl rfl rfl rfl ⟨rfl,rfl,rfl,rfl,rfl⟩ rfl rfl rfl rfl rfl vC Tryz.func8 uo
  BU BT (λos started H enc _=>um os started H enc)
def vz:((Tryz.f8).params.toList.all λu=>!Tryz.prog.wantsStandIn u)=true:=by kernel_rfl
def xZ:false=Rows.houseTurnsRow.goesBy Tryz.prog:=by kernel_rfl
def xY:Rows.houseTurnsRow.wfByText (OpenSpec.ofChange Rows.houseTurnsSpec)=true:=by kernel_rfl
theorem turns_card_holds:Rows.HouseTurnsCardSaid:=
 Claim7.holds_tied_plain_at .later [] [.data,.data,.data,.data,.sentinel,.sentinel,.data,.pinned] true (true, "99e684478f8cae51b056da3a355f6848a653f6e5f09f29bc4422acb306b2dd43") true vA (λ_ h=>by cases h) xY (λ_ h=>by cases h) houseTurns_row_tie rfl ⟨rfl,rfl⟩ Em rfl
  (λf fn hf hfn=>by
   obtain rfl:f=8:=aa0 (vC.symm.trans hf) |>.symm;obtain rfl:fn=Tryz.f8:=(aa0 ((Tryz.func8).symm.trans hfn)).symm;exact⟨Ch,λj t ht=>by
    have hm:t∈(Tryz.f8).params.toList:=by simpa using Array.mem_of_getElem? ht
    exact(show Tryz.prog.wantsStandIn t=false by simpa using aaE.1 vz t hm)⟩)
  xZ
#print axioms turns_card_holds
end Go.Proofs.YtgplmdgpmbegiaaGreatDoor
