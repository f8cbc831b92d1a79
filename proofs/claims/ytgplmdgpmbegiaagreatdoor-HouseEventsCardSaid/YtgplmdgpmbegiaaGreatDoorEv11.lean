/- A part of the proof that HouseEvents holds. No condition. -/
import Derived.Test.YtgplmdgpmbegiaaGreatDoorEv0
import Derived.Test.YtgplmdgpmbegiaaGreatDoorEv9
import Derived.Test.YtgplmdgpmbegiaaGreatDoorEv10
set_option linter.all false
namespace Go.Proofs.YtgplmdgpmbegiaaGreatDoor
open Go.ChangeShapes Go.WideShapes Go.RowKit Go.Abs
def uo:v8 Tryz.prog Rows.houseEventsRow.laid 6=wa:=by kernel_rfl
def Ae:Tryz.prog.inits.idxOf? 11=none:=by kernel_rfl
def Ad(os:Os):Input.okWideB Tryz.prog ((World.laidAll Tryz.prog os Rows.houseEventsRow.laid).forCall (λ_ _=>0) ⟨#[],#[.slice none 0 0,.agg #[.int .i64 0,.string ⟨#[]⟩,.slice none 0 0,.slice none 0 0,.string ⟨#[]⟩],.int .i64 0],[]⟩) 11 ⟨#[],#[.slice none 0 0,.agg #[.int .i64 0,.string ⟨#[]⟩,.slice none 0 0,.slice none 0 0,.string ⟨#[]⟩],.int .i64 0],[]⟩=true:=by kernel_rfl
def Ac(os:Os)(H:Type)(enc:TypeId×Value->H):Rows.houseEventsSpec.preB enc Tryz.prog Tryz.f11 Rows.houseEventsRow.domain false ((World.laidAll Tryz.prog os Rows.houseEventsRow.laid).forCall (λ_ _=>0) ⟨#[],#[.slice none 0 0,.agg #[.int .i64 0,.string ⟨#[]⟩,.slice none 0 0,.slice none 0 0,.string ⟨#[]⟩],.int .i64 0],[]⟩).memory #[.slice none 0 0,.agg #[.int .i64 0,.string ⟨#[]⟩,.slice none 0 0,.slice none 0 0,.string ⟨#[]⟩],.int .i64 0] 8=true:=by kernel_rfl
def Ab(os:Os)(H:Type)(enc:TypeId×Value->H):Rows.houseEventsSpec.sizedB enc Tryz.prog Tryz.f11 false ((World.laidAll Tryz.prog os Rows.houseEventsRow.laid).forCall (λ_ _=>0) ⟨#[],#[.slice none 0 0,.agg #[.int .i64 0,.string ⟨#[]⟩,.slice none 0 0,.slice none 0 0,.string ⟨#[]⟩],.int .i64 0],[]⟩).memory #[.slice none 0 0,.agg #[.int .i64 0,.string ⟨#[]⟩,.slice none 0 0,.slice none 0 0,.string ⟨#[]⟩],.int .i64 0] 8=true:=by kernel_rfl
def yf:tI Tryz.prog 6 (Tryz.f11).params.toList=some [.one (.sl yh),.agg yh,.one (.int .i64)]:=by kernel_rfl
def ye:∀t∈(Tryz.f11).params.toList,Tryz.prog.readableRec t=true/\t<Tryz.prog.types.size:=by decide+kernel
def yd:(Tryz.f11).resultTypes=#[4]:=by kernel_rfl
set_option maxRecDepth 100000 in
def sC(os:Os)(started:os.Started)(H:Type)(enc:TypeId×Value->H):
  ReturnsInHanded {} Tryz.checked os 11 .any (λw args=>(Rows.houseEventsSpec.pre enc Tryz.prog Tryz.f11 Rows.houseEventsRow.domain false w args/\laidMetH Tryz.prog Rows.houseEventsRow.laid w)/\sizedMet enc Tryz.prog Tryz.f11 (OpenSpec.ofChange Rows.houseEventsSpec) false w args)
   (Rows.houseEventsSpec.post enc Tryz.prog Tryz.f11 false true false false):=by
 refine returnsInHanded_of_change_and (C:=Tryz.checked) (X:=λw _=>laidMetH Tryz.prog Rows.houseEventsRow.laid w) (λ_ _ _ hh h=>h.of_heap hh) own started Ae Tryz.func11
  (ChangeSpec.witness_shaped (enc:=enc) (C:=Tryz.checked) (os:=os) (X:=λw _=>laidMetH Tryz.prog Rows.houseEventsRow.laid w) false (World.laidAll Tryz.prog os Rows.houseEventsRow.laid) #[.slice none 0 0,.agg #[.int .i64 0,.string ⟨#[]⟩,.slice none 0 0,.slice none 0 0,.string ⟨#[]⟩],.int .i64 0] 8 (World.laidAll_os _ _ _)
   (zB os _) (Ad os) (Ac os H enc) (Ab os H enc) (DC os _)) ?_
 intro W base args ds gs before hval hW _ _ hL _;have Wr:laidMetH Tryz.prog Rows.houseEventsRow.laid W:=hL;rw[MakeChecks.laidMetH_plain _ _ _ (by kernel_rfl)]at Wr;obtain⟨aw,hz⟩:=AW.globals Wr (λx hx=>hx) 6 (nm:= "math/bits.deBruijn64tab") (d:=Rows.laid_math_bits_deBruijn64tab) (by unfold Rows.houseEventsRow;simp) (by kernel_rfl);rw[uo]at aw;obtain⟨p,q,hA,hV,_⟩:=id hW;obtain⟨rfl,_⟩:=trodVars_none hV;have hA':DataW.TrodAll enc Tryz.prog W 0 (λ_=>true) true (Tryz.f11).params.toList args.toList ds p:=hA;rw[Tryz.params11]at hA';obtain⟨_,_,_,d1,d2,d3,_,_,_,_,rfl,_⟩:=trodAll_three hA';refine BK (n:=6) (ats:=[.one (.sl yh),.agg yh,.one (.int .i64)]) laidOut ye yd Tryz.underlying4 rfl rfl yf hval hW aw hz ?_
 intro k vs e h;obtain⟨_,_,rfl,h1,h⟩:=ph h;obtain⟨_,_,rfl,h2,h⟩:=ph h;obtain⟨_,_,rfl,h3,h⟩:=ph h;obtain rfl:=Bh h;obtain⟨L,o,sz⟩:=Dr h1;obtain⟨ev,rfl,oe,se⟩:=G2 h2;obtain⟨x,rfl,_⟩:=Dq h3;exact r11 QM (λk' e'=>r15 QM QW Rg (QQ (e.trans e')) (Rf (e.trans e'))) o sz (QQ e) oe se x
def Al:(Rows.houseEventsRow.inPlace==Tryz.prog.inPlace 11)=true:=by kernel_rfl
def Ak:(Rows.houseEventsRow.unfollowed==Tryz.prog.unfollowed 11)=true:=by kernel_rfl
def Aj:(Rows.houseEventsRow.recurses==Tryz.prog.recurses 11)=true:=by kernel_rfl
def Ai:(Rows.houseEventsRow.named==Tryz.prog.varsNamed 11)=true:=by kernel_rfl
def tD:Tryz.prog.funcNamed "moveout/moveoutlaw10.HouseEvents" =some 11:=by kernel_rfl
def Ah:(Tryz.f11).isInstance Tryz.prog Rows.houseEventsRow.origin Rows.houseEventsRow.targs:=aak (by kernel_rfl)
def Ag:(Tryz.f11).isWrapper Tryz.prog Rows.houseEventsRow.wrapper Rows.houseEventsRow.mainSum:=by
 unfold Func.isWrapper;first|(rw[Zh (by decide+kernel)];kernel_rfl)|(rw[Za (by decide+kernel)];exact⟨rfl,rfl⟩)
def Af:((Tryz.f11).params.all (Tryz.prog.readableRec ·))=true:=by kernel_rfl
def sD:joinedFacts Tryz.prog 11 Tryz.f11 Rows.houseEventsSpec Rows.houseEventsRow=true:=by
 unfold joinedFacts;exact gg (gg (gg (gg (gg (gg (gg (gg (gg (gg (gg (gg (gg (gg (gg (gg (gg (gg (gg (gg (gg (gg (gg (gg (gg (gg (gg (gg (gg (gg (gg (by kernel_rfl) laidOut) Dz) Af) (by kernel_rfl)) (by kernel_rfl)) Bx) (by kernel_rfl)) BB) Al) Ak) Aj) Ai)
  (by kernel_rfl)) (by kernel_rfl)) (by kernel_rfl)) (by kernel_rfl)) (by kernel_rfl)) (by kernel_rfl)) (by kernel_rfl)) (by kernel_rfl)) (by kernel_rfl)) DD) (by kernel_rfl)) BC) BD) BA) DA) (by kernel_rfl)) (by kernel_rfl)) (by kernel_rfl)) (by kernel_rfl)
def um:Rows.HouseEventsSaid:=
 OpenClaim.holds_of_wide 11 Tryz.f11 rfl rfl rfl rfl rfl rfl rfl ⟨rfl,rfl,rfl,rfl,rfl⟩ rfl rfl rfl rfl rfl tD Tryz.func11 sD
  Ah Ag (λos started H enc _=>sC os started H enc)
def uk:((Tryz.f11).params.toList.all λu=>!Tryz.prog.wantsStandIn u)=true:=by kernel_rfl
def wu:false=Rows.houseEventsRow.goesBy Tryz.prog:=by kernel_rfl
def wq:Rows.houseEventsRow.wfByText (OpenSpec.ofChange Rows.houseEventsSpec)=true:=by kernel_rfl
theorem events_card_holds:Rows.HouseEventsCardSaid:=
 Claim7.holds_tied_plain_at .later [] [.data,.data,.data,.data,.sentinel,.sentinel,.data,.pinned] true (true, "99e684478f8cae51b056da3a355f6848a653f6e5f09f29bc4422acb306b2dd43") true um (λ_ h=>by cases h) wq (λ_ h=>by cases h) houseEvents_row_tie rfl ⟨rfl,rfl⟩ DB rfl
  (λf fn hf hfn=>by
   obtain rfl:f=11:=ZZ (tD.symm.trans hf) |>.symm;obtain rfl:fn=Tryz.f11:=(ZZ ((Tryz.func11).symm.trans hfn)).symm;exact⟨Bz,λj t ht=>by
    have hm:t∈(Tryz.f11).params.toList:=by simpa using Array.mem_of_getElem? ht
    exact(show Tryz.prog.wantsStandIn t=false by simpa using ZC.1 uk t hm)⟩)
  wu
#print axioms events_card_holds
end Go.Proofs.YtgplmdgpmbegiaaGreatDoor
