/- A part of the proof that HouseLogs holds. No condition. -/
import Derived.Test.YtgplmdgpmbegiaaGreatDoorLo0
import Derived.Test.YtgplmdgpmbegiaaGreatDoorLo9
import Derived.Test.YtgplmdgpmbegiaaGreatDoorLo10
set_option linter.all false
namespace Go.Proofs.YtgplmdgpmbegiaaGreatDoor
open Go.ChangeShapes Go.WideShapes Go.RowKit Go.Abs
def vM:ui Tryz.prog Rows.houseLogsRow.laid 6=uj:=by kernel_rfl
def Cs:Tryz.prog.inits.idxOf? 6=none:=by kernel_rfl
def Cr(os:Os):Input.okWideB Tryz.prog ((World.laidAll Tryz.prog os Rows.houseLogsRow.laid).forCall (λ_ _=>0) ⟨#[],#[.agg #[.int .i64 0,.string ⟨#[]⟩,.slice none 0 0,.slice none 0 0,.string ⟨#[]⟩],.string ⟨#[]⟩],[]⟩) 6 ⟨#[],#[.agg #[.int .i64 0,.string ⟨#[]⟩,.slice none 0 0,.slice none 0 0,.string ⟨#[]⟩],.string ⟨#[]⟩],[]⟩=true:=by kernel_rfl
def Cq(os:Os)(H:Type)(enc:TypeId×Value->H):Rows.houseLogsSpec.preB enc Tryz.prog Tryz.f6 Rows.houseLogsRow.domain false ((World.laidAll Tryz.prog os Rows.houseLogsRow.laid).forCall (λ_ _=>0) ⟨#[],#[.agg #[.int .i64 0,.string ⟨#[]⟩,.slice none 0 0,.slice none 0 0,.string ⟨#[]⟩],.string ⟨#[]⟩],[]⟩).memory #[.agg #[.int .i64 0,.string ⟨#[]⟩,.slice none 0 0,.slice none 0 0,.string ⟨#[]⟩],.string ⟨#[]⟩] 8=true:=by kernel_rfl
def Co(os:Os)(H:Type)(enc:TypeId×Value->H):Rows.houseLogsSpec.sizedB enc Tryz.prog Tryz.f6 false ((World.laidAll Tryz.prog os Rows.houseLogsRow.laid).forCall (λ_ _=>0) ⟨#[],#[.agg #[.int .i64 0,.string ⟨#[]⟩,.slice none 0 0,.slice none 0 0,.string ⟨#[]⟩],.string ⟨#[]⟩],[]⟩).memory #[.agg #[.int .i64 0,.string ⟨#[]⟩,.slice none 0 0,.slice none 0 0,.string ⟨#[]⟩],.string ⟨#[]⟩] 8=true:=by kernel_rfl
def Az:rq Tryz.prog 6 (Tryz.f6).params.toList=some [.agg C8,.one .str]:=by kernel_rfl
def Ay:∀t∈(Tryz.f6).params.toList,Tryz.prog.readableRec t=true/\t<Tryz.prog.types.size:=by decide+kernel
def Ax:(Tryz.f6).resultTypes=#[4]:=by kernel_rfl
set_option maxRecDepth 100000 in
def tO(os:Os)(started:os.Started)(H:Type)(enc:TypeId×Value->H):
  ReturnsInHanded {} Tryz.checked os 6 .any (λw args=>(Rows.houseLogsSpec.pre enc Tryz.prog Tryz.f6 Rows.houseLogsRow.domain false w args/\laidMetH Tryz.prog Rows.houseLogsRow.laid w)/\sizedMet enc Tryz.prog Tryz.f6 (OpenSpec.ofChange Rows.houseLogsSpec) false w args)
   (Rows.houseLogsSpec.post enc Tryz.prog Tryz.f6 false true false false):=by
 refine returnsInHanded_of_change_and (C:=Tryz.checked) (X:=λw _=>laidMetH Tryz.prog Rows.houseLogsRow.laid w) (λ_ _ _ hh h=>h.of_heap hh) own started Cs Tryz.func6
  (ChangeSpec.witness_shaped (enc:=enc) (C:=Tryz.checked) (os:=os) (X:=λw _=>laidMetH Tryz.prog Rows.houseLogsRow.laid w) false (World.laidAll Tryz.prog os Rows.houseLogsRow.laid) #[.agg #[.int .i64 0,.string ⟨#[]⟩,.slice none 0 0,.slice none 0 0,.string ⟨#[]⟩],.string ⟨#[]⟩] 8 (World.laidAll_os _ _ _)
   (ya os _) (Cr os) (Cq os H enc) (Co os H enc) (BZ os _)) ?_
 intro W base args ds gs before hval hW _ _ hL _;have R7:laidMetH Tryz.prog Rows.houseLogsRow.laid W:=hL;rw[MakeChecks.laidMetH_plain _ _ _ (by kernel_rfl)]at R7;obtain⟨aw,hz⟩:=AW.globals R7 (λx hx=>hx) 6 (nm:= "math/bits.deBruijn64tab") (d:=Rows.laid_math_bits_deBruijn64tab) (by unfold Rows.houseLogsRow;simp) (by kernel_rfl);rw[vM]at aw;obtain⟨p,q,hA,hV,_⟩:=id hW;obtain⟨rfl,_⟩:=trodVars_none hV;have hA':DataW.TrodAll enc Tryz.prog W 0 (λ_=>true) true (Tryz.f6).params.toList args.toList ds p:=hA;rw[Tryz.params6]at hA';obtain⟨_,_,d1,d2,_,_,_,rfl,_⟩:=trodAll_two hA';refine zU (n:=6) (ats:=[.agg C8,.one .str]) laidOut Ay Ax Tryz.underlying4 rfl rfl Az hval hW aw hz ?_
 intro k vs e h;obtain⟨_,_,rfl,h1,h⟩:=qt h;obtain⟨_,_,rfl,h2,h⟩:=qt h;obtain rfl:=zm h;obtain⟨ev,rfl,oe,se⟩:=Fg h1;obtain⟨n,rfl,hn⟩:=BO h2;exact r6 NG (λk' e'=>r15 NG NC NJ (NZ (e.trans e')) (NI (e.trans e'))) NC NJ (NI e) oe se n (by unfold maxLen at *;omega)
def CA:(Rows.houseLogsRow.inPlace==Tryz.prog.inPlace 6)=true:=by kernel_rfl
def Cz:(Rows.houseLogsRow.unfollowed==Tryz.prog.unfollowed 6)=true:=by kernel_rfl
def Cy:(Rows.houseLogsRow.recurses==Tryz.prog.recurses 6)=true:=by kernel_rfl
def Cw:(Rows.houseLogsRow.named==Tryz.prog.varsNamed 6)=true:=by kernel_rfl
def wT:Tryz.prog.funcNamed "moveout/moveoutlaw10.HouseLogs" =some 6:=by kernel_rfl
def Cv:(Tryz.f6).isInstance Tryz.prog Rows.houseLogsRow.origin Rows.houseLogsRow.targs:=VK (by kernel_rfl)
def Cu:(Tryz.f6).isWrapper Tryz.prog Rows.houseLogsRow.wrapper Rows.houseLogsRow.mainSum:=by
 unfold Func.isWrapper;first|(rw[Ut (by decide+kernel)];kernel_rfl)|(rw[Ur (by decide+kernel)];exact⟨rfl,rfl⟩)
def Ct:((Tryz.f6).params.all (Tryz.prog.readableRec ·))=true:=by kernel_rfl
def tP:joinedFacts Tryz.prog 6 Tryz.f6 Rows.houseLogsSpec Rows.houseLogsRow=true:=by
 unfold joinedFacts;exact fI (fI (fI (fI (fI (fI (fI (fI (fI (fI (fI (fI (fI (fI (fI (fI (fI (fI (fI (fI (fI (fI (fI (fI (fI (fI (fI (fI (fI (fI (fI (by kernel_rfl) laidOut) BW) Ct) (by kernel_rfl)) (by kernel_rfl)) zI) (by kernel_rfl)) zL) CA) Cz) Cy) Cw)
  (by kernel_rfl)) (by kernel_rfl)) (by kernel_rfl)) (by kernel_rfl)) (by kernel_rfl)) (by kernel_rfl)) (by kernel_rfl)) (by kernel_rfl)) (by kernel_rfl)) B0) (by kernel_rfl)) zM) zN) zK) BX) (by kernel_rfl)) (by kernel_rfl)) (by kernel_rfl)) (by kernel_rfl)
def vL:Rows.HouseLogsSaid:=
 OpenClaim.holds_of_wide 6 Tryz.f6 rfl rfl rfl rfl rfl rfl rfl ⟨rfl,rfl,rfl,rfl,rfl⟩ rfl rfl rfl rfl rfl wT Tryz.func6 tP
  Cv Cu (λos started H enc _=>tO os started H enc)
def vK:((Tryz.f6).params.toList.all λu=>!Tryz.prog.wantsStandIn u)=true:=by kernel_rfl
def yn:false=Rows.houseLogsRow.goesBy Tryz.prog:=by kernel_rfl
def ym:Rows.houseLogsRow.wfByText (OpenSpec.ofChange Rows.houseLogsSpec)=true:=by kernel_rfl
theorem logs_card_holds:Rows.HouseLogsCardSaid:=
 Claim7.holds_tied_plain_at .later [] [.data,.data,.data,.data,.sentinel,.sentinel,.data,.pinned] true (true, "99e684478f8cae51b056da3a355f6848a653f6e5f09f29bc4422acb306b2dd43") true vL (λ_ h=>by cases h) ym (λ_ h=>by cases h) houseLogs_row_tie rfl ⟨rfl,rfl⟩ BY rfl
  (λf fn hf hfn=>by
   obtain rfl:f=6:=Vc (wT.symm.trans hf) |>.symm;obtain rfl:fn=Tryz.f6:=(Vc ((Tryz.func6).symm.trans hfn)).symm;exact⟨zJ,λj t ht=>by
    have hm:t∈(Tryz.f6).params.toList:=by simpa using Array.mem_of_getElem? ht
    exact(show Tryz.prog.wantsStandIn t=false by simpa using UJ.1 vK t hm)⟩)
  yn
#print axioms logs_card_holds
end Go.Proofs.YtgplmdgpmbegiaaGreatDoor
