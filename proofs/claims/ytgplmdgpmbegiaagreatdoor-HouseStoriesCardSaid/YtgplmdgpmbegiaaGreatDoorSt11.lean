/- A part of the proof that HouseStories holds. No condition. -/
import Derived.Test.YtgplmdgpmbegiaaGreatDoorSt0
import Derived.Test.YtgplmdgpmbegiaaGreatDoorSt9
import Derived.Test.YtgplmdgpmbegiaaGreatDoorSt10
set_option linter.all false
namespace Go.Proofs.YtgplmdgpmbegiaaGreatDoor
open Go.ChangeShapes Go.WideShapes Go.RowKit Go.Abs
def rY:vU Tryz.prog Rows.houseStoriesRow.laid 6=vV:=by kernel_rfl
def wQ:Tryz.prog.inits.idxOf? 4=none:=by kernel_rfl
def wP(os:Os):Input.okWideB Tryz.prog ((World.laidAll Tryz.prog os Rows.houseStoriesRow.laid).forCall (fun _ _=>0) ⟨#[],#[.slice none 0 0,.string ⟨#[]⟩,.slice none 0 0],[]⟩) 4 ⟨#[],#[.slice none 0 0,.string ⟨#[]⟩,.slice none 0 0],[]⟩=true:=by kernel_rfl
def wO(os:Os)(H:Type)(enc:TypeId×Value→H):Rows.houseStoriesSpec.preB enc Tryz.prog Tryz.f4 Rows.houseStoriesRow.domain false ((World.laidAll Tryz.prog os Rows.houseStoriesRow.laid).forCall (fun _ _=>0) ⟨#[],#[.slice none 0 0,.string ⟨#[]⟩,.slice none 0 0],[]⟩).memory #[.slice none 0 0,.string ⟨#[]⟩,.slice none 0 0] 8=true:=by kernel_rfl
def wM(os:Os)(H:Type)(enc:TypeId×Value→H):Rows.houseStoriesSpec.sizedB enc Tryz.prog Tryz.f4 false ((World.laidAll Tryz.prog os Rows.houseStoriesRow.laid).forCall (fun _ _=>0) ⟨#[],#[.slice none 0 0,.string ⟨#[]⟩,.slice none 0 0],[]⟩).memory #[.slice none 0 0,.string ⟨#[]⟩,.slice none 0 0] 8=true:=by kernel_rfl
def uT:tF Tryz.prog 6 (Tryz.f4).params.toList=some [.one (.sl EA),.one .str,.one (.sl [.int .i64])]:=by kernel_rfl
def uS:∀t∈(Tryz.f4).params.toList,Tryz.prog.readableRec t=true∧t < Tryz.prog.types.size:=by decide+kernel
def uR: (Tryz.f4).resultTypes=#[4]:=by kernel_rfl
set_option maxRecDepth 100000 in
def qL(os:Os)(started:os.Started)(H:Type)(enc:TypeId×Value→H):
  ReturnsInHanded {} Tryz.checked os 4 .any (fun w args=>(Rows.houseStoriesSpec.pre enc Tryz.prog Tryz.f4 Rows.houseStoriesRow.domain false w args∧laidMetH Tryz.prog Rows.houseStoriesRow.laid w)∧sizedMet enc Tryz.prog Tryz.f4 (OpenSpec.ofChange Rows.houseStoriesSpec) false w args)
   (Rows.houseStoriesSpec.post enc Tryz.prog Tryz.f4 false true false false):=by
 refine returnsInHanded_of_change_and (C:=Tryz.checked) (X:=fun w _=>laidMetH Tryz.prog Rows.houseStoriesRow.laid w) (fun _ _ _ hh h=>h.of_heap hh) own started wQ Tryz.func4
  (ChangeSpec.witness_shaped (enc:=enc) (C:=Tryz.checked) (os:=os) (X:=fun w _=>laidMetH Tryz.prog Rows.houseStoriesRow.laid w) false (World.laidAll Tryz.prog os Rows.houseStoriesRow.laid) #[.slice none 0 0,.string ⟨#[]⟩,.slice none 0 0] 8 (World.laidAll_os _ _ _)
   (zF os _) (wP os) (wO os H enc) (wM os H enc) (DF os _)) ?_
 intro W base args ds gs before hval hW _ _ hL _;have hL':laidMetH Tryz.prog Rows.houseStoriesRow.laid W:=hL;rw[MakeChecks.laidMetH_plain _ _ _ (by kernel_rfl)]at hL';obtain⟨aw,hz⟩:=AW.globals hL' (fun x hx=>hx) 6 (nm:= "math/bits.deBruijn64tab") (d:=Rows.laid_math_bits_deBruijn64tab) (by unfold Rows.houseStoriesRow;simp) (by kernel_rfl);rw[rY]at aw;obtain⟨p,q,hA,hV,_⟩:=id hW;obtain⟨rfl,_⟩:=trodVars_none hV;have hA':DataW.TrodAll enc Tryz.prog W 0 (fun _=>true) true (Tryz.f4).params.toList args.toList ds p:=hA;rw[Tryz.params4]at hA';obtain⟨_,_,_,d1,d2,d3,_,_,_,_,rfl,_⟩:=trodAll_three hA';refine BF (n:=6) (ats:=[.one (.sl EA),.one .str,.one (.sl [.int .i64])]) laidOut uS uR Tryz.underlying4 rfl rfl uT hval hW aw hz ?_
 intro k vs e h;obtain⟨_,_,rfl,h1,h⟩:=o8 h;obtain⟨_,_,rfl,h2,h⟩:=o8 h;obtain⟨_,_,rfl,h3,h⟩:=o8 h;obtain rfl:=AY h;obtain⟨L,o,sz⟩:=Dp h1;obtain⟨n,rfl,hn⟩:=Dm h2;obtain⟨M,hM,hMl,hMs⟩:=AZ h3;exact r4 Qn (fun k' e'=>r15 Qn Qt QB (Qq (e.trans e')) (QA (e.trans e'))) o sz (Qq e) n hM (by unfold maxLen at *;omega)
def wY: (Rows.houseStoriesRow.inPlace==Tryz.prog.inPlace 4)=true:=by kernel_rfl
def wX: (Rows.houseStoriesRow.unfollowed==Tryz.prog.unfollowed 4)=true:=by kernel_rfl
def wW: (Rows.houseStoriesRow.recurses==Tryz.prog.recurses 4)=true:=by kernel_rfl
def wU: (Rows.houseStoriesRow.named==Tryz.prog.varsNamed 4)=true:=by kernel_rfl
def qM:Tryz.prog.funcNamed "moveout/moveoutlaw10.HouseStories" =some 4:=by kernel_rfl
def wT: (Tryz.f4).isInstance Tryz.prog Rows.houseStoriesRow.origin Rows.houseStoriesRow.targs:=Zq (by kernel_rfl)
def wS: (Tryz.f4).isWrapper Tryz.prog Rows.houseStoriesRow.wrapper Rows.houseStoriesRow.mainSum:=by
 unfold Func.isWrapper;first| (rw[Yh (by decide+kernel)];kernel_rfl)| (rw[Yd (by decide+kernel)];exact⟨rfl,rfl⟩)
def wR: ((Tryz.f4).params.all (Tryz.prog.readableRec ·))=true:=by kernel_rfl
def qN:joinedFacts Tryz.prog 4 Tryz.f4 Rows.houseStoriesSpec Rows.houseStoriesRow=true:=by
 unfold joinedFacts;exact fW (fW (fW (fW (fW (fW (fW (fW (fW (fW (fW (fW (fW (fW (fW (fW (fW (fW (fW (fW (fW (fW (fW (fW (fW (fW (fW (fW (fW (fW (fW (by kernel_rfl) laidOut) DC) wR) (by kernel_rfl)) (by kernel_rfl)) Bt) (by kernel_rfl)) Bw) wY) wX) wW) wU)
  (by kernel_rfl)) (by kernel_rfl)) (by kernel_rfl)) (by kernel_rfl)) (by kernel_rfl)) (by kernel_rfl)) (by kernel_rfl)) (by kernel_rfl)) (by kernel_rfl)) DG) (by kernel_rfl)) Bx) Bz) Bv) DD) (by kernel_rfl)) (by kernel_rfl)) (by kernel_rfl)) (by kernel_rfl)
def rX:Rows.HouseStoriesSaid:=
 OpenClaim.holds_of_wide 4 Tryz.f4 rfl rfl rfl rfl rfl rfl rfl ⟨rfl,rfl,rfl,rfl,rfl⟩ rfl rfl rfl rfl rfl qM Tryz.func4 qN
  wT wS (fun os started H enc _=>qL os started H enc)
def rW: ((Tryz.f4).params.toList.all fun u=>!Tryz.prog.wantsStandIn u)=true:=by kernel_rfl
def tP:false=Rows.houseStoriesRow.goesBy Tryz.prog:=by kernel_rfl
def tO:Rows.houseStoriesRow.wfByText (OpenSpec.ofChange Rows.houseStoriesSpec)=true:=by kernel_rfl
theorem stories_card_holds:Rows.HouseStoriesCardSaid:=
 Claim7.holds_tied_plain_at .later [] [.data,.data,.data,.data,.sentinel,.sentinel,.data,.pinned] true (true, "99e684478f8cae51b056da3a355f6848a653f6e5f09f29bc4422acb306b2dd43") true rX (fun _ h=>by cases h) tO (fun _ h=>by cases h) houseStories_row_tie rfl ⟨rfl,rfl⟩ DE rfl
  (fun f fn hf hfn=>by
   obtain rfl:f=4:=Y6 (qM.symm.trans hf) |>.symm;obtain rfl:fn=Tryz.f4:=(Y6 ((Tryz.func4).symm.trans hfn)).symm;exact⟨Bu,fun j t ht=>by
    have hm:t∈(Tryz.f4).params.toList:=by simpa using Array.mem_of_getElem? ht
    exact(show Tryz.prog.wantsStandIn t=false by simpa using YE.1 rW t hm)⟩)
  tP
#print axioms stories_card_holds
end Go.Proofs.YtgplmdgpmbegiaaGreatDoor
