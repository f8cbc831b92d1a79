/- A part of the proof that HouseSafe holds. No condition. -/
import Derived.Test.YtgplmdgpmbegiaaGreatDoorSa0
import Derived.Test.YtgplmdgpmbegiaaGreatDoorSa9
import Derived.Test.YtgplmdgpmbegiaaGreatDoorSa10
set_option linter.all false
namespace Go.Proofs.YtgplmdgpmbegiaaGreatDoor
open Go.ChangeShapes Go.WideShapes Go.RowKit Go.Abs
def wi:vk Tryz.prog Rows.houseSafeRow.laid 6=vm:=rfl
def CX:Tryz.prog.inits.idxOf? 3=none:=by kernel_rfl
def CW(os:Os):Input.okWideB Tryz.prog ((World.laidAll Tryz.prog os Rows.houseSafeRow.laid).forCall (fun _ _=>0) ⟨#[],#[.slice none 0 0,.string ⟨#[]⟩,.int .i64 0],[]⟩) 3 ⟨#[],#[.slice none 0 0,.string ⟨#[]⟩,.int .i64 0],[]⟩=true:=by kernel_rfl
def CV(os:Os)(H:Type)(enc:TypeId×Value→H):Rows.houseSafeSpec.preB enc Tryz.prog Tryz.f3 Rows.houseSafeRow.domain false ((World.laidAll Tryz.prog os Rows.houseSafeRow.laid).forCall (fun _ _=>0) ⟨#[],#[.slice none 0 0,.string ⟨#[]⟩,.int .i64 0],[]⟩).memory #[.slice none 0 0,.string ⟨#[]⟩,.int .i64 0] 8=true:=by kernel_rfl
def CU(os:Os)(H:Type)(enc:TypeId×Value→H):Rows.houseSafeSpec.sizedB enc Tryz.prog Tryz.f3 false ((World.laidAll Tryz.prog os Rows.houseSafeRow.laid).forCall (fun _ _=>0) ⟨#[],#[.slice none 0 0,.string ⟨#[]⟩,.int .i64 0],[]⟩).memory #[.slice none 0 0,.string ⟨#[]⟩,.int .i64 0] 8=true:=by kernel_rfl
def AP:sZ Tryz.prog 6 (Tryz.f3).params.toList=some [.one (.sl DZ),.one .str,.one (.int .i64)]:=by kernel_rfl
def AO:∀t∈(Tryz.f3).params.toList,Tryz.prog.readableRec t=true∧t < Tryz.prog.types.size:=by decide+kernel
def AN: (Tryz.f3).resultTypes=#[4]:=by kernel_rfl
set_option maxRecDepth 100000 in
def uz(os:Os)(started:os.Started)(H:Type)(enc:TypeId×Value→H):
  ReturnsInHanded {} Tryz.checked os 3 .any (fun w args=>(Rows.houseSafeSpec.pre enc Tryz.prog Tryz.f3 Rows.houseSafeRow.domain false w args∧laidMetH Tryz.prog Rows.houseSafeRow.laid w)∧sizedMet enc Tryz.prog Tryz.f3 (OpenSpec.ofChange Rows.houseSafeSpec) false w args)
   (Rows.houseSafeSpec.post enc Tryz.prog Tryz.f3 false true false false):=by
 refine returnsInHanded_of_change_and (C:=Tryz.checked) (X:=fun w _=>laidMetH Tryz.prog Rows.houseSafeRow.laid w) (fun _ _ _ hh h=>h.of_heap hh) own started CX Tryz.func3
  (ChangeSpec.witness_shaped (enc:=enc) (C:=Tryz.checked) (os:=os) (X:=fun w _=>laidMetH Tryz.prog Rows.houseSafeRow.laid w) false (World.laidAll Tryz.prog os Rows.houseSafeRow.laid) #[.slice none 0 0,.string ⟨#[]⟩,.int .i64 0] 8 (World.laidAll_os _ _ _)
   (yW os _) (CW os) (CV os H enc) (CU os H enc) (CR os _)) ?_
 intro W base args ds gs before hval hW _ _ hL _;have UP:laidMetH Tryz.prog Rows.houseSafeRow.laid W:=hL;rw[MakeChecks.laidMetH_plain _ _ _ (by kernel_rfl)]at UP;obtain⟨aw,hz⟩:=AW.globals UP (fun x hx=>hx) 6 (nm:= "math/bits.deBruijn64tab") (d:=Rows.laid_math_bits_deBruijn64tab) (by unfold Rows.houseSafeRow;simp) (by kernel_rfl);rw[wi]at aw;obtain⟨p,q,hA,hV,_⟩:=id hW;obtain⟨rfl,_⟩:=trodVars_none hV;have hA':DataW.TrodAll enc Tryz.prog W 0 (fun _=>true) true (Tryz.f3).params.toList args.toList ds p:=hA;rw[Tryz.params3]at hA';obtain⟨_,_,_,d1,d2,d3,_,_,_,_,rfl,_⟩:=trodAll_three hA';refine AY (n:=6) (ats:=[.one (.sl DZ),.one .str,.one (.int .i64)]) laidOut AO AN Tryz.underlying4 rfl rfl AP hval hW aw hz ?_
 intro k vs e h;obtain⟨_,_,rfl,h1,h⟩:=oI h;obtain⟨_,_,rfl,h2,h⟩:=oI h;obtain⟨_,_,rfl,h3,h⟩:=oI h;obtain rfl:=Am h;obtain⟨L,o,sz⟩:=CC h1;obtain⟨n,rfl,hn⟩:=CA h2;obtain⟨x,rfl,_⟩:=CB h3;exact r3 PL (fun k' e'=>r15 PL PU P2 (PO (e.trans e')) (P1 (e.trans e'))) o sz (PO e) (n:=n) (by unfold maxLen at *;omega) x
def C4: (Rows.houseSafeRow.inPlace==Tryz.prog.inPlace 3)=true:=by kernel_rfl
def C3: (Rows.houseSafeRow.unfollowed==Tryz.prog.unfollowed 3)=true:=by kernel_rfl
def C2: (Rows.houseSafeRow.recurses==Tryz.prog.recurses 3)=true:=by kernel_rfl
def C1: (Rows.houseSafeRow.named==Tryz.prog.varsNamed 3)=true:=by kernel_rfl
def ya:Tryz.prog.funcNamed "moveout/moveoutlaw10.HouseSafe" =some 3:=by kernel_rfl
def C0: (Tryz.f3).isInstance Tryz.prog Rows.houseSafeRow.origin Rows.houseSafeRow.targs:=YH (by kernel_rfl)
def CZ: (Tryz.f3).isWrapper Tryz.prog Rows.houseSafeRow.wrapper Rows.houseSafeRow.mainSum:=by
 unfold Func.isWrapper;first| (rw[XI (by decide+kernel)];kernel_rfl)| (rw[XG (by decide+kernel)];exact⟨rfl,rfl⟩)
def CY: ((Tryz.f3).params.all (Tryz.prog.readableRec ·))=true:=by kernel_rfl
def uA:joinedFacts Tryz.prog 3 Tryz.f3 Rows.houseSafeSpec Rows.houseSafeRow=true:=by
 unfold joinedFacts;exact fP (fP (fP (fP (fP (fP (fP (fP (fP (fP (fP (fP (fP (fP (fP (fP (fP (fP (fP (fP (fP (fP (fP (fP (fP (fP (fP (fP (fP (fP (fP (by kernel_rfl) laidOut) CO) CY) (by kernel_rfl)) (by kernel_rfl)) AH) (by kernel_rfl)) AK) C4) C3) C2) C1)
  (by kernel_rfl)) (by kernel_rfl)) (by kernel_rfl)) (by kernel_rfl)) (by kernel_rfl)) (by kernel_rfl)) (by kernel_rfl)) (by kernel_rfl)) (by kernel_rfl)) CS) (by kernel_rfl)) AL) AM) AJ) CP) (by kernel_rfl)) (by kernel_rfl)) (by kernel_rfl)) (by kernel_rfl)
def wh:Rows.HouseSafeSaid:=
 OpenClaim.holds_of_wide 3 Tryz.f3 rfl rfl rfl rfl rfl rfl rfl ⟨rfl,rfl,rfl,rfl,rfl⟩ rfl rfl rfl rfl rfl ya Tryz.func3 uA
  C0 CZ (fun os started H enc _=>uz os started H enc)
def wg: ((Tryz.f3).params.toList.all fun u=>!Tryz.prog.wantsStandIn u)=true:=by kernel_rfl
def yY:false=Rows.houseSafeRow.goesBy Tryz.prog:=by kernel_rfl
def yX:Rows.houseSafeRow.wfByText (OpenSpec.ofChange Rows.houseSafeSpec)=true:=by kernel_rfl
theorem safe_card_holds:Rows.HouseSafeCardSaid:=
 Claim7.holds_tied_plain_at .later [] [.data,.data,.data,.data,.sentinel,.sentinel,.data,.pinned] true (true, "99e684478f8cae51b056da3a355f6848a653f6e5f09f29bc4422acb306b2dd43") true wh (fun _ h=>by cases h) yX (fun _ h=>by cases h) houseSafe_row_tie rfl ⟨rfl,rfl⟩ CQ rfl
  (fun f fn hf hfn=>by
   obtain rfl:f=3:=Yu (ya.symm.trans hf) |>.symm;obtain rfl:fn=Tryz.f3:=(Yu ((Tryz.func3).symm.trans hfn)).symm;exact⟨AI,fun j t ht=>by
    have hm:t∈(Tryz.f3).params.toList:=by simpa using Array.mem_of_getElem? ht
    exact(show Tryz.prog.wantsStandIn t=false by simpa using X5.1 wg t hm)⟩)
  yY
#print axioms safe_card_holds
end Go.Proofs.YtgplmdgpmbegiaaGreatDoor
