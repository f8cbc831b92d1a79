/- TopAnchorCopied: whatever the arguments, the call returns true, and each argument reads afterwards as it read before (the package-level variables that the row lists hold what it says: the card ties that to the program's text). -/
import Derived.Test.YtjipbemoklhnaaaGreatDoorAc10
import Derived.Test.YtjipbemoklhnaaaGreatDoorAc5
import Derived.Test.YtjipbemoklhnaaaGreatDoorAc9
set_option linter.all false
namespace Go.Proofs.YtjipbemoklhnaaaGreatDoor
open Go.ChangeShapes Go.WideShapes Go.RowKit Go.Abs
def anchorCopied_globs:globL Tryz.prog Rows.topAnchorCopiedRow.laid 11=globA:=by kernel_rfl
def anchorCopied_w1:Tryz.prog.inits.idxOf? 3=none:=by kernel_rfl
def anchorCopied_w2(os:Os):Input.okWideB Tryz.prog ((World.laidAll Tryz.prog os Rows.topAnchorCopiedRow.laid).forCall (λ_ _=>0) ⟨#[],#[.agg #[.int .u8 0,.int .u8 0,.int .u8 0,.int .u8 0]],[]⟩) 3 ⟨#[],#[.agg #[.int .u8 0,.int .u8 0,.int .u8 0,.int .u8 0]],[]⟩=true:=by kernel_rfl
def anchorCopied_w3(os:Os)(H:Type)(enc:TypeId×Value->H):Rows.topAnchorCopiedSpec.preB enc Tryz.prog Tryz.f3 Rows.topAnchorCopiedRow.domain false ((World.laidAll Tryz.prog os Rows.topAnchorCopiedRow.laid).forCall (λ_ _=>0) ⟨#[],#[.agg #[.int .u8 0,.int .u8 0,.int .u8 0,.int .u8 0]],[]⟩).memory #[.agg #[.int .u8 0,.int .u8 0,.int .u8 0,.int .u8 0]] 8=true:=by kernel_rfl
def anchorCopied_w4(os:Os)(H:Type)(enc:TypeId×Value->H):Rows.topAnchorCopiedSpec.sizedB enc Tryz.prog Tryz.f3 false ((World.laidAll Tryz.prog os Rows.topAnchorCopiedRow.laid).forCall (λ_ _=>0) ⟨#[],#[.agg #[.int .u8 0,.int .u8 0,.int .u8 0,.int .u8 0]],[]⟩).memory #[.agg #[.int .u8 0,.int .u8 0,.int .u8 0,.int .u8 0]] 8=true:=by kernel_rfl
def anchorCopied_ats:atsOf Tryz.prog 6 (Tryz.f3).params.toList=some [.agg (List.replicate 4 (.int .u8))]:=by kernel_rfl
def anchorCopied_par:∀t∈(Tryz.f3).params.toList,Tryz.prog.readableRec t=true/\t<Tryz.prog.types.size:=by decide+kernel
def anchorCopied_res:(Tryz.f3).resultTypes=#[4]:=by kernel_rfl
set_option maxRecDepth 100000 in
def anchorCopied_lifted(os:Os)(started:os.Started)(H:Type)(enc:TypeId×Value->H):
  ReturnsInHanded {} Tryz.checked os 3 .any (λw args=>(Rows.topAnchorCopiedSpec.pre enc Tryz.prog Tryz.f3 Rows.topAnchorCopiedRow.domain false w args/\laidMetH Tryz.prog Rows.topAnchorCopiedRow.laid w)/\sizedMet enc Tryz.prog Tryz.f3 (OpenSpec.ofChange Rows.topAnchorCopiedSpec) false w args)
   (Rows.topAnchorCopiedSpec.post enc Tryz.prog Tryz.f3 false true false false):=by
 refine of_change_sh (C:=Tryz.checked) (X:=λw _=>laidMetH Tryz.prog Rows.topAnchorCopiedRow.laid w) (λ_ _ _ hh h=>h.of_heap hh) own started anchorCopied_w1 Tryz.func3
  (ChangeSpec.witness_shaped (enc:=enc) (C:=Tryz.checked) (os:=os) (X:=λw _=>laidMetH Tryz.prog Rows.topAnchorCopiedRow.laid w) false (World.laidAll Tryz.prog os Rows.topAnchorCopiedRow.laid) #[.agg #[.int .u8 0,.int .u8 0,.int .u8 0,.int .u8 0]] 8 (World.laidAll_os _ _ _)
   (sc_shaped os _) (anchorCopied_w2 os) (anchorCopied_w3 os H enc) (anchorCopied_w4 os H enc) (sc_laid os _)) ?_
 intro W base args ds gs before sh hval hW _ _ hL _;have hL':laidMetH Tryz.prog Rows.topAnchorCopiedRow.laid W:=hL;rw[MakeChecks.laidMetH_plain _ _ _ (by kernel_rfl)]at hL';obtain⟨hsz,hz⟩:=shaped_last sh (by decide+kernel) tc_last;have aw:=AW.globals2 hL' (λx hx=>hx) 11 hsz;rw[anchorCopied_globs]at aw;obtain⟨p,q,hA,hV,_⟩:=id hW;obtain⟨rfl,_⟩:=trodVars_none hV;have hA':DataW.TrodAll enc Tryz.prog W 0 (λ_=>true) true (Tryz.f3).params.toList args.toList ds p:=hA;rw[Tryz.params3]at hA';obtain⟨_,d1,_,rfl,_⟩:=trodAll_one hA';refine row_true (n:=6) (ats:=[.agg (List.replicate 4 (.int .u8))]) laidOut anchorCopied_par anchorCopied_res Tryz.underlying4 rfl rfl anchorCopied_ats hval hW aw hz ?_
 intro k vs e h;obtain⟨_,_,rfl,h1,h⟩:=tyas_cons h;obtain rfl:=tyas_nil h;obtain⟨nn,rfl,hn4,hnb⟩:=tya_arr h1;obtain⟨n0,n1,n2,n3,rfl⟩:=len4a hn4;exact r3 tbl (globA_rg e) (globA_gl e) (u8_bd (hnb n0 (by simp))) (u8_bd (hnb n1 (by simp))) (u8_bd (hnb n2 (by simp))) (u8_bd (hnb n3 (by simp)))
def anchorCopied_f1:(Rows.topAnchorCopiedRow.inPlace==Tryz.prog.inPlace 3)=true:=by kernel_rfl
def anchorCopied_f2:(Rows.topAnchorCopiedRow.unfollowed==Tryz.prog.unfollowed 3)=true:=by kernel_rfl
def anchorCopied_f3:(Rows.topAnchorCopiedRow.recurses==Tryz.prog.recurses 3)=true:=by kernel_rfl
def anchorCopied_f4:(Rows.topAnchorCopiedRow.named==Tryz.prog.varsNamed 3)=true:=by kernel_rfl
def anchorCopied_f5:Tryz.prog.funcNamed "moveout/moveouttop.TopAnchorCopied" =some 3:=by kernel_rfl
def anchorCopied_f6:(Tryz.f3).isInstance Tryz.prog Rows.topAnchorCopiedRow.origin Rows.topAnchorCopiedRow.targs:=of_decide_eq_true (by kernel_rfl)
def anchorCopied_f7:(Tryz.f3).isWrapper Tryz.prog Rows.topAnchorCopiedRow.wrapper Rows.topAnchorCopiedRow.mainSum:=by
 unfold Func.isWrapper;first|(rw[if_pos (by decide+kernel)];kernel_rfl)|(rw[if_neg (by decide+kernel)];exact⟨rfl,rfl⟩)
def anchorCopied_f8:((Tryz.f3).params.all (Tryz.prog.readableRec ·))=true:=by kernel_rfl
def anchorCopied_closed:joinedFacts Tryz.prog 3 Tryz.f3 Rows.topAnchorCopiedSpec Rows.topAnchorCopiedRow=true:=by
 unfold joinedFacts;exact and2 (and2 (and2 (and2 (and2 (and2 (and2 (and2 (and2 (and2 (and2 (and2 (and2 (and2 (and2 (and2 (and2 (and2 (and2 (and2 (and2 (and2 (and2 (and2 (and2 (and2 (and2 (and2 (and2 (and2 (and2 (by kernel_rfl) laidOut) sc_maps) anchorCopied_f8) (by kernel_rfl)) (by kernel_rfl)) sc_stops) (by kernel_rfl)) sc_knobs) anchorCopied_f1) anchorCopied_f2) anchorCopied_f3) anchorCopied_f4)
  (by kernel_rfl)) (by kernel_rfl)) (by kernel_rfl)) (by kernel_rfl)) (by kernel_rfl)) (by kernel_rfl)) (by kernel_rfl)) (by kernel_rfl)) (by kernel_rfl)) sc_keys) (by kernel_rfl)) sc_heard) sc_enter) sc_lifts) sc_make) (by kernel_rfl)) (by kernel_rfl)) (by kernel_rfl)) (by kernel_rfl)
def anchorCopied_holds:Rows.TopAnchorCopiedSaid:=
 OpenClaim.holds_of_wide 3 Tryz.f3 rfl rfl rfl rfl rfl rfl rfl ⟨rfl,rfl,rfl,rfl,rfl⟩ rfl rfl rfl rfl rfl anchorCopied_f5 Tryz.func3 anchorCopied_closed
  anchorCopied_f6 anchorCopied_f7 (λos started H enc _=>anchorCopied_lifted os started H enc)
def anchorCopied_stand:((Tryz.f3).params.toList.all λu=>!Tryz.prog.wantsStandIn u)=true:=by kernel_rfl
def anchorCopied_goes:false=Rows.topAnchorCopiedRow.goesBy Tryz.prog:=by kernel_rfl
def anchorCopied_text:Rows.topAnchorCopiedRow.wfByText (OpenSpec.ofChange Rows.topAnchorCopiedSpec)=true:=by kernel_rfl
theorem anchorCopied_card_holds:Rows.TopAnchorCopiedCardSaid:=
 Claim7.holds_tied_plain_at .later [] [.data,.data] true (true, "c1b021ecd57596f2bf390c44327b1ef239e203b65a7d104cdc6fbd7710dc9fb7") true anchorCopied_holds (λ_ h=>by cases h) anchorCopied_text (λ_ h=>by cases h) topAnchorCopied_row_tie rfl ⟨rfl,rfl⟩ sc_main rfl
  (λf fn hf hfn=>by
   obtain rfl:f=3:=Option.some.inj (anchorCopied_f5.symm.trans hf) |>.symm;obtain rfl:fn=Tryz.f3:=(Option.some.inj ((Tryz.func3).symm.trans hfn)).symm;exact⟨sc_looks,λj t ht=>by
    have hm:t∈(Tryz.f3).params.toList:=by simpa using Array.mem_of_getElem? ht
    exact(show Tryz.prog.wantsStandIn t=false by simpa using List.all_eq_true.1 anchorCopied_stand t hm)⟩)
  anchorCopied_goes
#print axioms anchorCopied_card_holds
end Go.Proofs.YtjipbemoklhnaaaGreatDoor
