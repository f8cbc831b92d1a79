/- A part of the proof that HouseTorn holds. No condition. -/
import Derived.Test.YtgplmdgpmbegiaaGreatDoorTo0
import Derived.Test.YtgplmdgpmbegiaaGreatDoorTo9
import Derived.Test.YtgplmdgpmbegiaaGreatDoorTo11
set_option linter.all false
namespace Go.Proofs.YtgplmdgpmbegiaaGreatDoor
open Go.ChangeShapes Go.WideShapes Go.RowKit Go.Abs
def yv:xK Tryz.prog Rows.houseTornRow.laid 6=pg:=by kernel_rfl
def EY:Tryz.prog.inits.idxOf? 10=none:=by kernel_rfl
def EX(os:Os):Input.okWideB Tryz.prog ((World.laidAll Tryz.prog os Rows.houseTornRow.laid).forCall (λ_ _=>0) ⟨#[],#[.slice none 0 0,.agg #[.int .u16 0,.int .u16 0,.int .u16 0]],[]⟩) 10 ⟨#[],#[.slice none 0 0,.agg #[.int .u16 0,.int .u16 0,.int .u16 0]],[]⟩=true:=by kernel_rfl
def EW(os:Os)(H:Type)(enc:TypeId×Value->H):Rows.houseTornSpec.preB enc Tryz.prog Tryz.f10 Rows.houseTornRow.domain false ((World.laidAll Tryz.prog os Rows.houseTornRow.laid).forCall (λ_ _=>0) ⟨#[],#[.slice none 0 0,.agg #[.int .u16 0,.int .u16 0,.int .u16 0]],[]⟩).memory #[.slice none 0 0,.agg #[.int .u16 0,.int .u16 0,.int .u16 0]] 8=true:=by kernel_rfl
def EU(os:Os)(H:Type)(enc:TypeId×Value->H):Rows.houseTornSpec.sizedB enc Tryz.prog Tryz.f10 false ((World.laidAll Tryz.prog os Rows.houseTornRow.laid).forCall (λ_ _=>0) ⟨#[],#[.slice none 0 0,.agg #[.int .u16 0,.int .u16 0,.int .u16 0]],[]⟩).memory #[.slice none 0 0,.agg #[.int .u16 0,.int .u16 0,.int .u16 0]] 8=true:=by kernel_rfl
def Cw:uF Tryz.prog 6 (Tryz.f10).params.toList=some [.one (.sl Gm),.agg [.int .u16,.int .u16,.int .u16]]:=by kernel_rfl
def Cv:∀t∈(Tryz.f10).params.toList,Tryz.prog.readableRec t=true/\t<Tryz.prog.types.size:=by decide+kernel
def Cu:(Tryz.f10).resultTypes=#[4]:=by kernel_rfl
set_option maxRecDepth 100000 in
def wb(os:Os)(started:os.Started)(H:Type)(enc:TypeId×Value->H):
  ReturnsInHanded {} Tryz.checked os 10 .any (λw args=>(Rows.houseTornSpec.pre enc Tryz.prog Tryz.f10 Rows.houseTornRow.domain false w args/\laidMetH Tryz.prog Rows.houseTornRow.laid w)/\sizedMet enc Tryz.prog Tryz.f10 (OpenSpec.ofChange Rows.houseTornSpec) false w args)
   (Rows.houseTornSpec.post enc Tryz.prog Tryz.f10 false true false false):=by
 refine returnsInHanded_of_change_and (C:=Tryz.checked) (X:=λw _=>laidMetH Tryz.prog Rows.houseTornRow.laid w) (λ_ _ _ hh h=>h.of_heap hh) own started EY Tryz.func10
  (ChangeSpec.witness_shaped (enc:=enc) (C:=Tryz.checked) (os:=os) (X:=λw _=>laidMetH Tryz.prog Rows.houseTornRow.laid w) false (World.laidAll Tryz.prog os Rows.houseTornRow.laid) #[.slice none 0 0,.agg #[.int .u16 0,.int .u16 0,.int .u16 0]] 8 (World.laidAll_os _ _ _)
   (AS os _) (EX os) (EW os H enc) (EU os H enc) (Fi os _)) ?_
 intro W base args ds gs before hval hW _ _ hL _;have Yi:laidMetH Tryz.prog Rows.houseTornRow.laid W:=hL;rw[MakeChecks.laidMetH_plain _ _ _ (by kernel_rfl)]at Yi;obtain⟨aw,hz⟩:=AW.globals Yi (λx hx=>hx) 6 (nm:= "math/bits.deBruijn64tab") (d:=Rows.laid_math_bits_deBruijn64tab) (by unfold Rows.houseTornRow;simp) (by kernel_rfl);rw[yv]at aw;obtain⟨p,q,hA,hV,_⟩:=id hW;obtain⟨rfl,_⟩:=trodVars_none hV;have hA':DataW.TrodAll enc Tryz.prog W 0 (λ_=>true) true (Tryz.f10).params.toList args.toList ds p:=hA;rw[Tryz.params10]at hA';obtain⟨_,_,d1,d2,_,_,_,rfl,_⟩:=trodAll_two hA';refine C0 (n:=6) (ats:=[.one (.sl Gm),.agg [.int .u16,.int .u16,.int .u16]]) laidOut Cv Cu Tryz.underlying4 rfl rfl Cw hval hW aw hz ?_
 intro k vs e h;obtain⟨_,_,rfl,h1,h⟩:=tN h;obtain⟨_,_,rfl,h2,h⟩:=tN h;obtain rfl:=Cq h;obtain⟨L,o,sz⟩:=EP h1;obtain⟨c0,c1,c2,rfl,q0,q1,q2⟩:=II h2;exact r10 Pr (λk' e'=>r15 Pr Ph P1 (QO (e.trans e')) (PY (e.trans e'))) Ph P1 (PY e) (QO e) (h9 e) (λk' l e' hl=>Tf Pr Ph P1 (PY (e.trans e')) (QO (e.trans e')) nine (h9 (e.trans e')) (PE (e.trans e')) l hl) o sz q0 q1 q2
def E5:(Rows.houseTornRow.inPlace==Tryz.prog.inPlace 10)=true:=by kernel_rfl
def E4:(Rows.houseTornRow.unfollowed==Tryz.prog.unfollowed 10)=true:=by kernel_rfl
def E3:(Rows.houseTornRow.recurses==Tryz.prog.recurses 10)=true:=by kernel_rfl
def E2:(Rows.houseTornRow.named==Tryz.prog.varsNamed 10)=true:=by kernel_rfl
def zA:Tryz.prog.funcNamed "moveout/moveoutlaw10.HouseTorn" =some 10:=by kernel_rfl
def E1:(Tryz.f10).isInstance Tryz.prog Rows.houseTornRow.origin Rows.houseTornRow.targs:=abA (by kernel_rfl)
def E0:(Tryz.f10).isWrapper Tryz.prog Rows.houseTornRow.wrapper Rows.houseTornRow.mainSum:=by
 unfold Func.isWrapper;first|(rw[aas (by decide+kernel)];kernel_rfl)|(rw[aao (by decide+kernel)];exact⟨rfl,rfl⟩)
def EZ:((Tryz.f10).params.all (Tryz.prog.readableRec ·))=true:=by kernel_rfl
def wg:joinedFacts Tryz.prog 10 Tryz.f10 Rows.houseTornSpec Rows.houseTornRow=true:=by
 unfold joinedFacts;exact gE (gE (gE (gE (gE (gE (gE (gE (gE (gE (gE (gE (gE (gE (gE (gE (gE (gE (gE (gE (gE (gE (gE (gE (gE (gE (gE (gE (gE (gE (gE (by kernel_rfl) laidOut) Ff) EZ) (by kernel_rfl)) (by kernel_rfl)) CN) (by kernel_rfl)) CQ) E5) E4) E3) E2)
  (by kernel_rfl)) (by kernel_rfl)) (by kernel_rfl)) (by kernel_rfl)) (by kernel_rfl)) (by kernel_rfl)) (by kernel_rfl)) (by kernel_rfl)) (by kernel_rfl)) Fj) (by kernel_rfl)) CR) CS) CP) Fg) (by kernel_rfl)) (by kernel_rfl)) (by kernel_rfl)) (by kernel_rfl)
def yu:Rows.HouseTornSaid:=
 OpenClaim.holds_of_wide 10 Tryz.f10 rfl rfl rfl rfl rfl rfl rfl ⟨rfl,rfl,rfl,rfl,rfl⟩ rfl rfl rfl rfl rfl zA Tryz.func10 wg
  E1 E0 (λos started H enc _=>wb os started H enc)
def yt:((Tryz.f10).params.toList.all λu=>!Tryz.prog.wantsStandIn u)=true:=by kernel_rfl
def AQ:false=Rows.houseTornRow.goesBy Tryz.prog:=by kernel_rfl
def AP:Rows.houseTornRow.wfByText (OpenSpec.ofChange Rows.houseTornSpec)=true:=by kernel_rfl
theorem torn_card_holds:Rows.HouseTornCardSaid:=
 Claim7.holds_tied_plain_at .later [] [.data,.data,.data,.data,.sentinel,.sentinel,.data,.pinned] true (true, "99e684478f8cae51b056da3a355f6848a653f6e5f09f29bc4422acb306b2dd43") true yu (λ_ h=>by cases h) AP (λ_ h=>by cases h) houseTorn_row_tie rfl ⟨rfl,rfl⟩ Fh rfl
  (λf fn hf hfn=>by
   obtain rfl:f=10:=abf (zA.symm.trans hf) |>.symm;obtain rfl:fn=Tryz.f10:=(abf ((Tryz.func10).symm.trans hfn)).symm;exact⟨CO,λj t ht=>by
    have hm:t∈(Tryz.f10).params.toList:=by simpa using Array.mem_of_getElem? ht
    exact(show Tryz.prog.wantsStandIn t=false by simpa using aaO.1 yt t hm)⟩)
  AQ
#print axioms torn_card_holds
end Go.Proofs.YtgplmdgpmbegiaaGreatDoor
