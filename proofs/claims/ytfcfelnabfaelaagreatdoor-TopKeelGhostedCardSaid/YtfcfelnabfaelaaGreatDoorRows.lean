/-
  NARROWER THAN 'FOR EVERY INPUT', by the rows' own cells (each row's printed sentence says how): TopKeelGhosted: laid.
  DERIVED. THE GIVEN ROWS OF THIS SEAT. 1 by the template 'for every input the law returns true; each argument reads behind the call as it read before'; 0 by the template 'total and deterministic' (their statements: YtfcfelnabfaelaaGreatDoorTotals.lean).
  GIVEN WITH THE SEED: the statements are not yours to turn. If you find one false, say at which input.
  Laid BY PROGRAM, IN A SANDBOX (cutbox-rows.mjs): the forced cells as the released guide's own fill.sh prints them over the translation 740eed6a44ae315c… (all of the seat's roots in one cut). By AI agents, Wed Nov 11 2026. No macro, syntax, notation, axiom, sorry.
-/
import Derived.Test.YtfcfelnabfaelaaGreatDoorChecked
import GoSem.Claim
import GoSem.ClaimJoined
import GoSem.ClaimMapViews
import Derived.JoinedTies
import Derived.KernelRfl
namespace Go.Proofs.YtfcfelnabfaelaaGreatDoor
/- THE CELL 'sum', in the pinned program and in every row, IS THE sha256 OF THE DUMP (.gsa) THAT YtfcfelnabfaelaaGreatDoorProg.lean LOADS. Nothing in Lean hashes anything: it is a label: what it is worth is what the hold of that sum in a sandbox is worth. -/
noncomputable def Tryz.pinned : Pinned := { name := "ytfcfelnabfaelaagreatdoor", sum := "740eed6a44ae315c618451cb1eb19baf8ca9726553161a34b899900a9ee6443d", checked := Tryz.checked }
namespace Rows
def none {H : Type} : Left H := { results := [], args := [] }

/- WHAT THE LISTED PACKAGE-LEVEL VARIABLES READ AS WHEN THE CALL BEGINS. Each datum BY PROGRAM (the guide's laid-datum.mjs) off the statement by which the dump's own 'gosem.cut.vars' lays the variable. In a bare row this is a premise. The card (YtfcfelnabfaelaaGreatDoorCards.lean) ties it to the program's text. -/
def laid_moveout_trace_ranges {H : Type} : DataW H := .agg [.agg [.lit (.int .i64 (-100000)), .lit (.int .i64 100000)], .agg [.lit (.int .i64 (-100000)), .lit (.int .i64 100000)], .agg [.lit (.int .i64 (-100000)), .lit (.int .i64 100000)], .agg [.lit (.int .i64 (-100000)), .lit (.int .i64 100000)], .agg [.lit (.int .i64 0), .lit (.int .i64 100000)], .agg [.lit (.int .i64 (-999999999)), .lit (.int .i64 999999999)], .agg [.lit (.int .i64 (-999999999)), .lit (.int .i64 999999999)], .agg [.lit (.int .i64 (-999999999)), .lit (.int .i64 999999999)]]

/-- 'moveouttop.TopKeelGhosted': WHATEVER THE INPUT: true; the input reads as it did. -/
def topKeelGhostedSpec : ChangeSpec := { name := "topKeelGhosted", fn := fun _ => fun
  | [d1, d2] => { results := [.lit (.bool true)], args := [d1, d2] }
  | _ => none }
def topKeelGhostedRow : OpenClaim := { program := "ytfcfelnabfaelaagreatdoor", sum := "740eed6a44ae315c618451cb1eb19baf8ca9726553161a34b899900a9ee6443d", func := "moveout/moveouttop.TopKeelGhosted", spec := "topKeelGhosted", inPlace := ["math.Float64bits", "math.Float64frombits", "math.archFloor", "math.archTrunc"], unfollowed := true, recurses := true, named := ["moveout/trace.ranges"], apart := false, laid := [("moveout/trace.ranges", laid_moveout_trace_ranges)] }
def TopKeelGhostedSaid : Prop := topKeelGhostedRow.holds Tryz.pinned (OpenSpec.ofChange topKeelGhostedSpec)

/-- ITS FALSE NEIGHBOUR: 'it returns false'. Refute it at one input. -/
def topKeelGhostedWrong : ChangeSpec := { name := "topKeelGhosted", fn := fun _ => fun
  | [d1, d2] => { results := [.lit (.bool false)], args := [d1, d2] }
  | _ => none }
def TopKeelGhostedWrongFalsely : Prop := topKeelGhostedRow.holds Tryz.pinned (OpenSpec.ofChange topKeelGhostedWrong)

/- THE SECOND FORM. 'bulk': how many values and letters a reading holds, each counted each time it is reached (what is shared counts as often as it is met; a slice's spare places count too). A statement '..UptoSaid' is the law's where the arguments, and the package variables that the reading takes, are together of bulk at most 1048576: NARROWER than '..Said'. Prove '..Said' where nothing that the law and all that it calls make is longer than what came in: it says more and counts as full. Else prove '..UptoSaid'. A law counts once. -/
mutual
def uptoBulk {H : Type} : DataW H → Nat
  | .lit (.string bytes) => bytes.length + 1
  | .lit _ => 1
  | .nil => 1
  | .ptr d => uptoBulk d + 1
  | .slice elems spare => uptoBulkAll elems + uptoBulkAll spare + 1
  | .agg parts => uptoBulkAll parts + 1
  | .iface _ d => uptoBulk d + 1
  | .map entries => uptoBulkEntries entries + 1
  | .held _ => 1
def uptoBulkAll {H : Type} : List (DataW H) → Nat
  | [] => 0
  | d :: r => uptoBulk d + uptoBulkAll r
def uptoBulkEntries {H : Type} : List (Lit × DataW H) → Nat
  | [] => 0
  | x :: r => uptoBulkEntry x + uptoBulkEntries r
def uptoBulkEntry {H : Type} : Lit × DataW H → Nat
  | (.string bytes, d) => bytes.length + uptoBulk d + 1
  | (_, d) => uptoBulk d + 1
 end
def uptoSmall : (H : Type) → List (DataW H) → Bool := fun _ ds => decide (uptoBulkAll ds ≤ 1048576)
def OpenSpec.upto (s : _root_.Go.ChangeSpec) : _root_.Go.OpenSpec := { _root_.Go.OpenSpec.ofChange s with cond := some uptoSmall }

/-- 'moveouttop.TopKeelGhosted', WHERE WHAT IT READS IS OF BULK AT MOST 1048576: true; the input reads as it did. -/
def topKeelGhostedUptoRow : OpenClaim := { program := "ytfcfelnabfaelaagreatdoor", sum := "740eed6a44ae315c618451cb1eb19baf8ca9726553161a34b899900a9ee6443d", func := "moveout/moveouttop.TopKeelGhosted", spec := "topKeelGhosted", inPlace := ["math.Float64bits", "math.Float64frombits", "math.archFloor", "math.archTrunc"], unfollowed := true, recurses := true, named := ["moveout/trace.ranges"], apart := false, laid := [("moveout/trace.ranges", laid_moveout_trace_ranges)], narrowed := true }
def TopKeelGhostedUptoSaid : Prop := topKeelGhostedUptoRow.holds Tryz.pinned (OpenSpec.upto topKeelGhostedSpec)

end Rows
end Go.Proofs.YtfcfelnabfaelaaGreatDoor
