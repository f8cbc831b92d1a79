/-
  NARROWER THAN 'FOR EVERY INPUT', by the rows' own cells (each row's printed sentence says how): FilterTaps: laid · FilterSubtracts: laid · FilterWeights: laid · FilterTides: laid · FilterAdjoint: laid · FilterKept: laid · FilterPredicts: laid · FilterLeast: laid · FilterGhosts: laid · FilterUndone: laid · FilterShots: laid · FilterHoles: laid · FilterTexts: laid · FilterBack: laid.
  DERIVED. THE GIVEN ROWS OF THIS SEAT. 14 by the template 'for every input the law returns true; each argument reads behind the call as it read before'; 0 by the template 'total and deterministic' (their statements: YtbgldbmgjcgepaaGreatDoorTotals.lean).
  GIVEN WITH THE SEED: the statements are not yours to turn. If you find one false, say at which input.
  Laid BY PROGRAM, IN A SANDBOX (cutbox-rows.mjs): the forced cells as the released guide's own fill.sh prints them over the translation 2515422539c530eb… (all of the seat's roots in one cut). By AI agents, Wed Nov 11 2026. No macro, syntax, notation, axiom, sorry.
-/
import Derived.Test.YtbgldbmgjcgepaaGreatDoorChecked
import GoSem.PinnedTables
import GoSem.Claim
import GoSem.ClaimJoined
import GoSem.ClaimMapViews
import Derived.JoinedTies
import Derived.KernelRfl
namespace Go.Proofs.YtbgldbmgjcgepaaGreatDoor
/- THE CELL 'sum', in the pinned program and in every row, IS THE sha256 OF THE DUMP (.gsa) THAT YtbgldbmgjcgepaaGreatDoorProg.lean LOADS. Nothing in Lean hashes anything: it is a label: what it is worth is what the hold of that sum in a sandbox is worth. -/
noncomputable def Tryz.pinned : Pinned := { name := "ytbgldbmgjcgepaagreatdoor", sum := "2515422539c530eb5102dbbbf9a6a4bf695f35e11cee84b241c73c527c87c5ab", checked := Tryz.checked }
namespace Rows
def none {H : Type} : Left H := { results := [], args := [] }

/- WHAT THE LISTED PACKAGE-LEVEL VARIABLES READ AS WHEN THE CALL BEGINS. Each datum BY PROGRAM (the guide's laid-datum.mjs) off the statement by which the dump's own 'gosem.cut.vars' lays the variable. In a bare row this is a premise. The card (YtbgldbmgjcgepaaGreatDoorCards.lean) ties it to the program's text. -/
def laid_math_bits_deBruijn32tab {H : Type} : DataW H := .agg [.lit (.int .u8 0), .lit (.int .u8 1), .lit (.int .u8 28), .lit (.int .u8 2), .lit (.int .u8 29), .lit (.int .u8 14), .lit (.int .u8 24), .lit (.int .u8 3), .lit (.int .u8 30), .lit (.int .u8 22), .lit (.int .u8 20), .lit (.int .u8 15), .lit (.int .u8 25), .lit (.int .u8 17), .lit (.int .u8 4), .lit (.int .u8 8), .lit (.int .u8 31), .lit (.int .u8 27), .lit (.int .u8 13), .lit (.int .u8 23), .lit (.int .u8 21), .lit (.int .u8 19), .lit (.int .u8 16), .lit (.int .u8 7), .lit (.int .u8 26), .lit (.int .u8 12), .lit (.int .u8 18), .lit (.int .u8 6), .lit (.int .u8 11), .lit (.int .u8 5), .lit (.int .u8 10), .lit (.int .u8 9)]
def laid_math_bits_deBruijn64tab {H : Type} : DataW H := .agg [.lit (.int .u8 0), .lit (.int .u8 1), .lit (.int .u8 56), .lit (.int .u8 2), .lit (.int .u8 57), .lit (.int .u8 49), .lit (.int .u8 28), .lit (.int .u8 3), .lit (.int .u8 61), .lit (.int .u8 58), .lit (.int .u8 42), .lit (.int .u8 50), .lit (.int .u8 38), .lit (.int .u8 29), .lit (.int .u8 17), .lit (.int .u8 4), .lit (.int .u8 62), .lit (.int .u8 47), .lit (.int .u8 59), .lit (.int .u8 36), .lit (.int .u8 45), .lit (.int .u8 43), .lit (.int .u8 51), .lit (.int .u8 22), .lit (.int .u8 53), .lit (.int .u8 39), .lit (.int .u8 33), .lit (.int .u8 30), .lit (.int .u8 24), .lit (.int .u8 18), .lit (.int .u8 12), .lit (.int .u8 5), .lit (.int .u8 63), .lit (.int .u8 55), .lit (.int .u8 48), .lit (.int .u8 27), .lit (.int .u8 60), .lit (.int .u8 41), .lit (.int .u8 37), .lit (.int .u8 16), .lit (.int .u8 46), .lit (.int .u8 35), .lit (.int .u8 44), .lit (.int .u8 21), .lit (.int .u8 52), .lit (.int .u8 32), .lit (.int .u8 23), .lit (.int .u8 11), .lit (.int .u8 54), .lit (.int .u8 26), .lit (.int .u8 40), .lit (.int .u8 15), .lit (.int .u8 34), .lit (.int .u8 20), .lit (.int .u8 31), .lit (.int .u8 10), .lit (.int .u8 25), .lit (.int .u8 14), .lit (.int .u8 19), .lit (.int .u8 9), .lit (.int .u8 13), .lit (.int .u8 8), .lit (.int .u8 7), .lit (.int .u8 6)]
def laid_internal_strconv_uint64pow10 {H : Type} : DataW H := .agg [.lit (.int .u64 1), .lit (.int .u64 10), .lit (.int .u64 100), .lit (.int .u64 1000), .lit (.int .u64 10000), .lit (.int .u64 100000), .lit (.int .u64 1000000), .lit (.int .u64 10000000), .lit (.int .u64 100000000), .lit (.int .u64 1000000000), .lit (.int .u64 10000000000), .lit (.int .u64 100000000000), .lit (.int .u64 1000000000000), .lit (.int .u64 10000000000000), .lit (.int .u64 100000000000000), .lit (.int .u64 1000000000000000), .lit (.int .u64 10000000000000000), .lit (.int .u64 100000000000000000), .lit (.int .u64 1000000000000000000), .lit (.int .u64 10000000000000000000)]
def laid_moveout_filter_powers {H : Type} : DataW H := .agg [.agg [.lit (.int .i64 1), .lit (.int .i64 0)], .agg [.lit (.int .i64 0), .lit (.int .i64 1)], .agg [.lit (.int .i64 (-1)), .lit (.int .i64 0)], .agg [.lit (.int .i64 0), .lit (.int .i64 (-1))]]
def laid_moveout_trace_ranges {H : Type} : DataW H := .agg [.agg [.lit (.int .i64 (-100000)), .lit (.int .i64 100000)], .agg [.lit (.int .i64 (-100000)), .lit (.int .i64 100000)], .agg [.lit (.int .i64 (-100000)), .lit (.int .i64 100000)], .agg [.lit (.int .i64 (-100000)), .lit (.int .i64 100000)], .agg [.lit (.int .i64 0), .lit (.int .i64 100000)], .agg [.lit (.int .i64 (-999999999)), .lit (.int .i64 999999999)], .agg [.lit (.int .i64 (-999999999)), .lit (.int .i64 999999999)], .agg [.lit (.int .i64 (-999999999)), .lit (.int .i64 999999999)]]
def laid_unicode_utf8_acceptRanges {H : Type} : DataW H := .agg [.agg [.lit (.int .u8 128), .lit (.int .u8 191)], .agg [.lit (.int .u8 160), .lit (.int .u8 191)], .agg [.lit (.int .u8 128), .lit (.int .u8 159)], .agg [.lit (.int .u8 144), .lit (.int .u8 191)], .agg [.lit (.int .u8 128), .lit (.int .u8 143)], .agg [.lit (.int .u8 0), .lit (.int .u8 0)], .agg [.lit (.int .u8 0), .lit (.int .u8 0)], .agg [.lit (.int .u8 0), .lit (.int .u8 0)], .agg [.lit (.int .u8 0), .lit (.int .u8 0)], .agg [.lit (.int .u8 0), .lit (.int .u8 0)], .agg [.lit (.int .u8 0), .lit (.int .u8 0)], .agg [.lit (.int .u8 0), .lit (.int .u8 0)], .agg [.lit (.int .u8 0), .lit (.int .u8 0)], .agg [.lit (.int .u8 0), .lit (.int .u8 0)], .agg [.lit (.int .u8 0), .lit (.int .u8 0)], .agg [.lit (.int .u8 0), .lit (.int .u8 0)]]
def laid_strconv_ErrRange {H : Type} : DataW H := .iface "*errors.errorString" (.ptr (.agg [.lit (.string [118, 97, 108, 117, 101, 32, 111, 117, 116, 32, 111, 102, 32, 114, 97, 110, 103, 101])]))
def laid_strconv_ErrSyntax {H : Type} : DataW H := .iface "*errors.errorString" (.ptr (.agg [.lit (.string [105, 110, 118, 97, 108, 105, 100, 32, 115, 121, 110, 116, 97, 120])]))
/-- One of Go's own tables, pinned by name: the form's constant. -/
def laid_unicode_utf8_first : DataW Unit := Go.Pinned.utf8First

/-- 'moveoutlaw05.FilterTaps': WHATEVER THE INPUT: true; the input reads as it did. -/
def filterTapsSpec : ChangeSpec := { name := "filterTaps", fn := fun _ => fun
  | [d1, d2] => { results := [.lit (.bool true)], args := [d1, d2] }
  | _ => none }
def filterTapsRow : OpenClaim := { program := "ytbgldbmgjcgepaagreatdoor", sum := "2515422539c530eb5102dbbbf9a6a4bf695f35e11cee84b241c73c527c87c5ab", func := "moveout/moveoutlaw05.FilterTaps", spec := "filterTaps", inPlace := ["math.Float64bits", "math.Float64frombits", "math.archFloor", "math.archTrunc", "internal/abi.NoEscape", "internal/bytealg.MakeNoZero"], unfollowed := true, recurses := true, named := ["moveout/filter.powers", "internal/strconv.uint64pow10", "math/bits.deBruijn32tab", "math/bits.deBruijn64tab"], apart := false, laid := [("math/bits.deBruijn32tab", laid_math_bits_deBruijn32tab), ("math/bits.deBruijn64tab", laid_math_bits_deBruijn64tab), ("internal/strconv.uint64pow10", laid_internal_strconv_uint64pow10), ("moveout/filter.powers", laid_moveout_filter_powers)] }
def FilterTapsSaid : Prop := filterTapsRow.holds Tryz.pinned (OpenSpec.ofChange filterTapsSpec)

/-- ITS FALSE NEIGHBOUR: 'it returns false'. Refute it at one input. -/
def filterTapsWrong : ChangeSpec := { name := "filterTaps", fn := fun _ => fun
  | [d1, d2] => { results := [.lit (.bool false)], args := [d1, d2] }
  | _ => none }
def FilterTapsWrongFalsely : Prop := filterTapsRow.holds Tryz.pinned (OpenSpec.ofChange filterTapsWrong)

/-- 'moveoutlaw05.FilterSubtracts': WHATEVER THE INPUT: true; the input reads as it did. -/
def filterSubtractsSpec : ChangeSpec := { name := "filterSubtracts", fn := fun _ => fun
  | [d1, d2] => { results := [.lit (.bool true)], args := [d1, d2] }
  | _ => none }
def filterSubtractsRow : OpenClaim := { program := "ytbgldbmgjcgepaagreatdoor", sum := "2515422539c530eb5102dbbbf9a6a4bf695f35e11cee84b241c73c527c87c5ab", func := "moveout/moveoutlaw05.FilterSubtracts", spec := "filterSubtracts", inPlace := ["math.Float64bits", "math.Float64frombits", "math.archFloor", "math.archTrunc", "internal/abi.NoEscape", "internal/bytealg.MakeNoZero"], unfollowed := true, recurses := true, named := ["moveout/filter.powers", "internal/strconv.uint64pow10", "math/bits.deBruijn32tab", "math/bits.deBruijn64tab"], apart := false, laid := [("math/bits.deBruijn32tab", laid_math_bits_deBruijn32tab), ("math/bits.deBruijn64tab", laid_math_bits_deBruijn64tab), ("internal/strconv.uint64pow10", laid_internal_strconv_uint64pow10), ("moveout/filter.powers", laid_moveout_filter_powers)] }
def FilterSubtractsSaid : Prop := filterSubtractsRow.holds Tryz.pinned (OpenSpec.ofChange filterSubtractsSpec)

/-- ITS FALSE NEIGHBOUR: 'it returns false'. Refute it at one input. -/
def filterSubtractsWrong : ChangeSpec := { name := "filterSubtracts", fn := fun _ => fun
  | [d1, d2] => { results := [.lit (.bool false)], args := [d1, d2] }
  | _ => none }
def FilterSubtractsWrongFalsely : Prop := filterSubtractsRow.holds Tryz.pinned (OpenSpec.ofChange filterSubtractsWrong)

/-- 'moveoutlaw05.FilterWeights': WHATEVER THE INPUT: true; the input reads as it did. -/
def filterWeightsSpec : ChangeSpec := { name := "filterWeights", fn := fun _ => fun
  | [d1, d2] => { results := [.lit (.bool true)], args := [d1, d2] }
  | _ => none }
def filterWeightsRow : OpenClaim := { program := "ytbgldbmgjcgepaagreatdoor", sum := "2515422539c530eb5102dbbbf9a6a4bf695f35e11cee84b241c73c527c87c5ab", func := "moveout/moveoutlaw05.FilterWeights", spec := "filterWeights", inPlace := ["math.Float64bits", "math.Float64frombits", "math.archFloor", "math.archTrunc", "internal/abi.NoEscape", "internal/bytealg.MakeNoZero"], unfollowed := true, recurses := true, named := ["moveout/filter.powers", "internal/strconv.uint64pow10", "math/bits.deBruijn32tab", "math/bits.deBruijn64tab"], apart := false, laid := [("math/bits.deBruijn32tab", laid_math_bits_deBruijn32tab), ("math/bits.deBruijn64tab", laid_math_bits_deBruijn64tab), ("internal/strconv.uint64pow10", laid_internal_strconv_uint64pow10), ("moveout/filter.powers", laid_moveout_filter_powers)] }
def FilterWeightsSaid : Prop := filterWeightsRow.holds Tryz.pinned (OpenSpec.ofChange filterWeightsSpec)

/-- ITS FALSE NEIGHBOUR: 'it returns false'. Refute it at one input. -/
def filterWeightsWrong : ChangeSpec := { name := "filterWeights", fn := fun _ => fun
  | [d1, d2] => { results := [.lit (.bool false)], args := [d1, d2] }
  | _ => none }
def FilterWeightsWrongFalsely : Prop := filterWeightsRow.holds Tryz.pinned (OpenSpec.ofChange filterWeightsWrong)

/-- 'moveoutlaw05.FilterTides': WHATEVER THE INPUT: true; the input reads as it did. -/
def filterTidesSpec : ChangeSpec := { name := "filterTides", fn := fun _ => fun
  | [d1, d2] => { results := [.lit (.bool true)], args := [d1, d2] }
  | _ => none }
def filterTidesRow : OpenClaim := { program := "ytbgldbmgjcgepaagreatdoor", sum := "2515422539c530eb5102dbbbf9a6a4bf695f35e11cee84b241c73c527c87c5ab", func := "moveout/moveoutlaw05.FilterTides", spec := "filterTides", inPlace := ["math.Float64bits", "math.Float64frombits", "math.archFloor", "math.archTrunc", "internal/abi.NoEscape", "internal/bytealg.MakeNoZero"], unfollowed := true, recurses := true, named := ["moveout/filter.powers", "internal/strconv.uint64pow10", "math/bits.deBruijn32tab", "math/bits.deBruijn64tab"], apart := false, laid := [("math/bits.deBruijn32tab", laid_math_bits_deBruijn32tab), ("math/bits.deBruijn64tab", laid_math_bits_deBruijn64tab), ("internal/strconv.uint64pow10", laid_internal_strconv_uint64pow10), ("moveout/filter.powers", laid_moveout_filter_powers)] }
def FilterTidesSaid : Prop := filterTidesRow.holds Tryz.pinned (OpenSpec.ofChange filterTidesSpec)

/-- ITS FALSE NEIGHBOUR: 'it returns false'. Refute it at one input. -/
def filterTidesWrong : ChangeSpec := { name := "filterTides", fn := fun _ => fun
  | [d1, d2] => { results := [.lit (.bool false)], args := [d1, d2] }
  | _ => none }
def FilterTidesWrongFalsely : Prop := filterTidesRow.holds Tryz.pinned (OpenSpec.ofChange filterTidesWrong)

/-- 'moveoutlaw05.FilterAdjoint': WHATEVER THE INPUT: true; the input reads as it did. -/
def filterAdjointSpec : ChangeSpec := { name := "filterAdjoint", fn := fun _ => fun
  | [d1, d2, d3] => { results := [.lit (.bool true)], args := [d1, d2, d3] }
  | _ => none }
def filterAdjointRow : OpenClaim := { program := "ytbgldbmgjcgepaagreatdoor", sum := "2515422539c530eb5102dbbbf9a6a4bf695f35e11cee84b241c73c527c87c5ab", func := "moveout/moveoutlaw05.FilterAdjoint", spec := "filterAdjoint", inPlace := ["math.Float64bits", "math.Float64frombits", "math.archFloor", "math.archTrunc", "internal/abi.NoEscape", "internal/bytealg.MakeNoZero"], unfollowed := true, recurses := true, named := ["moveout/filter.powers", "internal/strconv.uint64pow10", "math/bits.deBruijn32tab", "math/bits.deBruijn64tab"], apart := false, laid := [("math/bits.deBruijn32tab", laid_math_bits_deBruijn32tab), ("math/bits.deBruijn64tab", laid_math_bits_deBruijn64tab), ("internal/strconv.uint64pow10", laid_internal_strconv_uint64pow10), ("moveout/filter.powers", laid_moveout_filter_powers)] }
def FilterAdjointSaid : Prop := filterAdjointRow.holds Tryz.pinned (OpenSpec.ofChange filterAdjointSpec)

/-- ITS FALSE NEIGHBOUR: 'it returns false'. Refute it at one input. -/
def filterAdjointWrong : ChangeSpec := { name := "filterAdjoint", fn := fun _ => fun
  | [d1, d2, d3] => { results := [.lit (.bool false)], args := [d1, d2, d3] }
  | _ => none }
def FilterAdjointWrongFalsely : Prop := filterAdjointRow.holds Tryz.pinned (OpenSpec.ofChange filterAdjointWrong)

/-- 'moveoutlaw05.FilterKept': WHATEVER THE INPUT: true; the input reads as it did. -/
def filterKeptSpec : ChangeSpec := { name := "filterKept", fn := fun _ => fun
  | [d1, d2] => { results := [.lit (.bool true)], args := [d1, d2] }
  | _ => none }
def filterKeptRow : OpenClaim := { program := "ytbgldbmgjcgepaagreatdoor", sum := "2515422539c530eb5102dbbbf9a6a4bf695f35e11cee84b241c73c527c87c5ab", func := "moveout/moveoutlaw05.FilterKept", spec := "filterKept", inPlace := ["math.Float64bits", "math.Float64frombits", "math.archFloor", "math.archTrunc", "internal/abi.NoEscape", "internal/bytealg.MakeNoZero"], unfollowed := true, recurses := true, named := ["moveout/filter.powers", "internal/strconv.uint64pow10", "math/bits.deBruijn32tab", "math/bits.deBruijn64tab"], apart := false, laid := [("math/bits.deBruijn32tab", laid_math_bits_deBruijn32tab), ("math/bits.deBruijn64tab", laid_math_bits_deBruijn64tab), ("internal/strconv.uint64pow10", laid_internal_strconv_uint64pow10), ("moveout/filter.powers", laid_moveout_filter_powers)] }
def FilterKeptSaid : Prop := filterKeptRow.holds Tryz.pinned (OpenSpec.ofChange filterKeptSpec)

/-- ITS FALSE NEIGHBOUR: 'it returns false'. Refute it at one input. -/
def filterKeptWrong : ChangeSpec := { name := "filterKept", fn := fun _ => fun
  | [d1, d2] => { results := [.lit (.bool false)], args := [d1, d2] }
  | _ => none }
def FilterKeptWrongFalsely : Prop := filterKeptRow.holds Tryz.pinned (OpenSpec.ofChange filterKeptWrong)

/-- 'moveoutlaw05.FilterPredicts': WHATEVER THE INPUT: true; the input reads as it did. -/
def filterPredictsSpec : ChangeSpec := { name := "filterPredicts", fn := fun _ => fun
  | [d1, d2] => { results := [.lit (.bool true)], args := [d1, d2] }
  | _ => none }
def filterPredictsRow : OpenClaim := { program := "ytbgldbmgjcgepaagreatdoor", sum := "2515422539c530eb5102dbbbf9a6a4bf695f35e11cee84b241c73c527c87c5ab", func := "moveout/moveoutlaw05.FilterPredicts", spec := "filterPredicts", inPlace := ["math.Float64bits", "math.Float64frombits", "math.archFloor", "math.archTrunc", "internal/abi.NoEscape", "internal/bytealg.MakeNoZero"], unfollowed := true, recurses := true, named := ["moveout/filter.powers", "internal/strconv.uint64pow10", "math/bits.deBruijn32tab", "math/bits.deBruijn64tab"], apart := false, laid := [("math/bits.deBruijn32tab", laid_math_bits_deBruijn32tab), ("math/bits.deBruijn64tab", laid_math_bits_deBruijn64tab), ("internal/strconv.uint64pow10", laid_internal_strconv_uint64pow10), ("moveout/filter.powers", laid_moveout_filter_powers)] }
def FilterPredictsSaid : Prop := filterPredictsRow.holds Tryz.pinned (OpenSpec.ofChange filterPredictsSpec)

/-- ITS FALSE NEIGHBOUR: 'it returns false'. Refute it at one input. -/
def filterPredictsWrong : ChangeSpec := { name := "filterPredicts", fn := fun _ => fun
  | [d1, d2] => { results := [.lit (.bool false)], args := [d1, d2] }
  | _ => none }
def FilterPredictsWrongFalsely : Prop := filterPredictsRow.holds Tryz.pinned (OpenSpec.ofChange filterPredictsWrong)

/-- 'moveoutlaw05.FilterLeast': WHATEVER THE INPUT: true; the input reads as it did. -/
def filterLeastSpec : ChangeSpec := { name := "filterLeast", fn := fun _ => fun
  | [d1, d2, d3] => { results := [.lit (.bool true)], args := [d1, d2, d3] }
  | _ => none }
def filterLeastRow : OpenClaim := { program := "ytbgldbmgjcgepaagreatdoor", sum := "2515422539c530eb5102dbbbf9a6a4bf695f35e11cee84b241c73c527c87c5ab", func := "moveout/moveoutlaw05.FilterLeast", spec := "filterLeast", inPlace := ["math.Float64bits", "math.Float64frombits", "math.archFloor", "math.archTrunc", "internal/abi.NoEscape", "internal/bytealg.MakeNoZero"], unfollowed := true, recurses := true, named := ["moveout/filter.powers", "internal/strconv.uint64pow10", "math/bits.deBruijn32tab", "math/bits.deBruijn64tab"], apart := false, laid := [("math/bits.deBruijn32tab", laid_math_bits_deBruijn32tab), ("math/bits.deBruijn64tab", laid_math_bits_deBruijn64tab), ("internal/strconv.uint64pow10", laid_internal_strconv_uint64pow10), ("moveout/filter.powers", laid_moveout_filter_powers)] }
def FilterLeastSaid : Prop := filterLeastRow.holds Tryz.pinned (OpenSpec.ofChange filterLeastSpec)

/-- ITS FALSE NEIGHBOUR: 'it returns false'. Refute it at one input. -/
def filterLeastWrong : ChangeSpec := { name := "filterLeast", fn := fun _ => fun
  | [d1, d2, d3] => { results := [.lit (.bool false)], args := [d1, d2, d3] }
  | _ => none }
def FilterLeastWrongFalsely : Prop := filterLeastRow.holds Tryz.pinned (OpenSpec.ofChange filterLeastWrong)

/-- 'moveoutlaw05.FilterGhosts': WHATEVER THE INPUT: true; the input reads as it did. -/
def filterGhostsSpec : ChangeSpec := { name := "filterGhosts", fn := fun _ => fun
  | [d1, d2] => { results := [.lit (.bool true)], args := [d1, d2] }
  | _ => none }
def filterGhostsRow : OpenClaim := { program := "ytbgldbmgjcgepaagreatdoor", sum := "2515422539c530eb5102dbbbf9a6a4bf695f35e11cee84b241c73c527c87c5ab", func := "moveout/moveoutlaw05.FilterGhosts", spec := "filterGhosts", inPlace := ["math.Float64bits", "math.Float64frombits", "math.archFloor", "math.archTrunc", "internal/abi.NoEscape", "internal/bytealg.MakeNoZero"], unfollowed := true, recurses := true, named := ["moveout/filter.powers", "internal/strconv.uint64pow10", "math/bits.deBruijn32tab", "math/bits.deBruijn64tab"], apart := false, laid := [("math/bits.deBruijn32tab", laid_math_bits_deBruijn32tab), ("math/bits.deBruijn64tab", laid_math_bits_deBruijn64tab), ("internal/strconv.uint64pow10", laid_internal_strconv_uint64pow10), ("moveout/filter.powers", laid_moveout_filter_powers)] }
def FilterGhostsSaid : Prop := filterGhostsRow.holds Tryz.pinned (OpenSpec.ofChange filterGhostsSpec)

/-- ITS FALSE NEIGHBOUR: 'it returns false'. Refute it at one input. -/
def filterGhostsWrong : ChangeSpec := { name := "filterGhosts", fn := fun _ => fun
  | [d1, d2] => { results := [.lit (.bool false)], args := [d1, d2] }
  | _ => none }
def FilterGhostsWrongFalsely : Prop := filterGhostsRow.holds Tryz.pinned (OpenSpec.ofChange filterGhostsWrong)

/-- 'moveoutlaw05.FilterUndone': WHATEVER THE INPUT: true; the input reads as it did. -/
def filterUndoneSpec : ChangeSpec := { name := "filterUndone", fn := fun _ => fun
  | [d1, d2, d3] => { results := [.lit (.bool true)], args := [d1, d2, d3] }
  | _ => none }
def filterUndoneRow : OpenClaim := { program := "ytbgldbmgjcgepaagreatdoor", sum := "2515422539c530eb5102dbbbf9a6a4bf695f35e11cee84b241c73c527c87c5ab", func := "moveout/moveoutlaw05.FilterUndone", spec := "filterUndone", inPlace := ["math.Float64bits", "math.Float64frombits", "math.archFloor", "math.archTrunc", "internal/abi.NoEscape", "internal/bytealg.MakeNoZero"], unfollowed := true, recurses := true, named := ["moveout/filter.powers", "internal/strconv.uint64pow10", "math/bits.deBruijn32tab", "math/bits.deBruijn64tab"], apart := false, laid := [("math/bits.deBruijn32tab", laid_math_bits_deBruijn32tab), ("math/bits.deBruijn64tab", laid_math_bits_deBruijn64tab), ("internal/strconv.uint64pow10", laid_internal_strconv_uint64pow10), ("moveout/filter.powers", laid_moveout_filter_powers)] }
def FilterUndoneSaid : Prop := filterUndoneRow.holds Tryz.pinned (OpenSpec.ofChange filterUndoneSpec)

/-- ITS FALSE NEIGHBOUR: 'it returns false'. Refute it at one input. -/
def filterUndoneWrong : ChangeSpec := { name := "filterUndone", fn := fun _ => fun
  | [d1, d2, d3] => { results := [.lit (.bool false)], args := [d1, d2, d3] }
  | _ => none }
def FilterUndoneWrongFalsely : Prop := filterUndoneRow.holds Tryz.pinned (OpenSpec.ofChange filterUndoneWrong)

/-- 'moveoutlaw05.FilterShots': WHATEVER THE INPUT: true; the input reads as it did. -/
def filterShotsSpec : ChangeSpec := { name := "filterShots", fn := fun _ => fun
  | [d1, d2, d3] => { results := [.lit (.bool true)], args := [d1, d2, d3] }
  | _ => none }
def filterShotsRow : OpenClaim := { program := "ytbgldbmgjcgepaagreatdoor", sum := "2515422539c530eb5102dbbbf9a6a4bf695f35e11cee84b241c73c527c87c5ab", func := "moveout/moveoutlaw05.FilterShots", spec := "filterShots", inPlace := ["math.Float64bits", "math.Float64frombits", "math.archFloor", "math.archTrunc", "internal/abi.NoEscape", "internal/bytealg.MakeNoZero"], unfollowed := true, recurses := true, named := ["moveout/filter.powers", "internal/strconv.uint64pow10", "math/bits.deBruijn32tab", "math/bits.deBruijn64tab", "moveout/trace.ranges"], apart := false, laid := [("math/bits.deBruijn32tab", laid_math_bits_deBruijn32tab), ("math/bits.deBruijn64tab", laid_math_bits_deBruijn64tab), ("internal/strconv.uint64pow10", laid_internal_strconv_uint64pow10), ("moveout/trace.ranges", laid_moveout_trace_ranges), ("moveout/filter.powers", laid_moveout_filter_powers)] }
def FilterShotsSaid : Prop := filterShotsRow.holds Tryz.pinned (OpenSpec.ofChange filterShotsSpec)

/-- ITS FALSE NEIGHBOUR: 'it returns false'. Refute it at one input. -/
def filterShotsWrong : ChangeSpec := { name := "filterShots", fn := fun _ => fun
  | [d1, d2, d3] => { results := [.lit (.bool false)], args := [d1, d2, d3] }
  | _ => none }
def FilterShotsWrongFalsely : Prop := filterShotsRow.holds Tryz.pinned (OpenSpec.ofChange filterShotsWrong)

/-- 'moveoutlaw05.FilterHoles': WHATEVER THE INPUT: true; the input reads as it did. -/
def filterHolesSpec : ChangeSpec := { name := "filterHoles", fn := fun _ => fun
  | [d1, d2, d3] => { results := [.lit (.bool true)], args := [d1, d2, d3] }
  | _ => none }
def filterHolesRow : OpenClaim := { program := "ytbgldbmgjcgepaagreatdoor", sum := "2515422539c530eb5102dbbbf9a6a4bf695f35e11cee84b241c73c527c87c5ab", func := "moveout/moveoutlaw05.FilterHoles", spec := "filterHoles", inPlace := ["math.Float64bits", "math.Float64frombits", "math.archFloor", "math.archTrunc", "internal/abi.NoEscape", "internal/bytealg.MakeNoZero"], unfollowed := true, recurses := true, named := ["moveout/filter.powers", "internal/strconv.uint64pow10", "math/bits.deBruijn32tab", "math/bits.deBruijn64tab", "moveout/trace.ranges"], apart := false, laid := [("math/bits.deBruijn32tab", laid_math_bits_deBruijn32tab), ("math/bits.deBruijn64tab", laid_math_bits_deBruijn64tab), ("internal/strconv.uint64pow10", laid_internal_strconv_uint64pow10), ("moveout/trace.ranges", laid_moveout_trace_ranges), ("moveout/filter.powers", laid_moveout_filter_powers)] }
def FilterHolesSaid : Prop := filterHolesRow.holds Tryz.pinned (OpenSpec.ofChange filterHolesSpec)

/-- ITS FALSE NEIGHBOUR: 'it returns false'. Refute it at one input. -/
def filterHolesWrong : ChangeSpec := { name := "filterHoles", fn := fun _ => fun
  | [d1, d2, d3] => { results := [.lit (.bool false)], args := [d1, d2, d3] }
  | _ => none }
def FilterHolesWrongFalsely : Prop := filterHolesRow.holds Tryz.pinned (OpenSpec.ofChange filterHolesWrong)

/-- 'moveoutlaw05.FilterTexts': WHATEVER THE INPUT: true; the input reads as it did. -/
def filterTextsSpec : ChangeSpec := { name := "filterTexts", fn := fun _ => fun
  | [d1, d2] => { results := [.lit (.bool true)], args := [d1, d2] }
  | _ => none }
def filterTextsRow : OpenClaim := { program := "ytbgldbmgjcgepaagreatdoor", sum := "2515422539c530eb5102dbbbf9a6a4bf695f35e11cee84b241c73c527c87c5ab", func := "moveout/moveoutlaw05.FilterTexts", spec := "filterTexts", inPlace := ["math.Float64bits", "math.Float64frombits", "math.archFloor", "math.archTrunc", "internal/abi.NoEscape", "internal/bytealg.MakeNoZero", "internal/bytealg.CountString", "internal/bytealg.IndexByteString", "internal/bytealg.IndexString"], unfollowed := true, recurses := true, named := ["moveout/filter.powers", "internal/strconv.uint64pow10", "math/bits.deBruijn32tab", "math/bits.deBruijn64tab", "unicode/utf8.first", "unicode/utf8.acceptRanges", "internal/bytealg.MaxLen", "strconv.ErrSyntax", "strconv.ErrRange"], apart := false, laid := [("math/bits.deBruijn32tab", laid_math_bits_deBruijn32tab), ("math/bits.deBruijn64tab", laid_math_bits_deBruijn64tab), ("internal/strconv.uint64pow10", laid_internal_strconv_uint64pow10), ("unicode/utf8.acceptRanges", laid_unicode_utf8_acceptRanges), ("strconv.ErrRange", laid_strconv_ErrRange), ("strconv.ErrSyntax", laid_strconv_ErrSyntax), ("moveout/filter.powers", laid_moveout_filter_powers), ("unicode/utf8.first", laid_unicode_utf8_first)] }
def FilterTextsSaid : Prop := filterTextsRow.holds Tryz.pinned (OpenSpec.ofChange filterTextsSpec)

/-- ITS FALSE NEIGHBOUR: 'it returns false'. Refute it at one input. -/
def filterTextsWrong : ChangeSpec := { name := "filterTexts", fn := fun _ => fun
  | [d1, d2] => { results := [.lit (.bool false)], args := [d1, d2] }
  | _ => none }
def FilterTextsWrongFalsely : Prop := filterTextsRow.holds Tryz.pinned (OpenSpec.ofChange filterTextsWrong)

/-- 'moveoutlaw05.FilterBack': WHATEVER THE INPUT: true; the input reads as it did. -/
def filterBackSpec : ChangeSpec := { name := "filterBack", fn := fun _ => fun
  | [d1, d2] => { results := [.lit (.bool true)], args := [d1, d2] }
  | _ => none }
def filterBackRow : OpenClaim := { program := "ytbgldbmgjcgepaagreatdoor", sum := "2515422539c530eb5102dbbbf9a6a4bf695f35e11cee84b241c73c527c87c5ab", func := "moveout/moveoutlaw05.FilterBack", spec := "filterBack", inPlace := ["math.Float64bits", "math.Float64frombits", "math.archFloor", "math.archTrunc", "internal/abi.NoEscape", "internal/bytealg.MakeNoZero", "internal/bytealg.CountString", "internal/bytealg.IndexByteString", "internal/bytealg.IndexString"], unfollowed := true, recurses := true, named := ["moveout/filter.powers", "internal/strconv.uint64pow10", "math/bits.deBruijn32tab", "math/bits.deBruijn64tab", "unicode/utf8.first", "unicode/utf8.acceptRanges", "internal/bytealg.MaxLen", "strconv.ErrSyntax", "strconv.ErrRange"], apart := false, laid := [("math/bits.deBruijn32tab", laid_math_bits_deBruijn32tab), ("math/bits.deBruijn64tab", laid_math_bits_deBruijn64tab), ("internal/strconv.uint64pow10", laid_internal_strconv_uint64pow10), ("unicode/utf8.acceptRanges", laid_unicode_utf8_acceptRanges), ("strconv.ErrRange", laid_strconv_ErrRange), ("strconv.ErrSyntax", laid_strconv_ErrSyntax), ("moveout/filter.powers", laid_moveout_filter_powers), ("unicode/utf8.first", laid_unicode_utf8_first)] }
def FilterBackSaid : Prop := filterBackRow.holds Tryz.pinned (OpenSpec.ofChange filterBackSpec)

/-- ITS FALSE NEIGHBOUR: 'it returns false'. Refute it at one input. -/
def filterBackWrong : ChangeSpec := { name := "filterBack", fn := fun _ => fun
  | [d1, d2] => { results := [.lit (.bool false)], args := [d1, d2] }
  | _ => none }
def FilterBackWrongFalsely : Prop := filterBackRow.holds Tryz.pinned (OpenSpec.ofChange filterBackWrong)

/- THE SECOND FORM. 'bulk': how many values and letters a reading holds, each counted each time it is reached (what is shared counts as often as it is met; a slice's spare places count too). A statement '..UptoSaid' is the law's where the arguments, and the package variables that the reading takes, are together of bulk at most 1048576: NARROWER than '..Said'. Prove '..Said' where nothing that the law and all that it calls make is longer than what came in: it says more and counts as full. Else prove '..UptoSaid'. A law counts once. -/
mutual
def uptoBulk {H : Type} : DataW H → Nat
  | .lit (.string bytes) => bytes.length + 1
  | .lit _ => 1
  | .nil => 1
  | .ptr d => uptoBulk d + 1
  | .slice elems spare => uptoBulkAll elems + uptoBulkAll spare + 1
  | .agg parts => uptoBulkAll parts + 1
  | .iface _ d => uptoBulk d + 1
  | .map entries => uptoBulkEntries entries + 1
  | .held _ => 1
def uptoBulkAll {H : Type} : List (DataW H) → Nat
  | [] => 0
  | d :: r => uptoBulk d + uptoBulkAll r
def uptoBulkEntries {H : Type} : List (Lit × DataW H) → Nat
  | [] => 0
  | x :: r => uptoBulkEntry x + uptoBulkEntries r
def uptoBulkEntry {H : Type} : Lit × DataW H → Nat
  | (.string bytes, d) => bytes.length + uptoBulk d + 1
  | (_, d) => uptoBulk d + 1
 end
def uptoSmall : (H : Type) → List (DataW H) → Bool := fun _ ds => decide (uptoBulkAll ds ≤ 1048576)
def OpenSpec.upto (s : _root_.Go.ChangeSpec) : _root_.Go.OpenSpec := { _root_.Go.OpenSpec.ofChange s with cond := some uptoSmall }

/-- 'moveoutlaw05.FilterTaps', WHERE WHAT IT READS IS OF BULK AT MOST 1048576: true; the input reads as it did. -/
def filterTapsUptoRow : OpenClaim := { program := "ytbgldbmgjcgepaagreatdoor", sum := "2515422539c530eb5102dbbbf9a6a4bf695f35e11cee84b241c73c527c87c5ab", func := "moveout/moveoutlaw05.FilterTaps", spec := "filterTaps", inPlace := ["math.Float64bits", "math.Float64frombits", "math.archFloor", "math.archTrunc", "internal/abi.NoEscape", "internal/bytealg.MakeNoZero"], unfollowed := true, recurses := true, named := ["moveout/filter.powers", "internal/strconv.uint64pow10", "math/bits.deBruijn32tab", "math/bits.deBruijn64tab"], apart := false, laid := [("math/bits.deBruijn32tab", laid_math_bits_deBruijn32tab), ("math/bits.deBruijn64tab", laid_math_bits_deBruijn64tab), ("internal/strconv.uint64pow10", laid_internal_strconv_uint64pow10), ("moveout/filter.powers", laid_moveout_filter_powers)], narrowed := true }
def FilterTapsUptoSaid : Prop := filterTapsUptoRow.holds Tryz.pinned (OpenSpec.upto filterTapsSpec)

/-- 'moveoutlaw05.FilterSubtracts', WHERE WHAT IT READS IS OF BULK AT MOST 1048576: true; the input reads as it did. -/
def filterSubtractsUptoRow : OpenClaim := { program := "ytbgldbmgjcgepaagreatdoor", sum := "2515422539c530eb5102dbbbf9a6a4bf695f35e11cee84b241c73c527c87c5ab", func := "moveout/moveoutlaw05.FilterSubtracts", spec := "filterSubtracts", inPlace := ["math.Float64bits", "math.Float64frombits", "math.archFloor", "math.archTrunc", "internal/abi.NoEscape", "internal/bytealg.MakeNoZero"], unfollowed := true, recurses := true, named := ["moveout/filter.powers", "internal/strconv.uint64pow10", "math/bits.deBruijn32tab", "math/bits.deBruijn64tab"], apart := false, laid := [("math/bits.deBruijn32tab", laid_math_bits_deBruijn32tab), ("math/bits.deBruijn64tab", laid_math_bits_deBruijn64tab), ("internal/strconv.uint64pow10", laid_internal_strconv_uint64pow10), ("moveout/filter.powers", laid_moveout_filter_powers)], narrowed := true }
def FilterSubtractsUptoSaid : Prop := filterSubtractsUptoRow.holds Tryz.pinned (OpenSpec.upto filterSubtractsSpec)

/-- 'moveoutlaw05.FilterWeights', WHERE WHAT IT READS IS OF BULK AT MOST 1048576: true; the input reads as it did. -/
def filterWeightsUptoRow : OpenClaim := { program := "ytbgldbmgjcgepaagreatdoor", sum := "2515422539c530eb5102dbbbf9a6a4bf695f35e11cee84b241c73c527c87c5ab", func := "moveout/moveoutlaw05.FilterWeights", spec := "filterWeights", inPlace := ["math.Float64bits", "math.Float64frombits", "math.archFloor", "math.archTrunc", "internal/abi.NoEscape", "internal/bytealg.MakeNoZero"], unfollowed := true, recurses := true, named := ["moveout/filter.powers", "internal/strconv.uint64pow10", "math/bits.deBruijn32tab", "math/bits.deBruijn64tab"], apart := false, laid := [("math/bits.deBruijn32tab", laid_math_bits_deBruijn32tab), ("math/bits.deBruijn64tab", laid_math_bits_deBruijn64tab), ("internal/strconv.uint64pow10", laid_internal_strconv_uint64pow10), ("moveout/filter.powers", laid_moveout_filter_powers)], narrowed := true }
def FilterWeightsUptoSaid : Prop := filterWeightsUptoRow.holds Tryz.pinned (OpenSpec.upto filterWeightsSpec)

/-- 'moveoutlaw05.FilterTides', WHERE WHAT IT READS IS OF BULK AT MOST 1048576: true; the input reads as it did. -/
def filterTidesUptoRow : OpenClaim := { program := "ytbgldbmgjcgepaagreatdoor", sum := "2515422539c530eb5102dbbbf9a6a4bf695f35e11cee84b241c73c527c87c5ab", func := "moveout/moveoutlaw05.FilterTides", spec := "filterTides", inPlace := ["math.Float64bits", "math.Float64frombits", "math.archFloor", "math.archTrunc", "internal/abi.NoEscape", "internal/bytealg.MakeNoZero"], unfollowed := true, recurses := true, named := ["moveout/filter.powers", "internal/strconv.uint64pow10", "math/bits.deBruijn32tab", "math/bits.deBruijn64tab"], apart := false, laid := [("math/bits.deBruijn32tab", laid_math_bits_deBruijn32tab), ("math/bits.deBruijn64tab", laid_math_bits_deBruijn64tab), ("internal/strconv.uint64pow10", laid_internal_strconv_uint64pow10), ("moveout/filter.powers", laid_moveout_filter_powers)], narrowed := true }
def FilterTidesUptoSaid : Prop := filterTidesUptoRow.holds Tryz.pinned (OpenSpec.upto filterTidesSpec)

/-- 'moveoutlaw05.FilterAdjoint', WHERE WHAT IT READS IS OF BULK AT MOST 1048576: true; the input reads as it did. -/
def filterAdjointUptoRow : OpenClaim := { program := "ytbgldbmgjcgepaagreatdoor", sum := "2515422539c530eb5102dbbbf9a6a4bf695f35e11cee84b241c73c527c87c5ab", func := "moveout/moveoutlaw05.FilterAdjoint", spec := "filterAdjoint", inPlace := ["math.Float64bits", "math.Float64frombits", "math.archFloor", "math.archTrunc", "internal/abi.NoEscape", "internal/bytealg.MakeNoZero"], unfollowed := true, recurses := true, named := ["moveout/filter.powers", "internal/strconv.uint64pow10", "math/bits.deBruijn32tab", "math/bits.deBruijn64tab"], apart := false, laid := [("math/bits.deBruijn32tab", laid_math_bits_deBruijn32tab), ("math/bits.deBruijn64tab", laid_math_bits_deBruijn64tab), ("internal/strconv.uint64pow10", laid_internal_strconv_uint64pow10), ("moveout/filter.powers", laid_moveout_filter_powers)], narrowed := true }
def FilterAdjointUptoSaid : Prop := filterAdjointUptoRow.holds Tryz.pinned (OpenSpec.upto filterAdjointSpec)

/-- 'moveoutlaw05.FilterKept', WHERE WHAT IT READS IS OF BULK AT MOST 1048576: true; the input reads as it did. -/
def filterKeptUptoRow : OpenClaim := { program := "ytbgldbmgjcgepaagreatdoor", sum := "2515422539c530eb5102dbbbf9a6a4bf695f35e11cee84b241c73c527c87c5ab", func := "moveout/moveoutlaw05.FilterKept", spec := "filterKept", inPlace := ["math.Float64bits", "math.Float64frombits", "math.archFloor", "math.archTrunc", "internal/abi.NoEscape", "internal/bytealg.MakeNoZero"], unfollowed := true, recurses := true, named := ["moveout/filter.powers", "internal/strconv.uint64pow10", "math/bits.deBruijn32tab", "math/bits.deBruijn64tab"], apart := false, laid := [("math/bits.deBruijn32tab", laid_math_bits_deBruijn32tab), ("math/bits.deBruijn64tab", laid_math_bits_deBruijn64tab), ("internal/strconv.uint64pow10", laid_internal_strconv_uint64pow10), ("moveout/filter.powers", laid_moveout_filter_powers)], narrowed := true }
def FilterKeptUptoSaid : Prop := filterKeptUptoRow.holds Tryz.pinned (OpenSpec.upto filterKeptSpec)

/-- 'moveoutlaw05.FilterPredicts', WHERE WHAT IT READS IS OF BULK AT MOST 1048576: true; the input reads as it did. -/
def filterPredictsUptoRow : OpenClaim := { program := "ytbgldbmgjcgepaagreatdoor", sum := "2515422539c530eb5102dbbbf9a6a4bf695f35e11cee84b241c73c527c87c5ab", func := "moveout/moveoutlaw05.FilterPredicts", spec := "filterPredicts", inPlace := ["math.Float64bits", "math.Float64frombits", "math.archFloor", "math.archTrunc", "internal/abi.NoEscape", "internal/bytealg.MakeNoZero"], unfollowed := true, recurses := true, named := ["moveout/filter.powers", "internal/strconv.uint64pow10", "math/bits.deBruijn32tab", "math/bits.deBruijn64tab"], apart := false, laid := [("math/bits.deBruijn32tab", laid_math_bits_deBruijn32tab), ("math/bits.deBruijn64tab", laid_math_bits_deBruijn64tab), ("internal/strconv.uint64pow10", laid_internal_strconv_uint64pow10), ("moveout/filter.powers", laid_moveout_filter_powers)], narrowed := true }
def FilterPredictsUptoSaid : Prop := filterPredictsUptoRow.holds Tryz.pinned (OpenSpec.upto filterPredictsSpec)

/-- 'moveoutlaw05.FilterLeast', WHERE WHAT IT READS IS OF BULK AT MOST 1048576: true; the input reads as it did. -/
def filterLeastUptoRow : OpenClaim := { program := "ytbgldbmgjcgepaagreatdoor", sum := "2515422539c530eb5102dbbbf9a6a4bf695f35e11cee84b241c73c527c87c5ab", func := "moveout/moveoutlaw05.FilterLeast", spec := "filterLeast", inPlace := ["math.Float64bits", "math.Float64frombits", "math.archFloor", "math.archTrunc", "internal/abi.NoEscape", "internal/bytealg.MakeNoZero"], unfollowed := true, recurses := true, named := ["moveout/filter.powers", "internal/strconv.uint64pow10", "math/bits.deBruijn32tab", "math/bits.deBruijn64tab"], apart := false, laid := [("math/bits.deBruijn32tab", laid_math_bits_deBruijn32tab), ("math/bits.deBruijn64tab", laid_math_bits_deBruijn64tab), ("internal/strconv.uint64pow10", laid_internal_strconv_uint64pow10), ("moveout/filter.powers", laid_moveout_filter_powers)], narrowed := true }
def FilterLeastUptoSaid : Prop := filterLeastUptoRow.holds Tryz.pinned (OpenSpec.upto filterLeastSpec)

/-- 'moveoutlaw05.FilterGhosts', WHERE WHAT IT READS IS OF BULK AT MOST 1048576: true; the input reads as it did. -/
def filterGhostsUptoRow : OpenClaim := { program := "ytbgldbmgjcgepaagreatdoor", sum := "2515422539c530eb5102dbbbf9a6a4bf695f35e11cee84b241c73c527c87c5ab", func := "moveout/moveoutlaw05.FilterGhosts", spec := "filterGhosts", inPlace := ["math.Float64bits", "math.Float64frombits", "math.archFloor", "math.archTrunc", "internal/abi.NoEscape", "internal/bytealg.MakeNoZero"], unfollowed := true, recurses := true, named := ["moveout/filter.powers", "internal/strconv.uint64pow10", "math/bits.deBruijn32tab", "math/bits.deBruijn64tab"], apart := false, laid := [("math/bits.deBruijn32tab", laid_math_bits_deBruijn32tab), ("math/bits.deBruijn64tab", laid_math_bits_deBruijn64tab), ("internal/strconv.uint64pow10", laid_internal_strconv_uint64pow10), ("moveout/filter.powers", laid_moveout_filter_powers)], narrowed := true }
def FilterGhostsUptoSaid : Prop := filterGhostsUptoRow.holds Tryz.pinned (OpenSpec.upto filterGhostsSpec)

/-- 'moveoutlaw05.FilterUndone', WHERE WHAT IT READS IS OF BULK AT MOST 1048576: true; the input reads as it did. -/
def filterUndoneUptoRow : OpenClaim := { program := "ytbgldbmgjcgepaagreatdoor", sum := "2515422539c530eb5102dbbbf9a6a4bf695f35e11cee84b241c73c527c87c5ab", func := "moveout/moveoutlaw05.FilterUndone", spec := "filterUndone", inPlace := ["math.Float64bits", "math.Float64frombits", "math.archFloor", "math.archTrunc", "internal/abi.NoEscape", "internal/bytealg.MakeNoZero"], unfollowed := true, recurses := true, named := ["moveout/filter.powers", "internal/strconv.uint64pow10", "math/bits.deBruijn32tab", "math/bits.deBruijn64tab"], apart := false, laid := [("math/bits.deBruijn32tab", laid_math_bits_deBruijn32tab), ("math/bits.deBruijn64tab", laid_math_bits_deBruijn64tab), ("internal/strconv.uint64pow10", laid_internal_strconv_uint64pow10), ("moveout/filter.powers", laid_moveout_filter_powers)], narrowed := true }
def FilterUndoneUptoSaid : Prop := filterUndoneUptoRow.holds Tryz.pinned (OpenSpec.upto filterUndoneSpec)

/-- 'moveoutlaw05.FilterShots', WHERE WHAT IT READS IS OF BULK AT MOST 1048576: true; the input reads as it did. -/
def filterShotsUptoRow : OpenClaim := { program := "ytbgldbmgjcgepaagreatdoor", sum := "2515422539c530eb5102dbbbf9a6a4bf695f35e11cee84b241c73c527c87c5ab", func := "moveout/moveoutlaw05.FilterShots", spec := "filterShots", inPlace := ["math.Float64bits", "math.Float64frombits", "math.archFloor", "math.archTrunc", "internal/abi.NoEscape", "internal/bytealg.MakeNoZero"], unfollowed := true, recurses := true, named := ["moveout/filter.powers", "internal/strconv.uint64pow10", "math/bits.deBruijn32tab", "math/bits.deBruijn64tab", "moveout/trace.ranges"], apart := false, laid := [("math/bits.deBruijn32tab", laid_math_bits_deBruijn32tab), ("math/bits.deBruijn64tab", laid_math_bits_deBruijn64tab), ("internal/strconv.uint64pow10", laid_internal_strconv_uint64pow10), ("moveout/trace.ranges", laid_moveout_trace_ranges), ("moveout/filter.powers", laid_moveout_filter_powers)], narrowed := true }
def FilterShotsUptoSaid : Prop := filterShotsUptoRow.holds Tryz.pinned (OpenSpec.upto filterShotsSpec)

/-- 'moveoutlaw05.FilterHoles', WHERE WHAT IT READS IS OF BULK AT MOST 1048576: true; the input reads as it did. -/
def filterHolesUptoRow : OpenClaim := { program := "ytbgldbmgjcgepaagreatdoor", sum := "2515422539c530eb5102dbbbf9a6a4bf695f35e11cee84b241c73c527c87c5ab", func := "moveout/moveoutlaw05.FilterHoles", spec := "filterHoles", inPlace := ["math.Float64bits", "math.Float64frombits", "math.archFloor", "math.archTrunc", "internal/abi.NoEscape", "internal/bytealg.MakeNoZero"], unfollowed := true, recurses := true, named := ["moveout/filter.powers", "internal/strconv.uint64pow10", "math/bits.deBruijn32tab", "math/bits.deBruijn64tab", "moveout/trace.ranges"], apart := false, laid := [("math/bits.deBruijn32tab", laid_math_bits_deBruijn32tab), ("math/bits.deBruijn64tab", laid_math_bits_deBruijn64tab), ("internal/strconv.uint64pow10", laid_internal_strconv_uint64pow10), ("moveout/trace.ranges", laid_moveout_trace_ranges), ("moveout/filter.powers", laid_moveout_filter_powers)], narrowed := true }
def FilterHolesUptoSaid : Prop := filterHolesUptoRow.holds Tryz.pinned (OpenSpec.upto filterHolesSpec)

/-- 'moveoutlaw05.FilterTexts', WHERE WHAT IT READS IS OF BULK AT MOST 1048576: true; the input reads as it did. -/
def filterTextsUptoRow : OpenClaim := { program := "ytbgldbmgjcgepaagreatdoor", sum := "2515422539c530eb5102dbbbf9a6a4bf695f35e11cee84b241c73c527c87c5ab", func := "moveout/moveoutlaw05.FilterTexts", spec := "filterTexts", inPlace := ["math.Float64bits", "math.Float64frombits", "math.archFloor", "math.archTrunc", "internal/abi.NoEscape", "internal/bytealg.MakeNoZero", "internal/bytealg.CountString", "internal/bytealg.IndexByteString", "internal/bytealg.IndexString"], unfollowed := true, recurses := true, named := ["moveout/filter.powers", "internal/strconv.uint64pow10", "math/bits.deBruijn32tab", "math/bits.deBruijn64tab", "unicode/utf8.first", "unicode/utf8.acceptRanges", "internal/bytealg.MaxLen", "strconv.ErrSyntax", "strconv.ErrRange"], apart := false, laid := [("math/bits.deBruijn32tab", laid_math_bits_deBruijn32tab), ("math/bits.deBruijn64tab", laid_math_bits_deBruijn64tab), ("internal/strconv.uint64pow10", laid_internal_strconv_uint64pow10), ("unicode/utf8.acceptRanges", laid_unicode_utf8_acceptRanges), ("strconv.ErrRange", laid_strconv_ErrRange), ("strconv.ErrSyntax", laid_strconv_ErrSyntax), ("moveout/filter.powers", laid_moveout_filter_powers), ("unicode/utf8.first", laid_unicode_utf8_first)], narrowed := true }
def FilterTextsUptoSaid : Prop := filterTextsUptoRow.holds Tryz.pinned (OpenSpec.upto filterTextsSpec)

/-- 'moveoutlaw05.FilterBack', WHERE WHAT IT READS IS OF BULK AT MOST 1048576: true; the input reads as it did. -/
def filterBackUptoRow : OpenClaim := { program := "ytbgldbmgjcgepaagreatdoor", sum := "2515422539c530eb5102dbbbf9a6a4bf695f35e11cee84b241c73c527c87c5ab", func := "moveout/moveoutlaw05.FilterBack", spec := "filterBack", inPlace := ["math.Float64bits", "math.Float64frombits", "math.archFloor", "math.archTrunc", "internal/abi.NoEscape", "internal/bytealg.MakeNoZero", "internal/bytealg.CountString", "internal/bytealg.IndexByteString", "internal/bytealg.IndexString"], unfollowed := true, recurses := true, named := ["moveout/filter.powers", "internal/strconv.uint64pow10", "math/bits.deBruijn32tab", "math/bits.deBruijn64tab", "unicode/utf8.first", "unicode/utf8.acceptRanges", "internal/bytealg.MaxLen", "strconv.ErrSyntax", "strconv.ErrRange"], apart := false, laid := [("math/bits.deBruijn32tab", laid_math_bits_deBruijn32tab), ("math/bits.deBruijn64tab", laid_math_bits_deBruijn64tab), ("internal/strconv.uint64pow10", laid_internal_strconv_uint64pow10), ("unicode/utf8.acceptRanges", laid_unicode_utf8_acceptRanges), ("strconv.ErrRange", laid_strconv_ErrRange), ("strconv.ErrSyntax", laid_strconv_ErrSyntax), ("moveout/filter.powers", laid_moveout_filter_powers), ("unicode/utf8.first", laid_unicode_utf8_first)], narrowed := true }
def FilterBackUptoSaid : Prop := filterBackUptoRow.holds Tryz.pinned (OpenSpec.upto filterBackSpec)

end Rows
end Go.Proofs.YtbgldbmgjcgepaaGreatDoor
