/-
  NARROWER THAN 'FOR EVERY INPUT', by the rows' own cells (each row's printed sentence says how): HorizonPicks: laid · HorizonFaults: laid · HorizonDepths: laid · HorizonMaps: laid · HorizonColumns: laid · HorizonLines: laid · HorizonCloses: laid · HorizonLapse: laid · HorizonGround: laid · HorizonOrders: laid · HorizonTexts: laid · HorizonBack: laid.
  DERIVED. THE GIVEN ROWS OF THIS SEAT. 12 by the template 'for every input the law returns true; each argument reads behind the call as it read before'; 0 by the template 'total and deterministic' (their statements: YtjhdkimkijhloaaGreatDoorTotals.lean).
  GIVEN WITH THE SEED: the statements are not yours to turn. If you find one false, say at which input.
  Laid BY PROGRAM, IN A SANDBOX (cutbox-rows.mjs): the forced cells as the released guide's own fill.sh prints them over the translation a2806bb2d27a3dd0… (all of the seat's roots in one cut). By AI agents, Wed Nov 11 2026. No macro, syntax, notation, axiom, sorry.
-/
import Derived.Test.YtjhdkimkijhloaaGreatDoorChecked
import GoSem.PinnedTables
import GoSem.Claim
import GoSem.ClaimJoined
import GoSem.ClaimMapViews
import Derived.JoinedTies
import Derived.KernelRfl
namespace Go.Proofs.YtjhdkimkijhloaaGreatDoor
/- THE CELL 'sum', in the pinned program and in every row, IS THE sha256 OF THE DUMP (.gsa) THAT YtjhdkimkijhloaaGreatDoorProg.lean LOADS. Nothing in Lean hashes anything: it is a label: what it is worth is what the hold of that sum in a sandbox is worth. -/
noncomputable def Tryz.pinned : Pinned := { name := "ytjhdkimkijhloaagreatdoor", sum := "a2806bb2d27a3dd02006ae81c09f37da57d897f7acfa529abde21fe76de3fd25", checked := Tryz.checked }
namespace Rows
def none {H : Type} : Left H := { results := [], args := [] }

/- WHAT THE LISTED PACKAGE-LEVEL VARIABLES READ AS WHEN THE CALL BEGINS. Each datum BY PROGRAM (the guide's laid-datum.mjs) off the statement by which the dump's own 'gosem.cut.vars' lays the variable. In a bare row this is a premise. The card (YtjhdkimkijhloaaGreatDoorCards.lean) ties it to the program's text. -/
def laid_math_bits_deBruijn32tab {H : Type} : DataW H := .agg [.lit (.int .u8 0), .lit (.int .u8 1), .lit (.int .u8 28), .lit (.int .u8 2), .lit (.int .u8 29), .lit (.int .u8 14), .lit (.int .u8 24), .lit (.int .u8 3), .lit (.int .u8 30), .lit (.int .u8 22), .lit (.int .u8 20), .lit (.int .u8 15), .lit (.int .u8 25), .lit (.int .u8 17), .lit (.int .u8 4), .lit (.int .u8 8), .lit (.int .u8 31), .lit (.int .u8 27), .lit (.int .u8 13), .lit (.int .u8 23), .lit (.int .u8 21), .lit (.int .u8 19), .lit (.int .u8 16), .lit (.int .u8 7), .lit (.int .u8 26), .lit (.int .u8 12), .lit (.int .u8 18), .lit (.int .u8 6), .lit (.int .u8 11), .lit (.int .u8 5), .lit (.int .u8 10), .lit (.int .u8 9)]
def laid_math_bits_deBruijn64tab {H : Type} : DataW H := .agg [.lit (.int .u8 0), .lit (.int .u8 1), .lit (.int .u8 56), .lit (.int .u8 2), .lit (.int .u8 57), .lit (.int .u8 49), .lit (.int .u8 28), .lit (.int .u8 3), .lit (.int .u8 61), .lit (.int .u8 58), .lit (.int .u8 42), .lit (.int .u8 50), .lit (.int .u8 38), .lit (.int .u8 29), .lit (.int .u8 17), .lit (.int .u8 4), .lit (.int .u8 62), .lit (.int .u8 47), .lit (.int .u8 59), .lit (.int .u8 36), .lit (.int .u8 45), .lit (.int .u8 43), .lit (.int .u8 51), .lit (.int .u8 22), .lit (.int .u8 53), .lit (.int .u8 39), .lit (.int .u8 33), .lit (.int .u8 30), .lit (.int .u8 24), .lit (.int .u8 18), .lit (.int .u8 12), .lit (.int .u8 5), .lit (.int .u8 63), .lit (.int .u8 55), .lit (.int .u8 48), .lit (.int .u8 27), .lit (.int .u8 60), .lit (.int .u8 41), .lit (.int .u8 37), .lit (.int .u8 16), .lit (.int .u8 46), .lit (.int .u8 35), .lit (.int .u8 44), .lit (.int .u8 21), .lit (.int .u8 52), .lit (.int .u8 32), .lit (.int .u8 23), .lit (.int .u8 11), .lit (.int .u8 54), .lit (.int .u8 26), .lit (.int .u8 40), .lit (.int .u8 15), .lit (.int .u8 34), .lit (.int .u8 20), .lit (.int .u8 31), .lit (.int .u8 10), .lit (.int .u8 25), .lit (.int .u8 14), .lit (.int .u8 19), .lit (.int .u8 9), .lit (.int .u8 13), .lit (.int .u8 8), .lit (.int .u8 7), .lit (.int .u8 6)]
def laid_internal_strconv_uint64pow10 {H : Type} : DataW H := .agg [.lit (.int .u64 1), .lit (.int .u64 10), .lit (.int .u64 100), .lit (.int .u64 1000), .lit (.int .u64 10000), .lit (.int .u64 100000), .lit (.int .u64 1000000), .lit (.int .u64 10000000), .lit (.int .u64 100000000), .lit (.int .u64 1000000000), .lit (.int .u64 10000000000), .lit (.int .u64 100000000000), .lit (.int .u64 1000000000000), .lit (.int .u64 10000000000000), .lit (.int .u64 100000000000000), .lit (.int .u64 1000000000000000), .lit (.int .u64 10000000000000000), .lit (.int .u64 100000000000000000), .lit (.int .u64 1000000000000000000), .lit (.int .u64 10000000000000000000)]
def laid_moveout_horizon_steps {H : Type} : DataW H := .agg [.agg [.lit (.int .i64 (-1)), .lit (.int .i64 0)], .agg [.lit (.int .i64 1), .lit (.int .i64 0)], .agg [.lit (.int .i64 0), .lit (.int .i64 (-1))], .agg [.lit (.int .i64 0), .lit (.int .i64 1)]]
def laid_unicode_utf8_acceptRanges {H : Type} : DataW H := .agg [.agg [.lit (.int .u8 128), .lit (.int .u8 191)], .agg [.lit (.int .u8 160), .lit (.int .u8 191)], .agg [.lit (.int .u8 128), .lit (.int .u8 159)], .agg [.lit (.int .u8 144), .lit (.int .u8 191)], .agg [.lit (.int .u8 128), .lit (.int .u8 143)], .agg [.lit (.int .u8 0), .lit (.int .u8 0)], .agg [.lit (.int .u8 0), .lit (.int .u8 0)], .agg [.lit (.int .u8 0), .lit (.int .u8 0)], .agg [.lit (.int .u8 0), .lit (.int .u8 0)], .agg [.lit (.int .u8 0), .lit (.int .u8 0)], .agg [.lit (.int .u8 0), .lit (.int .u8 0)], .agg [.lit (.int .u8 0), .lit (.int .u8 0)], .agg [.lit (.int .u8 0), .lit (.int .u8 0)], .agg [.lit (.int .u8 0), .lit (.int .u8 0)], .agg [.lit (.int .u8 0), .lit (.int .u8 0)], .agg [.lit (.int .u8 0), .lit (.int .u8 0)]]
/-- One of Go's own tables, pinned by name: the form's constant. -/
def laid_unicode_utf8_first : DataW Unit := Go.Pinned.utf8First

/-- 'moveoutlaw08.HorizonPicks': WHATEVER THE INPUT: true; the input reads as it did. -/
def horizonPicksSpec : ChangeSpec := { name := "horizonPicks", fn := fun _ => fun
  | [d1, d2, d3] => { results := [.lit (.bool true)], args := [d1, d2, d3] }
  | _ => none }
def horizonPicksRow : OpenClaim := { program := "ytjhdkimkijhloaagreatdoor", sum := "a2806bb2d27a3dd02006ae81c09f37da57d897f7acfa529abde21fe76de3fd25", func := "moveout/moveoutlaw08.HorizonPicks", spec := "horizonPicks", inPlace := ["internal/abi.NoEscape", "internal/bytealg.MakeNoZero"], unfollowed := true, recurses := true, named := ["moveout/horizon.steps", "internal/strconv.uint64pow10", "math/bits.deBruijn32tab", "math/bits.deBruijn64tab"], apart := false, laid := [("math/bits.deBruijn32tab", laid_math_bits_deBruijn32tab), ("math/bits.deBruijn64tab", laid_math_bits_deBruijn64tab), ("internal/strconv.uint64pow10", laid_internal_strconv_uint64pow10), ("moveout/horizon.steps", laid_moveout_horizon_steps)] }
def HorizonPicksSaid : Prop := horizonPicksRow.holds Tryz.pinned (OpenSpec.ofChange horizonPicksSpec)

/-- ITS FALSE NEIGHBOUR: 'it returns false'. Refute it at one input. -/
def horizonPicksWrong : ChangeSpec := { name := "horizonPicks", fn := fun _ => fun
  | [d1, d2, d3] => { results := [.lit (.bool false)], args := [d1, d2, d3] }
  | _ => none }
def HorizonPicksWrongFalsely : Prop := horizonPicksRow.holds Tryz.pinned (OpenSpec.ofChange horizonPicksWrong)

/-- 'moveoutlaw08.HorizonFaults': WHATEVER THE INPUT: true; the input reads as it did. -/
def horizonFaultsSpec : ChangeSpec := { name := "horizonFaults", fn := fun _ => fun
  | [d1, d2, d3] => { results := [.lit (.bool true)], args := [d1, d2, d3] }
  | _ => none }
def horizonFaultsRow : OpenClaim := { program := "ytjhdkimkijhloaagreatdoor", sum := "a2806bb2d27a3dd02006ae81c09f37da57d897f7acfa529abde21fe76de3fd25", func := "moveout/moveoutlaw08.HorizonFaults", spec := "horizonFaults", inPlace := ["internal/abi.NoEscape", "internal/bytealg.MakeNoZero"], unfollowed := true, recurses := true, named := ["moveout/horizon.steps", "internal/strconv.uint64pow10", "math/bits.deBruijn32tab", "math/bits.deBruijn64tab"], apart := false, laid := [("math/bits.deBruijn32tab", laid_math_bits_deBruijn32tab), ("math/bits.deBruijn64tab", laid_math_bits_deBruijn64tab), ("internal/strconv.uint64pow10", laid_internal_strconv_uint64pow10), ("moveout/horizon.steps", laid_moveout_horizon_steps)] }
def HorizonFaultsSaid : Prop := horizonFaultsRow.holds Tryz.pinned (OpenSpec.ofChange horizonFaultsSpec)

/-- ITS FALSE NEIGHBOUR: 'it returns false'. Refute it at one input. -/
def horizonFaultsWrong : ChangeSpec := { name := "horizonFaults", fn := fun _ => fun
  | [d1, d2, d3] => { results := [.lit (.bool false)], args := [d1, d2, d3] }
  | _ => none }
def HorizonFaultsWrongFalsely : Prop := horizonFaultsRow.holds Tryz.pinned (OpenSpec.ofChange horizonFaultsWrong)

/-- 'moveoutlaw08.HorizonDepths': WHATEVER THE INPUT: true; the input reads as it did. -/
def horizonDepthsSpec : ChangeSpec := { name := "horizonDepths", fn := fun _ => fun
  | [d1, d2] => { results := [.lit (.bool true)], args := [d1, d2] }
  | _ => none }
def horizonDepthsRow : OpenClaim := { program := "ytjhdkimkijhloaagreatdoor", sum := "a2806bb2d27a3dd02006ae81c09f37da57d897f7acfa529abde21fe76de3fd25", func := "moveout/moveoutlaw08.HorizonDepths", spec := "horizonDepths", inPlace := ["internal/abi.NoEscape", "internal/bytealg.MakeNoZero"], unfollowed := true, recurses := true, named := ["moveout/horizon.steps", "internal/strconv.uint64pow10", "math/bits.deBruijn32tab", "math/bits.deBruijn64tab"], apart := false, laid := [("math/bits.deBruijn32tab", laid_math_bits_deBruijn32tab), ("math/bits.deBruijn64tab", laid_math_bits_deBruijn64tab), ("internal/strconv.uint64pow10", laid_internal_strconv_uint64pow10), ("moveout/horizon.steps", laid_moveout_horizon_steps)] }
def HorizonDepthsSaid : Prop := horizonDepthsRow.holds Tryz.pinned (OpenSpec.ofChange horizonDepthsSpec)

/-- ITS FALSE NEIGHBOUR: 'it returns false'. Refute it at one input. -/
def horizonDepthsWrong : ChangeSpec := { name := "horizonDepths", fn := fun _ => fun
  | [d1, d2] => { results := [.lit (.bool false)], args := [d1, d2] }
  | _ => none }
def HorizonDepthsWrongFalsely : Prop := horizonDepthsRow.holds Tryz.pinned (OpenSpec.ofChange horizonDepthsWrong)

/-- 'moveoutlaw08.HorizonMaps': WHATEVER THE INPUT: true; the input reads as it did. -/
def horizonMapsSpec : ChangeSpec := { name := "horizonMaps", fn := fun _ => fun
  | [d1, d2, d3] => { results := [.lit (.bool true)], args := [d1, d2, d3] }
  | _ => none }
def horizonMapsRow : OpenClaim := { program := "ytjhdkimkijhloaagreatdoor", sum := "a2806bb2d27a3dd02006ae81c09f37da57d897f7acfa529abde21fe76de3fd25", func := "moveout/moveoutlaw08.HorizonMaps", spec := "horizonMaps", inPlace := ["internal/abi.NoEscape", "internal/bytealg.MakeNoZero"], unfollowed := true, recurses := true, named := ["moveout/horizon.steps", "internal/strconv.uint64pow10", "math/bits.deBruijn32tab", "math/bits.deBruijn64tab"], apart := false, laid := [("math/bits.deBruijn32tab", laid_math_bits_deBruijn32tab), ("math/bits.deBruijn64tab", laid_math_bits_deBruijn64tab), ("internal/strconv.uint64pow10", laid_internal_strconv_uint64pow10), ("moveout/horizon.steps", laid_moveout_horizon_steps)] }
def HorizonMapsSaid : Prop := horizonMapsRow.holds Tryz.pinned (OpenSpec.ofChange horizonMapsSpec)

/-- ITS FALSE NEIGHBOUR: 'it returns false'. Refute it at one input. -/
def horizonMapsWrong : ChangeSpec := { name := "horizonMaps", fn := fun _ => fun
  | [d1, d2, d3] => { results := [.lit (.bool false)], args := [d1, d2, d3] }
  | _ => none }
def HorizonMapsWrongFalsely : Prop := horizonMapsRow.holds Tryz.pinned (OpenSpec.ofChange horizonMapsWrong)

/-- 'moveoutlaw08.HorizonColumns': WHATEVER THE INPUT: true; the input reads as it did. -/
def horizonColumnsSpec : ChangeSpec := { name := "horizonColumns", fn := fun _ => fun
  | [d1, d2, d3] => { results := [.lit (.bool true)], args := [d1, d2, d3] }
  | _ => none }
def horizonColumnsRow : OpenClaim := { program := "ytjhdkimkijhloaagreatdoor", sum := "a2806bb2d27a3dd02006ae81c09f37da57d897f7acfa529abde21fe76de3fd25", func := "moveout/moveoutlaw08.HorizonColumns", spec := "horizonColumns", inPlace := ["internal/abi.NoEscape", "internal/bytealg.MakeNoZero"], unfollowed := true, recurses := true, named := ["moveout/horizon.steps", "internal/strconv.uint64pow10", "math/bits.deBruijn32tab", "math/bits.deBruijn64tab"], apart := false, laid := [("math/bits.deBruijn32tab", laid_math_bits_deBruijn32tab), ("math/bits.deBruijn64tab", laid_math_bits_deBruijn64tab), ("internal/strconv.uint64pow10", laid_internal_strconv_uint64pow10), ("moveout/horizon.steps", laid_moveout_horizon_steps)] }
def HorizonColumnsSaid : Prop := horizonColumnsRow.holds Tryz.pinned (OpenSpec.ofChange horizonColumnsSpec)

/-- ITS FALSE NEIGHBOUR: 'it returns false'. Refute it at one input. -/
def horizonColumnsWrong : ChangeSpec := { name := "horizonColumns", fn := fun _ => fun
  | [d1, d2, d3] => { results := [.lit (.bool false)], args := [d1, d2, d3] }
  | _ => none }
def HorizonColumnsWrongFalsely : Prop := horizonColumnsRow.holds Tryz.pinned (OpenSpec.ofChange horizonColumnsWrong)

/-- 'moveoutlaw08.HorizonLines': WHATEVER THE INPUT: true; the input reads as it did. -/
def horizonLinesSpec : ChangeSpec := { name := "horizonLines", fn := fun _ => fun
  | [d1, d2, d3] => { results := [.lit (.bool true)], args := [d1, d2, d3] }
  | _ => none }
def horizonLinesRow : OpenClaim := { program := "ytjhdkimkijhloaagreatdoor", sum := "a2806bb2d27a3dd02006ae81c09f37da57d897f7acfa529abde21fe76de3fd25", func := "moveout/moveoutlaw08.HorizonLines", spec := "horizonLines", inPlace := ["internal/abi.NoEscape", "internal/bytealg.MakeNoZero"], unfollowed := true, recurses := true, named := ["moveout/horizon.steps", "internal/strconv.uint64pow10", "math/bits.deBruijn32tab", "math/bits.deBruijn64tab"], apart := false, laid := [("math/bits.deBruijn32tab", laid_math_bits_deBruijn32tab), ("math/bits.deBruijn64tab", laid_math_bits_deBruijn64tab), ("internal/strconv.uint64pow10", laid_internal_strconv_uint64pow10), ("moveout/horizon.steps", laid_moveout_horizon_steps)] }
def HorizonLinesSaid : Prop := horizonLinesRow.holds Tryz.pinned (OpenSpec.ofChange horizonLinesSpec)

/-- ITS FALSE NEIGHBOUR: 'it returns false'. Refute it at one input. -/
def horizonLinesWrong : ChangeSpec := { name := "horizonLines", fn := fun _ => fun
  | [d1, d2, d3] => { results := [.lit (.bool false)], args := [d1, d2, d3] }
  | _ => none }
def HorizonLinesWrongFalsely : Prop := horizonLinesRow.holds Tryz.pinned (OpenSpec.ofChange horizonLinesWrong)

/-- 'moveoutlaw08.HorizonCloses': WHATEVER THE INPUT: true; the input reads as it did. -/
def horizonClosesSpec : ChangeSpec := { name := "horizonCloses", fn := fun _ => fun
  | [d1, d2, d3] => { results := [.lit (.bool true)], args := [d1, d2, d3] }
  | _ => none }
def horizonClosesRow : OpenClaim := { program := "ytjhdkimkijhloaagreatdoor", sum := "a2806bb2d27a3dd02006ae81c09f37da57d897f7acfa529abde21fe76de3fd25", func := "moveout/moveoutlaw08.HorizonCloses", spec := "horizonCloses", inPlace := ["internal/abi.NoEscape", "internal/bytealg.MakeNoZero"], unfollowed := true, recurses := true, named := ["moveout/horizon.steps", "internal/strconv.uint64pow10", "math/bits.deBruijn32tab", "math/bits.deBruijn64tab"], apart := false, laid := [("math/bits.deBruijn32tab", laid_math_bits_deBruijn32tab), ("math/bits.deBruijn64tab", laid_math_bits_deBruijn64tab), ("internal/strconv.uint64pow10", laid_internal_strconv_uint64pow10), ("moveout/horizon.steps", laid_moveout_horizon_steps)] }
def HorizonClosesSaid : Prop := horizonClosesRow.holds Tryz.pinned (OpenSpec.ofChange horizonClosesSpec)

/-- ITS FALSE NEIGHBOUR: 'it returns false'. Refute it at one input. -/
def horizonClosesWrong : ChangeSpec := { name := "horizonCloses", fn := fun _ => fun
  | [d1, d2, d3] => { results := [.lit (.bool false)], args := [d1, d2, d3] }
  | _ => none }
def HorizonClosesWrongFalsely : Prop := horizonClosesRow.holds Tryz.pinned (OpenSpec.ofChange horizonClosesWrong)

/-- 'moveoutlaw08.HorizonLapse': WHATEVER THE INPUT: true; the input reads as it did. -/
def horizonLapseSpec : ChangeSpec := { name := "horizonLapse", fn := fun _ => fun
  | [d1, d2, d3] => { results := [.lit (.bool true)], args := [d1, d2, d3] }
  | _ => none }
def horizonLapseRow : OpenClaim := { program := "ytjhdkimkijhloaagreatdoor", sum := "a2806bb2d27a3dd02006ae81c09f37da57d897f7acfa529abde21fe76de3fd25", func := "moveout/moveoutlaw08.HorizonLapse", spec := "horizonLapse", inPlace := ["internal/abi.NoEscape", "internal/bytealg.MakeNoZero"], unfollowed := true, recurses := true, named := ["moveout/horizon.steps", "internal/strconv.uint64pow10", "math/bits.deBruijn32tab", "math/bits.deBruijn64tab"], apart := false, laid := [("math/bits.deBruijn32tab", laid_math_bits_deBruijn32tab), ("math/bits.deBruijn64tab", laid_math_bits_deBruijn64tab), ("internal/strconv.uint64pow10", laid_internal_strconv_uint64pow10), ("moveout/horizon.steps", laid_moveout_horizon_steps)] }
def HorizonLapseSaid : Prop := horizonLapseRow.holds Tryz.pinned (OpenSpec.ofChange horizonLapseSpec)

/-- ITS FALSE NEIGHBOUR: 'it returns false'. Refute it at one input. -/
def horizonLapseWrong : ChangeSpec := { name := "horizonLapse", fn := fun _ => fun
  | [d1, d2, d3] => { results := [.lit (.bool false)], args := [d1, d2, d3] }
  | _ => none }
def HorizonLapseWrongFalsely : Prop := horizonLapseRow.holds Tryz.pinned (OpenSpec.ofChange horizonLapseWrong)

/-- 'moveoutlaw08.HorizonGround': WHATEVER THE INPUT: true; the input reads as it did. -/
def horizonGroundSpec : ChangeSpec := { name := "horizonGround", fn := fun _ => fun
  | [d1, d2, d3] => { results := [.lit (.bool true)], args := [d1, d2, d3] }
  | _ => none }
def horizonGroundRow : OpenClaim := { program := "ytjhdkimkijhloaagreatdoor", sum := "a2806bb2d27a3dd02006ae81c09f37da57d897f7acfa529abde21fe76de3fd25", func := "moveout/moveoutlaw08.HorizonGround", spec := "horizonGround", inPlace := ["internal/abi.NoEscape", "internal/bytealg.MakeNoZero"], unfollowed := true, recurses := true, named := ["moveout/horizon.steps", "internal/strconv.uint64pow10", "math/bits.deBruijn32tab", "math/bits.deBruijn64tab"], apart := false, laid := [("math/bits.deBruijn32tab", laid_math_bits_deBruijn32tab), ("math/bits.deBruijn64tab", laid_math_bits_deBruijn64tab), ("internal/strconv.uint64pow10", laid_internal_strconv_uint64pow10), ("moveout/horizon.steps", laid_moveout_horizon_steps)] }
def HorizonGroundSaid : Prop := horizonGroundRow.holds Tryz.pinned (OpenSpec.ofChange horizonGroundSpec)

/-- ITS FALSE NEIGHBOUR: 'it returns false'. Refute it at one input. -/
def horizonGroundWrong : ChangeSpec := { name := "horizonGround", fn := fun _ => fun
  | [d1, d2, d3] => { results := [.lit (.bool false)], args := [d1, d2, d3] }
  | _ => none }
def HorizonGroundWrongFalsely : Prop := horizonGroundRow.holds Tryz.pinned (OpenSpec.ofChange horizonGroundWrong)

/-- 'moveoutlaw08.HorizonOrders': WHATEVER THE INPUT: true; the input reads as it did. -/
def horizonOrdersSpec : ChangeSpec := { name := "horizonOrders", fn := fun _ => fun
  | [d1, d2, d3] => { results := [.lit (.bool true)], args := [d1, d2, d3] }
  | _ => none }
def horizonOrdersRow : OpenClaim := { program := "ytjhdkimkijhloaagreatdoor", sum := "a2806bb2d27a3dd02006ae81c09f37da57d897f7acfa529abde21fe76de3fd25", func := "moveout/moveoutlaw08.HorizonOrders", spec := "horizonOrders", inPlace := ["internal/abi.NoEscape", "internal/bytealg.MakeNoZero"], unfollowed := true, recurses := true, named := ["moveout/horizon.steps", "internal/strconv.uint64pow10", "math/bits.deBruijn32tab", "math/bits.deBruijn64tab"], apart := false, laid := [("math/bits.deBruijn32tab", laid_math_bits_deBruijn32tab), ("math/bits.deBruijn64tab", laid_math_bits_deBruijn64tab), ("internal/strconv.uint64pow10", laid_internal_strconv_uint64pow10), ("moveout/horizon.steps", laid_moveout_horizon_steps)] }
def HorizonOrdersSaid : Prop := horizonOrdersRow.holds Tryz.pinned (OpenSpec.ofChange horizonOrdersSpec)

/-- ITS FALSE NEIGHBOUR: 'it returns false'. Refute it at one input. -/
def horizonOrdersWrong : ChangeSpec := { name := "horizonOrders", fn := fun _ => fun
  | [d1, d2, d3] => { results := [.lit (.bool false)], args := [d1, d2, d3] }
  | _ => none }
def HorizonOrdersWrongFalsely : Prop := horizonOrdersRow.holds Tryz.pinned (OpenSpec.ofChange horizonOrdersWrong)

/-- 'moveoutlaw08.HorizonTexts': WHATEVER THE INPUT: true; the input reads as it did. -/
def horizonTextsSpec : ChangeSpec := { name := "horizonTexts", fn := fun _ => fun
  | [d1, d2] => { results := [.lit (.bool true)], args := [d1, d2] }
  | _ => none }
def horizonTextsRow : OpenClaim := { program := "ytjhdkimkijhloaagreatdoor", sum := "a2806bb2d27a3dd02006ae81c09f37da57d897f7acfa529abde21fe76de3fd25", func := "moveout/moveoutlaw08.HorizonTexts", spec := "horizonTexts", inPlace := ["internal/abi.NoEscape", "internal/bytealg.MakeNoZero", "internal/bytealg.IndexByteString", "internal/bytealg.CountString", "internal/bytealg.IndexString"], unfollowed := true, recurses := true, named := ["moveout/horizon.steps", "internal/strconv.uint64pow10", "math/bits.deBruijn32tab", "math/bits.deBruijn64tab", "unicode/utf8.first", "unicode/utf8.acceptRanges", "internal/bytealg.MaxLen"], apart := false, laid := [("math/bits.deBruijn32tab", laid_math_bits_deBruijn32tab), ("math/bits.deBruijn64tab", laid_math_bits_deBruijn64tab), ("internal/strconv.uint64pow10", laid_internal_strconv_uint64pow10), ("unicode/utf8.acceptRanges", laid_unicode_utf8_acceptRanges), ("moveout/horizon.steps", laid_moveout_horizon_steps), ("unicode/utf8.first", laid_unicode_utf8_first)] }
def HorizonTextsSaid : Prop := horizonTextsRow.holds Tryz.pinned (OpenSpec.ofChange horizonTextsSpec)

/-- ITS FALSE NEIGHBOUR: 'it returns false'. Refute it at one input. -/
def horizonTextsWrong : ChangeSpec := { name := "horizonTexts", fn := fun _ => fun
  | [d1, d2] => { results := [.lit (.bool false)], args := [d1, d2] }
  | _ => none }
def HorizonTextsWrongFalsely : Prop := horizonTextsRow.holds Tryz.pinned (OpenSpec.ofChange horizonTextsWrong)

/-- 'moveoutlaw08.HorizonBack': WHATEVER THE INPUT: true; the input reads as it did. -/
def horizonBackSpec : ChangeSpec := { name := "horizonBack", fn := fun _ => fun
  | [d1, d2] => { results := [.lit (.bool true)], args := [d1, d2] }
  | _ => none }
def horizonBackRow : OpenClaim := { program := "ytjhdkimkijhloaagreatdoor", sum := "a2806bb2d27a3dd02006ae81c09f37da57d897f7acfa529abde21fe76de3fd25", func := "moveout/moveoutlaw08.HorizonBack", spec := "horizonBack", inPlace := ["internal/abi.NoEscape", "internal/bytealg.MakeNoZero", "internal/bytealg.IndexByteString", "internal/bytealg.CountString", "internal/bytealg.IndexString"], unfollowed := true, recurses := true, named := ["moveout/horizon.steps", "internal/strconv.uint64pow10", "math/bits.deBruijn32tab", "math/bits.deBruijn64tab", "unicode/utf8.first", "unicode/utf8.acceptRanges", "internal/bytealg.MaxLen"], apart := false, laid := [("math/bits.deBruijn32tab", laid_math_bits_deBruijn32tab), ("math/bits.deBruijn64tab", laid_math_bits_deBruijn64tab), ("internal/strconv.uint64pow10", laid_internal_strconv_uint64pow10), ("unicode/utf8.acceptRanges", laid_unicode_utf8_acceptRanges), ("moveout/horizon.steps", laid_moveout_horizon_steps), ("unicode/utf8.first", laid_unicode_utf8_first)] }
def HorizonBackSaid : Prop := horizonBackRow.holds Tryz.pinned (OpenSpec.ofChange horizonBackSpec)

/-- ITS FALSE NEIGHBOUR: 'it returns false'. Refute it at one input. -/
def horizonBackWrong : ChangeSpec := { name := "horizonBack", fn := fun _ => fun
  | [d1, d2] => { results := [.lit (.bool false)], args := [d1, d2] }
  | _ => none }
def HorizonBackWrongFalsely : Prop := horizonBackRow.holds Tryz.pinned (OpenSpec.ofChange horizonBackWrong)

/- THE SECOND FORM. 'bulk': how many values and letters a reading holds, each counted each time it is reached (what is shared counts as often as it is met; a slice's spare places count too). A statement '..UptoSaid' is the law's where the arguments, and the package variables that the reading takes, are together of bulk at most 1048576: NARROWER than '..Said'. Prove '..Said' where nothing that the law and all that it calls make is longer than what came in: it says more and counts as full. Else prove '..UptoSaid'. A law counts once. -/
mutual
def uptoBulk {H : Type} : DataW H → Nat
  | .lit (.string bytes) => bytes.length + 1
  | .lit _ => 1
  | .nil => 1
  | .ptr d => uptoBulk d + 1
  | .slice elems spare => uptoBulkAll elems + uptoBulkAll spare + 1
  | .agg parts => uptoBulkAll parts + 1
  | .iface _ d => uptoBulk d + 1
  | .map entries => uptoBulkEntries entries + 1
  | .held _ => 1
def uptoBulkAll {H : Type} : List (DataW H) → Nat
  | [] => 0
  | d :: r => uptoBulk d + uptoBulkAll r
def uptoBulkEntries {H : Type} : List (Lit × DataW H) → Nat
  | [] => 0
  | x :: r => uptoBulkEntry x + uptoBulkEntries r
def uptoBulkEntry {H : Type} : Lit × DataW H → Nat
  | (.string bytes, d) => bytes.length + uptoBulk d + 1
  | (_, d) => uptoBulk d + 1
 end
def uptoSmall : (H : Type) → List (DataW H) → Bool := fun _ ds => decide (uptoBulkAll ds ≤ 1048576)
def OpenSpec.upto (s : _root_.Go.ChangeSpec) : _root_.Go.OpenSpec := { _root_.Go.OpenSpec.ofChange s with cond := some uptoSmall }

/-- 'moveoutlaw08.HorizonPicks', WHERE WHAT IT READS IS OF BULK AT MOST 1048576: true; the input reads as it did. -/
def horizonPicksUptoRow : OpenClaim := { program := "ytjhdkimkijhloaagreatdoor", sum := "a2806bb2d27a3dd02006ae81c09f37da57d897f7acfa529abde21fe76de3fd25", func := "moveout/moveoutlaw08.HorizonPicks", spec := "horizonPicks", inPlace := ["internal/abi.NoEscape", "internal/bytealg.MakeNoZero"], unfollowed := true, recurses := true, named := ["moveout/horizon.steps", "internal/strconv.uint64pow10", "math/bits.deBruijn32tab", "math/bits.deBruijn64tab"], apart := false, laid := [("math/bits.deBruijn32tab", laid_math_bits_deBruijn32tab), ("math/bits.deBruijn64tab", laid_math_bits_deBruijn64tab), ("internal/strconv.uint64pow10", laid_internal_strconv_uint64pow10), ("moveout/horizon.steps", laid_moveout_horizon_steps)], narrowed := true }
def HorizonPicksUptoSaid : Prop := horizonPicksUptoRow.holds Tryz.pinned (OpenSpec.upto horizonPicksSpec)

/-- 'moveoutlaw08.HorizonFaults', WHERE WHAT IT READS IS OF BULK AT MOST 1048576: true; the input reads as it did. -/
def horizonFaultsUptoRow : OpenClaim := { program := "ytjhdkimkijhloaagreatdoor", sum := "a2806bb2d27a3dd02006ae81c09f37da57d897f7acfa529abde21fe76de3fd25", func := "moveout/moveoutlaw08.HorizonFaults", spec := "horizonFaults", inPlace := ["internal/abi.NoEscape", "internal/bytealg.MakeNoZero"], unfollowed := true, recurses := true, named := ["moveout/horizon.steps", "internal/strconv.uint64pow10", "math/bits.deBruijn32tab", "math/bits.deBruijn64tab"], apart := false, laid := [("math/bits.deBruijn32tab", laid_math_bits_deBruijn32tab), ("math/bits.deBruijn64tab", laid_math_bits_deBruijn64tab), ("internal/strconv.uint64pow10", laid_internal_strconv_uint64pow10), ("moveout/horizon.steps", laid_moveout_horizon_steps)], narrowed := true }
def HorizonFaultsUptoSaid : Prop := horizonFaultsUptoRow.holds Tryz.pinned (OpenSpec.upto horizonFaultsSpec)

/-- 'moveoutlaw08.HorizonDepths', WHERE WHAT IT READS IS OF BULK AT MOST 1048576: true; the input reads as it did. -/
def horizonDepthsUptoRow : OpenClaim := { program := "ytjhdkimkijhloaagreatdoor", sum := "a2806bb2d27a3dd02006ae81c09f37da57d897f7acfa529abde21fe76de3fd25", func := "moveout/moveoutlaw08.HorizonDepths", spec := "horizonDepths", inPlace := ["internal/abi.NoEscape", "internal/bytealg.MakeNoZero"], unfollowed := true, recurses := true, named := ["moveout/horizon.steps", "internal/strconv.uint64pow10", "math/bits.deBruijn32tab", "math/bits.deBruijn64tab"], apart := false, laid := [("math/bits.deBruijn32tab", laid_math_bits_deBruijn32tab), ("math/bits.deBruijn64tab", laid_math_bits_deBruijn64tab), ("internal/strconv.uint64pow10", laid_internal_strconv_uint64pow10), ("moveout/horizon.steps", laid_moveout_horizon_steps)], narrowed := true }
def HorizonDepthsUptoSaid : Prop := horizonDepthsUptoRow.holds Tryz.pinned (OpenSpec.upto horizonDepthsSpec)

/-- 'moveoutlaw08.HorizonMaps', WHERE WHAT IT READS IS OF BULK AT MOST 1048576: true; the input reads as it did. -/
def horizonMapsUptoRow : OpenClaim := { program := "ytjhdkimkijhloaagreatdoor", sum := "a2806bb2d27a3dd02006ae81c09f37da57d897f7acfa529abde21fe76de3fd25", func := "moveout/moveoutlaw08.HorizonMaps", spec := "horizonMaps", inPlace := ["internal/abi.NoEscape", "internal/bytealg.MakeNoZero"], unfollowed := true, recurses := true, named := ["moveout/horizon.steps", "internal/strconv.uint64pow10", "math/bits.deBruijn32tab", "math/bits.deBruijn64tab"], apart := false, laid := [("math/bits.deBruijn32tab", laid_math_bits_deBruijn32tab), ("math/bits.deBruijn64tab", laid_math_bits_deBruijn64tab), ("internal/strconv.uint64pow10", laid_internal_strconv_uint64pow10), ("moveout/horizon.steps", laid_moveout_horizon_steps)], narrowed := true }
def HorizonMapsUptoSaid : Prop := horizonMapsUptoRow.holds Tryz.pinned (OpenSpec.upto horizonMapsSpec)

/-- 'moveoutlaw08.HorizonColumns', WHERE WHAT IT READS IS OF BULK AT MOST 1048576: true; the input reads as it did. -/
def horizonColumnsUptoRow : OpenClaim := { program := "ytjhdkimkijhloaagreatdoor", sum := "a2806bb2d27a3dd02006ae81c09f37da57d897f7acfa529abde21fe76de3fd25", func := "moveout/moveoutlaw08.HorizonColumns", spec := "horizonColumns", inPlace := ["internal/abi.NoEscape", "internal/bytealg.MakeNoZero"], unfollowed := true, recurses := true, named := ["moveout/horizon.steps", "internal/strconv.uint64pow10", "math/bits.deBruijn32tab", "math/bits.deBruijn64tab"], apart := false, laid := [("math/bits.deBruijn32tab", laid_math_bits_deBruijn32tab), ("math/bits.deBruijn64tab", laid_math_bits_deBruijn64tab), ("internal/strconv.uint64pow10", laid_internal_strconv_uint64pow10), ("moveout/horizon.steps", laid_moveout_horizon_steps)], narrowed := true }
def HorizonColumnsUptoSaid : Prop := horizonColumnsUptoRow.holds Tryz.pinned (OpenSpec.upto horizonColumnsSpec)

/-- 'moveoutlaw08.HorizonLines', WHERE WHAT IT READS IS OF BULK AT MOST 1048576: true; the input reads as it did. -/
def horizonLinesUptoRow : OpenClaim := { program := "ytjhdkimkijhloaagreatdoor", sum := "a2806bb2d27a3dd02006ae81c09f37da57d897f7acfa529abde21fe76de3fd25", func := "moveout/moveoutlaw08.HorizonLines", spec := "horizonLines", inPlace := ["internal/abi.NoEscape", "internal/bytealg.MakeNoZero"], unfollowed := true, recurses := true, named := ["moveout/horizon.steps", "internal/strconv.uint64pow10", "math/bits.deBruijn32tab", "math/bits.deBruijn64tab"], apart := false, laid := [("math/bits.deBruijn32tab", laid_math_bits_deBruijn32tab), ("math/bits.deBruijn64tab", laid_math_bits_deBruijn64tab), ("internal/strconv.uint64pow10", laid_internal_strconv_uint64pow10), ("moveout/horizon.steps", laid_moveout_horizon_steps)], narrowed := true }
def HorizonLinesUptoSaid : Prop := horizonLinesUptoRow.holds Tryz.pinned (OpenSpec.upto horizonLinesSpec)

/-- 'moveoutlaw08.HorizonCloses', WHERE WHAT IT READS IS OF BULK AT MOST 1048576: true; the input reads as it did. -/
def horizonClosesUptoRow : OpenClaim := { program := "ytjhdkimkijhloaagreatdoor", sum := "a2806bb2d27a3dd02006ae81c09f37da57d897f7acfa529abde21fe76de3fd25", func := "moveout/moveoutlaw08.HorizonCloses", spec := "horizonCloses", inPlace := ["internal/abi.NoEscape", "internal/bytealg.MakeNoZero"], unfollowed := true, recurses := true, named := ["moveout/horizon.steps", "internal/strconv.uint64pow10", "math/bits.deBruijn32tab", "math/bits.deBruijn64tab"], apart := false, laid := [("math/bits.deBruijn32tab", laid_math_bits_deBruijn32tab), ("math/bits.deBruijn64tab", laid_math_bits_deBruijn64tab), ("internal/strconv.uint64pow10", laid_internal_strconv_uint64pow10), ("moveout/horizon.steps", laid_moveout_horizon_steps)], narrowed := true }
def HorizonClosesUptoSaid : Prop := horizonClosesUptoRow.holds Tryz.pinned (OpenSpec.upto horizonClosesSpec)

/-- 'moveoutlaw08.HorizonLapse', WHERE WHAT IT READS IS OF BULK AT MOST 1048576: true; the input reads as it did. -/
def horizonLapseUptoRow : OpenClaim := { program := "ytjhdkimkijhloaagreatdoor", sum := "a2806bb2d27a3dd02006ae81c09f37da57d897f7acfa529abde21fe76de3fd25", func := "moveout/moveoutlaw08.HorizonLapse", spec := "horizonLapse", inPlace := ["internal/abi.NoEscape", "internal/bytealg.MakeNoZero"], unfollowed := true, recurses := true, named := ["moveout/horizon.steps", "internal/strconv.uint64pow10", "math/bits.deBruijn32tab", "math/bits.deBruijn64tab"], apart := false, laid := [("math/bits.deBruijn32tab", laid_math_bits_deBruijn32tab), ("math/bits.deBruijn64tab", laid_math_bits_deBruijn64tab), ("internal/strconv.uint64pow10", laid_internal_strconv_uint64pow10), ("moveout/horizon.steps", laid_moveout_horizon_steps)], narrowed := true }
def HorizonLapseUptoSaid : Prop := horizonLapseUptoRow.holds Tryz.pinned (OpenSpec.upto horizonLapseSpec)

/-- 'moveoutlaw08.HorizonGround', WHERE WHAT IT READS IS OF BULK AT MOST 1048576: true; the input reads as it did. -/
def horizonGroundUptoRow : OpenClaim := { program := "ytjhdkimkijhloaagreatdoor", sum := "a2806bb2d27a3dd02006ae81c09f37da57d897f7acfa529abde21fe76de3fd25", func := "moveout/moveoutlaw08.HorizonGround", spec := "horizonGround", inPlace := ["internal/abi.NoEscape", "internal/bytealg.MakeNoZero"], unfollowed := true, recurses := true, named := ["moveout/horizon.steps", "internal/strconv.uint64pow10", "math/bits.deBruijn32tab", "math/bits.deBruijn64tab"], apart := false, laid := [("math/bits.deBruijn32tab", laid_math_bits_deBruijn32tab), ("math/bits.deBruijn64tab", laid_math_bits_deBruijn64tab), ("internal/strconv.uint64pow10", laid_internal_strconv_uint64pow10), ("moveout/horizon.steps", laid_moveout_horizon_steps)], narrowed := true }
def HorizonGroundUptoSaid : Prop := horizonGroundUptoRow.holds Tryz.pinned (OpenSpec.upto horizonGroundSpec)

/-- 'moveoutlaw08.HorizonOrders', WHERE WHAT IT READS IS OF BULK AT MOST 1048576: true; the input reads as it did. -/
def horizonOrdersUptoRow : OpenClaim := { program := "ytjhdkimkijhloaagreatdoor", sum := "a2806bb2d27a3dd02006ae81c09f37da57d897f7acfa529abde21fe76de3fd25", func := "moveout/moveoutlaw08.HorizonOrders", spec := "horizonOrders", inPlace := ["internal/abi.NoEscape", "internal/bytealg.MakeNoZero"], unfollowed := true, recurses := true, named := ["moveout/horizon.steps", "internal/strconv.uint64pow10", "math/bits.deBruijn32tab", "math/bits.deBruijn64tab"], apart := false, laid := [("math/bits.deBruijn32tab", laid_math_bits_deBruijn32tab), ("math/bits.deBruijn64tab", laid_math_bits_deBruijn64tab), ("internal/strconv.uint64pow10", laid_internal_strconv_uint64pow10), ("moveout/horizon.steps", laid_moveout_horizon_steps)], narrowed := true }
def HorizonOrdersUptoSaid : Prop := horizonOrdersUptoRow.holds Tryz.pinned (OpenSpec.upto horizonOrdersSpec)

/-- 'moveoutlaw08.HorizonTexts', WHERE WHAT IT READS IS OF BULK AT MOST 1048576: true; the input reads as it did. -/
def horizonTextsUptoRow : OpenClaim := { program := "ytjhdkimkijhloaagreatdoor", sum := "a2806bb2d27a3dd02006ae81c09f37da57d897f7acfa529abde21fe76de3fd25", func := "moveout/moveoutlaw08.HorizonTexts", spec := "horizonTexts", inPlace := ["internal/abi.NoEscape", "internal/bytealg.MakeNoZero", "internal/bytealg.IndexByteString", "internal/bytealg.CountString", "internal/bytealg.IndexString"], unfollowed := true, recurses := true, named := ["moveout/horizon.steps", "internal/strconv.uint64pow10", "math/bits.deBruijn32tab", "math/bits.deBruijn64tab", "unicode/utf8.first", "unicode/utf8.acceptRanges", "internal/bytealg.MaxLen"], apart := false, laid := [("math/bits.deBruijn32tab", laid_math_bits_deBruijn32tab), ("math/bits.deBruijn64tab", laid_math_bits_deBruijn64tab), ("internal/strconv.uint64pow10", laid_internal_strconv_uint64pow10), ("unicode/utf8.acceptRanges", laid_unicode_utf8_acceptRanges), ("moveout/horizon.steps", laid_moveout_horizon_steps), ("unicode/utf8.first", laid_unicode_utf8_first)], narrowed := true }
def HorizonTextsUptoSaid : Prop := horizonTextsUptoRow.holds Tryz.pinned (OpenSpec.upto horizonTextsSpec)

/-- 'moveoutlaw08.HorizonBack', WHERE WHAT IT READS IS OF BULK AT MOST 1048576: true; the input reads as it did. -/
def horizonBackUptoRow : OpenClaim := { program := "ytjhdkimkijhloaagreatdoor", sum := "a2806bb2d27a3dd02006ae81c09f37da57d897f7acfa529abde21fe76de3fd25", func := "moveout/moveoutlaw08.HorizonBack", spec := "horizonBack", inPlace := ["internal/abi.NoEscape", "internal/bytealg.MakeNoZero", "internal/bytealg.IndexByteString", "internal/bytealg.CountString", "internal/bytealg.IndexString"], unfollowed := true, recurses := true, named := ["moveout/horizon.steps", "internal/strconv.uint64pow10", "math/bits.deBruijn32tab", "math/bits.deBruijn64tab", "unicode/utf8.first", "unicode/utf8.acceptRanges", "internal/bytealg.MaxLen"], apart := false, laid := [("math/bits.deBruijn32tab", laid_math_bits_deBruijn32tab), ("math/bits.deBruijn64tab", laid_math_bits_deBruijn64tab), ("internal/strconv.uint64pow10", laid_internal_strconv_uint64pow10), ("unicode/utf8.acceptRanges", laid_unicode_utf8_acceptRanges), ("moveout/horizon.steps", laid_moveout_horizon_steps), ("unicode/utf8.first", laid_unicode_utf8_first)], narrowed := true }
def HorizonBackUptoSaid : Prop := horizonBackUptoRow.holds Tryz.pinned (OpenSpec.upto horizonBackSpec)

end Rows
end Go.Proofs.YtjhdkimkijhloaaGreatDoor
