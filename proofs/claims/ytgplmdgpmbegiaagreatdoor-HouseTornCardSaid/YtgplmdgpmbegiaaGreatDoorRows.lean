/-
  NARROWER THAN 'FOR EVERY INPUT', by the rows' own cells (each row's printed sentence says how): HouseSafe: laid · HouseStories: laid · HouseCopied: laid · HouseLogs: laid · HouseSessions: laid · HouseTurns: laid · HouseGraphs: laid · HouseTorn: laid · HouseEvents: laid · HouseDigests: laid · HouseNeeds: laid.
  DERIVED. THE GIVEN ROWS OF THIS SEAT. 11 by the template 'for every input the law returns true; each argument reads behind the call as it read before'; 0 by the template 'total and deterministic' (their statements: YtgplmdgpmbegiaaGreatDoorTotals.lean).
  GIVEN WITH THE SEED: the statements are not yours to turn. If you find one false, say at which input.
  Laid BY PROGRAM, IN A SANDBOX (cutbox-rows.mjs): the forced cells as the released guide's own fill.sh prints them over the translation f89a4e7a8cccf6ec… (all of the seat's roots in one cut). By AI agents, Wed Nov 11 2026. No macro, syntax, notation, axiom, sorry.
-/
import Derived.Test.YtgplmdgpmbegiaaGreatDoorChecked
import GoSem.PinnedTables
import GoSem.Claim
import GoSem.ClaimJoined
import GoSem.ClaimMapViews
import Derived.JoinedTies
import Derived.KernelRfl
namespace Go.Proofs.YtgplmdgpmbegiaaGreatDoor
/- THE CELL 'sum', in the pinned program and in every row, IS THE sha256 OF THE DUMP (.gsa) THAT YtgplmdgpmbegiaaGreatDoorProg.lean LOADS. Nothing in Lean hashes anything: it is a label: what it is worth is what the hold of that sum in a sandbox is worth. -/
noncomputable def Tryz.pinned : Pinned := { name := "ytgplmdgpmbegiaagreatdoor", sum := "f89a4e7a8cccf6eccfef6fd5d68fa929ebae89591697d17ebe2817eb8a0986e6", checked := Tryz.checked }
namespace Rows
def none {H : Type} : Left H := { results := [], args := [] }

/- WHAT THE LISTED PACKAGE-LEVEL VARIABLES READ AS WHEN THE CALL BEGINS. Each datum BY PROGRAM (the guide's laid-datum.mjs) off the statement by which the dump's own 'gosem.cut.vars' lays the variable. In a bare row this is a premise. The card (YtgplmdgpmbegiaaGreatDoorCards.lean) ties it to the program's text. -/
def laid_math_bits_deBruijn32tab {H : Type} : DataW H := .agg [.lit (.int .u8 0), .lit (.int .u8 1), .lit (.int .u8 28), .lit (.int .u8 2), .lit (.int .u8 29), .lit (.int .u8 14), .lit (.int .u8 24), .lit (.int .u8 3), .lit (.int .u8 30), .lit (.int .u8 22), .lit (.int .u8 20), .lit (.int .u8 15), .lit (.int .u8 25), .lit (.int .u8 17), .lit (.int .u8 4), .lit (.int .u8 8), .lit (.int .u8 31), .lit (.int .u8 27), .lit (.int .u8 13), .lit (.int .u8 23), .lit (.int .u8 21), .lit (.int .u8 19), .lit (.int .u8 16), .lit (.int .u8 7), .lit (.int .u8 26), .lit (.int .u8 12), .lit (.int .u8 18), .lit (.int .u8 6), .lit (.int .u8 11), .lit (.int .u8 5), .lit (.int .u8 10), .lit (.int .u8 9)]
def laid_math_bits_deBruijn64tab {H : Type} : DataW H := .agg [.lit (.int .u8 0), .lit (.int .u8 1), .lit (.int .u8 56), .lit (.int .u8 2), .lit (.int .u8 57), .lit (.int .u8 49), .lit (.int .u8 28), .lit (.int .u8 3), .lit (.int .u8 61), .lit (.int .u8 58), .lit (.int .u8 42), .lit (.int .u8 50), .lit (.int .u8 38), .lit (.int .u8 29), .lit (.int .u8 17), .lit (.int .u8 4), .lit (.int .u8 62), .lit (.int .u8 47), .lit (.int .u8 59), .lit (.int .u8 36), .lit (.int .u8 45), .lit (.int .u8 43), .lit (.int .u8 51), .lit (.int .u8 22), .lit (.int .u8 53), .lit (.int .u8 39), .lit (.int .u8 33), .lit (.int .u8 30), .lit (.int .u8 24), .lit (.int .u8 18), .lit (.int .u8 12), .lit (.int .u8 5), .lit (.int .u8 63), .lit (.int .u8 55), .lit (.int .u8 48), .lit (.int .u8 27), .lit (.int .u8 60), .lit (.int .u8 41), .lit (.int .u8 37), .lit (.int .u8 16), .lit (.int .u8 46), .lit (.int .u8 35), .lit (.int .u8 44), .lit (.int .u8 21), .lit (.int .u8 52), .lit (.int .u8 32), .lit (.int .u8 23), .lit (.int .u8 11), .lit (.int .u8 54), .lit (.int .u8 26), .lit (.int .u8 40), .lit (.int .u8 15), .lit (.int .u8 34), .lit (.int .u8 20), .lit (.int .u8 31), .lit (.int .u8 10), .lit (.int .u8 25), .lit (.int .u8 14), .lit (.int .u8 19), .lit (.int .u8 9), .lit (.int .u8 13), .lit (.int .u8 8), .lit (.int .u8 7), .lit (.int .u8 6)]
def laid_internal_strconv_uint64pow10 {H : Type} : DataW H := .agg [.lit (.int .u64 1), .lit (.int .u64 10), .lit (.int .u64 100), .lit (.int .u64 1000), .lit (.int .u64 10000), .lit (.int .u64 100000), .lit (.int .u64 1000000), .lit (.int .u64 10000000), .lit (.int .u64 100000000), .lit (.int .u64 1000000000), .lit (.int .u64 10000000000), .lit (.int .u64 100000000000), .lit (.int .u64 1000000000000), .lit (.int .u64 10000000000000), .lit (.int .u64 100000000000000), .lit (.int .u64 1000000000000000), .lit (.int .u64 10000000000000000), .lit (.int .u64 100000000000000000), .lit (.int .u64 1000000000000000000), .lit (.int .u64 10000000000000000000)]
def laid_unicode_utf8_acceptRanges {H : Type} : DataW H := .agg [.agg [.lit (.int .u8 128), .lit (.int .u8 191)], .agg [.lit (.int .u8 160), .lit (.int .u8 191)], .agg [.lit (.int .u8 128), .lit (.int .u8 159)], .agg [.lit (.int .u8 144), .lit (.int .u8 191)], .agg [.lit (.int .u8 128), .lit (.int .u8 143)], .agg [.lit (.int .u8 0), .lit (.int .u8 0)], .agg [.lit (.int .u8 0), .lit (.int .u8 0)], .agg [.lit (.int .u8 0), .lit (.int .u8 0)], .agg [.lit (.int .u8 0), .lit (.int .u8 0)], .agg [.lit (.int .u8 0), .lit (.int .u8 0)], .agg [.lit (.int .u8 0), .lit (.int .u8 0)], .agg [.lit (.int .u8 0), .lit (.int .u8 0)], .agg [.lit (.int .u8 0), .lit (.int .u8 0)], .agg [.lit (.int .u8 0), .lit (.int .u8 0)], .agg [.lit (.int .u8 0), .lit (.int .u8 0)], .agg [.lit (.int .u8 0), .lit (.int .u8 0)]]
def laid_strconv_ErrRange {H : Type} : DataW H := .iface "*errors.errorString" (.ptr (.agg [.lit (.string [118, 97, 108, 117, 101, 32, 111, 117, 116, 32, 111, 102, 32, 114, 97, 110, 103, 101])]))
def laid_strconv_ErrSyntax {H : Type} : DataW H := .iface "*errors.errorString" (.ptr (.agg [.lit (.string [105, 110, 118, 97, 108, 105, 100, 32, 115, 121, 110, 116, 97, 120])]))
def laid_moveout_house_steps {H : Type} : DataW H := .agg [.agg [.lit (.string [115, 104, 111, 116, 115]), .lit (.string [115, 104, 111, 116, 115])], .agg [.lit (.string [115, 104, 111, 116, 115]), .lit (.string [115, 101, 99, 116, 105, 111, 110])], .agg [.lit (.string [115, 101, 99, 116, 105, 111, 110]), .lit (.string [105, 109, 97, 103, 101])], .agg [.lit (.string [105, 109, 97, 103, 101]), .lit (.string [105, 109, 97, 103, 101])]]
/-- One of Go's own tables, pinned by name: the form's constant. -/
def laid_unicode_utf8_first : DataW Unit := Go.Pinned.utf8First

/-- 'moveoutlaw10.HouseSafe': WHATEVER THE INPUT: true; the input reads as it did. -/
def houseSafeSpec : ChangeSpec := { name := "houseSafe", fn := fun _ => fun
  | [d1, d2, d3] => { results := [.lit (.bool true)], args := [d1, d2, d3] }
  | _ => none }
def houseSafeRow : OpenClaim := { program := "ytgplmdgpmbegiaagreatdoor", sum := "f89a4e7a8cccf6eccfef6fd5d68fa929ebae89591697d17ebe2817eb8a0986e6", func := "moveout/moveoutlaw10.HouseSafe", spec := "houseSafe", inPlace := ["internal/bytealg.CountString", "internal/bytealg.IndexByteString", "internal/bytealg.IndexString", "internal/abi.NoEscape", "internal/bytealg.MakeNoZero"], unfollowed := true, recurses := true, named := ["unicode/utf8.first", "unicode/utf8.acceptRanges", "internal/bytealg.MaxLen", "internal/strconv.uint64pow10", "math/bits.deBruijn32tab", "math/bits.deBruijn64tab", "moveout/house.steps", "strconv.ErrSyntax", "strconv.ErrRange"], apart := false, laid := [("math/bits.deBruijn32tab", laid_math_bits_deBruijn32tab), ("math/bits.deBruijn64tab", laid_math_bits_deBruijn64tab), ("internal/strconv.uint64pow10", laid_internal_strconv_uint64pow10), ("unicode/utf8.acceptRanges", laid_unicode_utf8_acceptRanges), ("strconv.ErrRange", laid_strconv_ErrRange), ("strconv.ErrSyntax", laid_strconv_ErrSyntax), ("moveout/house.steps", laid_moveout_house_steps), ("unicode/utf8.first", laid_unicode_utf8_first)] }
def HouseSafeSaid : Prop := houseSafeRow.holds Tryz.pinned (OpenSpec.ofChange houseSafeSpec)

/-- ITS FALSE NEIGHBOUR: 'it returns false'. Refute it at one input. -/
def houseSafeWrong : ChangeSpec := { name := "houseSafe", fn := fun _ => fun
  | [d1, d2, d3] => { results := [.lit (.bool false)], args := [d1, d2, d3] }
  | _ => none }
def HouseSafeWrongFalsely : Prop := houseSafeRow.holds Tryz.pinned (OpenSpec.ofChange houseSafeWrong)

/-- 'moveoutlaw10.HouseStories': WHATEVER THE INPUT: true; the input reads as it did. -/
def houseStoriesSpec : ChangeSpec := { name := "houseStories", fn := fun _ => fun
  | [d1, d2, d3] => { results := [.lit (.bool true)], args := [d1, d2, d3] }
  | _ => none }
def houseStoriesRow : OpenClaim := { program := "ytgplmdgpmbegiaagreatdoor", sum := "f89a4e7a8cccf6eccfef6fd5d68fa929ebae89591697d17ebe2817eb8a0986e6", func := "moveout/moveoutlaw10.HouseStories", spec := "houseStories", inPlace := ["internal/bytealg.CountString", "internal/bytealg.IndexByteString", "internal/bytealg.IndexString", "internal/abi.NoEscape", "internal/bytealg.MakeNoZero"], unfollowed := true, recurses := true, named := ["unicode/utf8.first", "unicode/utf8.acceptRanges", "internal/bytealg.MaxLen", "internal/strconv.uint64pow10", "math/bits.deBruijn32tab", "math/bits.deBruijn64tab", "moveout/house.steps", "strconv.ErrSyntax", "strconv.ErrRange"], apart := false, laid := [("math/bits.deBruijn32tab", laid_math_bits_deBruijn32tab), ("math/bits.deBruijn64tab", laid_math_bits_deBruijn64tab), ("internal/strconv.uint64pow10", laid_internal_strconv_uint64pow10), ("unicode/utf8.acceptRanges", laid_unicode_utf8_acceptRanges), ("strconv.ErrRange", laid_strconv_ErrRange), ("strconv.ErrSyntax", laid_strconv_ErrSyntax), ("moveout/house.steps", laid_moveout_house_steps), ("unicode/utf8.first", laid_unicode_utf8_first)] }
def HouseStoriesSaid : Prop := houseStoriesRow.holds Tryz.pinned (OpenSpec.ofChange houseStoriesSpec)

/-- ITS FALSE NEIGHBOUR: 'it returns false'. Refute it at one input. -/
def houseStoriesWrong : ChangeSpec := { name := "houseStories", fn := fun _ => fun
  | [d1, d2, d3] => { results := [.lit (.bool false)], args := [d1, d2, d3] }
  | _ => none }
def HouseStoriesWrongFalsely : Prop := houseStoriesRow.holds Tryz.pinned (OpenSpec.ofChange houseStoriesWrong)

/-- 'moveoutlaw10.HouseCopied': WHATEVER THE INPUT: true; the input reads as it did. -/
def houseCopiedSpec : ChangeSpec := { name := "houseCopied", fn := fun _ => fun
  | [d1, d2] => { results := [.lit (.bool true)], args := [d1, d2] }
  | _ => none }
def houseCopiedRow : OpenClaim := { program := "ytgplmdgpmbegiaagreatdoor", sum := "f89a4e7a8cccf6eccfef6fd5d68fa929ebae89591697d17ebe2817eb8a0986e6", func := "moveout/moveoutlaw10.HouseCopied", spec := "houseCopied", inPlace := ["internal/bytealg.CountString", "internal/bytealg.IndexByteString", "internal/bytealg.IndexString", "internal/abi.NoEscape", "internal/bytealg.MakeNoZero"], unfollowed := true, recurses := true, named := ["unicode/utf8.first", "unicode/utf8.acceptRanges", "internal/bytealg.MaxLen", "internal/strconv.uint64pow10", "math/bits.deBruijn32tab", "math/bits.deBruijn64tab", "moveout/house.steps", "strconv.ErrSyntax", "strconv.ErrRange"], apart := false, laid := [("math/bits.deBruijn32tab", laid_math_bits_deBruijn32tab), ("math/bits.deBruijn64tab", laid_math_bits_deBruijn64tab), ("internal/strconv.uint64pow10", laid_internal_strconv_uint64pow10), ("unicode/utf8.acceptRanges", laid_unicode_utf8_acceptRanges), ("strconv.ErrRange", laid_strconv_ErrRange), ("strconv.ErrSyntax", laid_strconv_ErrSyntax), ("moveout/house.steps", laid_moveout_house_steps), ("unicode/utf8.first", laid_unicode_utf8_first)] }
def HouseCopiedSaid : Prop := houseCopiedRow.holds Tryz.pinned (OpenSpec.ofChange houseCopiedSpec)

/-- ITS FALSE NEIGHBOUR: 'it returns false'. Refute it at one input. -/
def houseCopiedWrong : ChangeSpec := { name := "houseCopied", fn := fun _ => fun
  | [d1, d2] => { results := [.lit (.bool false)], args := [d1, d2] }
  | _ => none }
def HouseCopiedWrongFalsely : Prop := houseCopiedRow.holds Tryz.pinned (OpenSpec.ofChange houseCopiedWrong)

/-- 'moveoutlaw10.HouseLogs': WHATEVER THE INPUT: true; the input reads as it did. -/
def houseLogsSpec : ChangeSpec := { name := "houseLogs", fn := fun _ => fun
  | [d1, d2] => { results := [.lit (.bool true)], args := [d1, d2] }
  | _ => none }
def houseLogsRow : OpenClaim := { program := "ytgplmdgpmbegiaagreatdoor", sum := "f89a4e7a8cccf6eccfef6fd5d68fa929ebae89591697d17ebe2817eb8a0986e6", func := "moveout/moveoutlaw10.HouseLogs", spec := "houseLogs", inPlace := ["internal/bytealg.CountString", "internal/bytealg.IndexByteString", "internal/bytealg.IndexString", "internal/abi.NoEscape", "internal/bytealg.MakeNoZero"], unfollowed := true, recurses := true, named := ["unicode/utf8.first", "unicode/utf8.acceptRanges", "internal/bytealg.MaxLen", "internal/strconv.uint64pow10", "math/bits.deBruijn32tab", "math/bits.deBruijn64tab", "moveout/house.steps", "strconv.ErrSyntax", "strconv.ErrRange"], apart := false, laid := [("math/bits.deBruijn32tab", laid_math_bits_deBruijn32tab), ("math/bits.deBruijn64tab", laid_math_bits_deBruijn64tab), ("internal/strconv.uint64pow10", laid_internal_strconv_uint64pow10), ("unicode/utf8.acceptRanges", laid_unicode_utf8_acceptRanges), ("strconv.ErrRange", laid_strconv_ErrRange), ("strconv.ErrSyntax", laid_strconv_ErrSyntax), ("moveout/house.steps", laid_moveout_house_steps), ("unicode/utf8.first", laid_unicode_utf8_first)] }
def HouseLogsSaid : Prop := houseLogsRow.holds Tryz.pinned (OpenSpec.ofChange houseLogsSpec)

/-- ITS FALSE NEIGHBOUR: 'it returns false'. Refute it at one input. -/
def houseLogsWrong : ChangeSpec := { name := "houseLogs", fn := fun _ => fun
  | [d1, d2] => { results := [.lit (.bool false)], args := [d1, d2] }
  | _ => none }
def HouseLogsWrongFalsely : Prop := houseLogsRow.holds Tryz.pinned (OpenSpec.ofChange houseLogsWrong)

/-- 'moveoutlaw10.HouseSessions': WHATEVER THE INPUT: true; the input reads as it did. -/
def houseSessionsSpec : ChangeSpec := { name := "houseSessions", fn := fun _ => fun
  | [d1, d2] => { results := [.lit (.bool true)], args := [d1, d2] }
  | _ => none }
def houseSessionsRow : OpenClaim := { program := "ytgplmdgpmbegiaagreatdoor", sum := "f89a4e7a8cccf6eccfef6fd5d68fa929ebae89591697d17ebe2817eb8a0986e6", func := "moveout/moveoutlaw10.HouseSessions", spec := "houseSessions", inPlace := ["internal/bytealg.CountString", "internal/bytealg.IndexByteString", "internal/bytealg.IndexString", "internal/abi.NoEscape", "internal/bytealg.MakeNoZero"], unfollowed := true, recurses := true, named := ["unicode/utf8.first", "unicode/utf8.acceptRanges", "internal/bytealg.MaxLen", "internal/strconv.uint64pow10", "math/bits.deBruijn32tab", "math/bits.deBruijn64tab", "moveout/house.steps", "strconv.ErrSyntax", "strconv.ErrRange"], apart := false, laid := [("math/bits.deBruijn32tab", laid_math_bits_deBruijn32tab), ("math/bits.deBruijn64tab", laid_math_bits_deBruijn64tab), ("internal/strconv.uint64pow10", laid_internal_strconv_uint64pow10), ("unicode/utf8.acceptRanges", laid_unicode_utf8_acceptRanges), ("strconv.ErrRange", laid_strconv_ErrRange), ("strconv.ErrSyntax", laid_strconv_ErrSyntax), ("moveout/house.steps", laid_moveout_house_steps), ("unicode/utf8.first", laid_unicode_utf8_first)] }
def HouseSessionsSaid : Prop := houseSessionsRow.holds Tryz.pinned (OpenSpec.ofChange houseSessionsSpec)

/-- ITS FALSE NEIGHBOUR: 'it returns false'. Refute it at one input. -/
def houseSessionsWrong : ChangeSpec := { name := "houseSessions", fn := fun _ => fun
  | [d1, d2] => { results := [.lit (.bool false)], args := [d1, d2] }
  | _ => none }
def HouseSessionsWrongFalsely : Prop := houseSessionsRow.holds Tryz.pinned (OpenSpec.ofChange houseSessionsWrong)

/-- 'moveoutlaw10.HouseTurns': WHATEVER THE INPUT: true; the input reads as it did. -/
def houseTurnsSpec : ChangeSpec := { name := "houseTurns", fn := fun _ => fun
  | [d1, d2] => { results := [.lit (.bool true)], args := [d1, d2] }
  | _ => none }
def houseTurnsRow : OpenClaim := { program := "ytgplmdgpmbegiaagreatdoor", sum := "f89a4e7a8cccf6eccfef6fd5d68fa929ebae89591697d17ebe2817eb8a0986e6", func := "moveout/moveoutlaw10.HouseTurns", spec := "houseTurns", inPlace := ["internal/bytealg.CountString", "internal/bytealg.IndexByteString", "internal/bytealg.IndexString", "internal/abi.NoEscape", "internal/bytealg.MakeNoZero"], unfollowed := true, recurses := true, named := ["unicode/utf8.first", "unicode/utf8.acceptRanges", "internal/bytealg.MaxLen", "internal/strconv.uint64pow10", "math/bits.deBruijn32tab", "math/bits.deBruijn64tab", "moveout/house.steps", "strconv.ErrSyntax", "strconv.ErrRange"], apart := false, laid := [("math/bits.deBruijn32tab", laid_math_bits_deBruijn32tab), ("math/bits.deBruijn64tab", laid_math_bits_deBruijn64tab), ("internal/strconv.uint64pow10", laid_internal_strconv_uint64pow10), ("unicode/utf8.acceptRanges", laid_unicode_utf8_acceptRanges), ("strconv.ErrRange", laid_strconv_ErrRange), ("strconv.ErrSyntax", laid_strconv_ErrSyntax), ("moveout/house.steps", laid_moveout_house_steps), ("unicode/utf8.first", laid_unicode_utf8_first)] }
def HouseTurnsSaid : Prop := houseTurnsRow.holds Tryz.pinned (OpenSpec.ofChange houseTurnsSpec)

/-- ITS FALSE NEIGHBOUR: 'it returns false'. Refute it at one input. -/
def houseTurnsWrong : ChangeSpec := { name := "houseTurns", fn := fun _ => fun
  | [d1, d2] => { results := [.lit (.bool false)], args := [d1, d2] }
  | _ => none }
def HouseTurnsWrongFalsely : Prop := houseTurnsRow.holds Tryz.pinned (OpenSpec.ofChange houseTurnsWrong)

/-- 'moveoutlaw10.HouseGraphs': WHATEVER THE INPUT: true; the input reads as it did. -/
def houseGraphsSpec : ChangeSpec := { name := "houseGraphs", fn := fun _ => fun
  | [d1, d2] => { results := [.lit (.bool true)], args := [d1, d2] }
  | _ => none }
def houseGraphsRow : OpenClaim := { program := "ytgplmdgpmbegiaagreatdoor", sum := "f89a4e7a8cccf6eccfef6fd5d68fa929ebae89591697d17ebe2817eb8a0986e6", func := "moveout/moveoutlaw10.HouseGraphs", spec := "houseGraphs", inPlace := ["internal/bytealg.CountString", "internal/bytealg.IndexByteString", "internal/bytealg.IndexString", "internal/abi.NoEscape", "internal/bytealg.MakeNoZero"], unfollowed := true, recurses := true, named := ["unicode/utf8.first", "unicode/utf8.acceptRanges", "internal/bytealg.MaxLen", "internal/strconv.uint64pow10", "math/bits.deBruijn32tab", "math/bits.deBruijn64tab", "moveout/house.steps", "strconv.ErrSyntax", "strconv.ErrRange"], apart := false, laid := [("math/bits.deBruijn32tab", laid_math_bits_deBruijn32tab), ("math/bits.deBruijn64tab", laid_math_bits_deBruijn64tab), ("internal/strconv.uint64pow10", laid_internal_strconv_uint64pow10), ("unicode/utf8.acceptRanges", laid_unicode_utf8_acceptRanges), ("strconv.ErrRange", laid_strconv_ErrRange), ("strconv.ErrSyntax", laid_strconv_ErrSyntax), ("moveout/house.steps", laid_moveout_house_steps), ("unicode/utf8.first", laid_unicode_utf8_first)] }
def HouseGraphsSaid : Prop := houseGraphsRow.holds Tryz.pinned (OpenSpec.ofChange houseGraphsSpec)

/-- ITS FALSE NEIGHBOUR: 'it returns false'. Refute it at one input. -/
def houseGraphsWrong : ChangeSpec := { name := "houseGraphs", fn := fun _ => fun
  | [d1, d2] => { results := [.lit (.bool false)], args := [d1, d2] }
  | _ => none }
def HouseGraphsWrongFalsely : Prop := houseGraphsRow.holds Tryz.pinned (OpenSpec.ofChange houseGraphsWrong)

/-- 'moveoutlaw10.HouseTorn': WHATEVER THE INPUT: true; the input reads as it did. -/
def houseTornSpec : ChangeSpec := { name := "houseTorn", fn := fun _ => fun
  | [d1, d2] => { results := [.lit (.bool true)], args := [d1, d2] }
  | _ => none }
def houseTornRow : OpenClaim := { program := "ytgplmdgpmbegiaagreatdoor", sum := "f89a4e7a8cccf6eccfef6fd5d68fa929ebae89591697d17ebe2817eb8a0986e6", func := "moveout/moveoutlaw10.HouseTorn", spec := "houseTorn", inPlace := ["internal/bytealg.CountString", "internal/bytealg.IndexByteString", "internal/bytealg.IndexString", "internal/abi.NoEscape", "internal/bytealg.MakeNoZero"], unfollowed := true, recurses := true, named := ["unicode/utf8.first", "unicode/utf8.acceptRanges", "internal/bytealg.MaxLen", "internal/strconv.uint64pow10", "math/bits.deBruijn32tab", "math/bits.deBruijn64tab", "moveout/house.steps", "strconv.ErrSyntax", "strconv.ErrRange"], apart := false, laid := [("math/bits.deBruijn32tab", laid_math_bits_deBruijn32tab), ("math/bits.deBruijn64tab", laid_math_bits_deBruijn64tab), ("internal/strconv.uint64pow10", laid_internal_strconv_uint64pow10), ("unicode/utf8.acceptRanges", laid_unicode_utf8_acceptRanges), ("strconv.ErrRange", laid_strconv_ErrRange), ("strconv.ErrSyntax", laid_strconv_ErrSyntax), ("moveout/house.steps", laid_moveout_house_steps), ("unicode/utf8.first", laid_unicode_utf8_first)] }
def HouseTornSaid : Prop := houseTornRow.holds Tryz.pinned (OpenSpec.ofChange houseTornSpec)

/-- ITS FALSE NEIGHBOUR: 'it returns false'. Refute it at one input. -/
def houseTornWrong : ChangeSpec := { name := "houseTorn", fn := fun _ => fun
  | [d1, d2] => { results := [.lit (.bool false)], args := [d1, d2] }
  | _ => none }
def HouseTornWrongFalsely : Prop := houseTornRow.holds Tryz.pinned (OpenSpec.ofChange houseTornWrong)

/-- 'moveoutlaw10.HouseEvents': WHATEVER THE INPUT: true; the input reads as it did. -/
def houseEventsSpec : ChangeSpec := { name := "houseEvents", fn := fun _ => fun
  | [d1, d2, d3] => { results := [.lit (.bool true)], args := [d1, d2, d3] }
  | _ => none }
def houseEventsRow : OpenClaim := { program := "ytgplmdgpmbegiaagreatdoor", sum := "f89a4e7a8cccf6eccfef6fd5d68fa929ebae89591697d17ebe2817eb8a0986e6", func := "moveout/moveoutlaw10.HouseEvents", spec := "houseEvents", inPlace := ["internal/bytealg.CountString", "internal/bytealg.IndexByteString", "internal/bytealg.IndexString", "internal/abi.NoEscape", "internal/bytealg.MakeNoZero"], unfollowed := true, recurses := true, named := ["unicode/utf8.first", "unicode/utf8.acceptRanges", "internal/bytealg.MaxLen", "internal/strconv.uint64pow10", "math/bits.deBruijn32tab", "math/bits.deBruijn64tab", "moveout/house.steps", "strconv.ErrSyntax", "strconv.ErrRange"], apart := false, laid := [("math/bits.deBruijn32tab", laid_math_bits_deBruijn32tab), ("math/bits.deBruijn64tab", laid_math_bits_deBruijn64tab), ("internal/strconv.uint64pow10", laid_internal_strconv_uint64pow10), ("unicode/utf8.acceptRanges", laid_unicode_utf8_acceptRanges), ("strconv.ErrRange", laid_strconv_ErrRange), ("strconv.ErrSyntax", laid_strconv_ErrSyntax), ("moveout/house.steps", laid_moveout_house_steps), ("unicode/utf8.first", laid_unicode_utf8_first)] }
def HouseEventsSaid : Prop := houseEventsRow.holds Tryz.pinned (OpenSpec.ofChange houseEventsSpec)

/-- ITS FALSE NEIGHBOUR: 'it returns false'. Refute it at one input. -/
def houseEventsWrong : ChangeSpec := { name := "houseEvents", fn := fun _ => fun
  | [d1, d2, d3] => { results := [.lit (.bool false)], args := [d1, d2, d3] }
  | _ => none }
def HouseEventsWrongFalsely : Prop := houseEventsRow.holds Tryz.pinned (OpenSpec.ofChange houseEventsWrong)

/-- 'moveoutlaw10.HouseDigests': WHATEVER THE INPUT: true; the input reads as it did. -/
def houseDigestsSpec : ChangeSpec := { name := "houseDigests", fn := fun _ => fun
  | [d1, d2, d3] => { results := [.lit (.bool true)], args := [d1, d2, d3] }
  | _ => none }
def houseDigestsRow : OpenClaim := { program := "ytgplmdgpmbegiaagreatdoor", sum := "f89a4e7a8cccf6eccfef6fd5d68fa929ebae89591697d17ebe2817eb8a0986e6", func := "moveout/moveoutlaw10.HouseDigests", spec := "houseDigests", inPlace := ["internal/bytealg.CountString", "internal/bytealg.IndexByteString", "internal/bytealg.IndexString", "internal/abi.NoEscape", "internal/bytealg.MakeNoZero"], unfollowed := true, recurses := true, named := ["unicode/utf8.first", "unicode/utf8.acceptRanges", "internal/bytealg.MaxLen", "internal/strconv.uint64pow10", "math/bits.deBruijn32tab", "math/bits.deBruijn64tab", "moveout/house.steps", "strconv.ErrSyntax", "strconv.ErrRange"], apart := false, laid := [("math/bits.deBruijn32tab", laid_math_bits_deBruijn32tab), ("math/bits.deBruijn64tab", laid_math_bits_deBruijn64tab), ("internal/strconv.uint64pow10", laid_internal_strconv_uint64pow10), ("unicode/utf8.acceptRanges", laid_unicode_utf8_acceptRanges), ("strconv.ErrRange", laid_strconv_ErrRange), ("strconv.ErrSyntax", laid_strconv_ErrSyntax), ("moveout/house.steps", laid_moveout_house_steps), ("unicode/utf8.first", laid_unicode_utf8_first)] }
def HouseDigestsSaid : Prop := houseDigestsRow.holds Tryz.pinned (OpenSpec.ofChange houseDigestsSpec)

/-- ITS FALSE NEIGHBOUR: 'it returns false'. Refute it at one input. -/
def houseDigestsWrong : ChangeSpec := { name := "houseDigests", fn := fun _ => fun
  | [d1, d2, d3] => { results := [.lit (.bool false)], args := [d1, d2, d3] }
  | _ => none }
def HouseDigestsWrongFalsely : Prop := houseDigestsRow.holds Tryz.pinned (OpenSpec.ofChange houseDigestsWrong)

/-- 'moveoutlaw10.HouseNeeds': WHATEVER THE INPUT: true; the input reads as it did. -/
def houseNeedsSpec : ChangeSpec := { name := "houseNeeds", fn := fun _ => fun
  | [d] => { results := [.lit (.bool true)], args := [d] }
  | _ => none }
def houseNeedsRow : OpenClaim := { program := "ytgplmdgpmbegiaagreatdoor", sum := "f89a4e7a8cccf6eccfef6fd5d68fa929ebae89591697d17ebe2817eb8a0986e6", func := "moveout/moveoutlaw10.HouseNeeds", spec := "houseNeeds", inPlace := ["internal/bytealg.CountString", "internal/bytealg.IndexByteString", "internal/bytealg.IndexString", "internal/abi.NoEscape", "internal/bytealg.MakeNoZero"], unfollowed := true, recurses := true, named := ["unicode/utf8.first", "unicode/utf8.acceptRanges", "internal/bytealg.MaxLen", "internal/strconv.uint64pow10", "math/bits.deBruijn32tab", "math/bits.deBruijn64tab", "moveout/house.steps", "strconv.ErrSyntax", "strconv.ErrRange"], apart := false, laid := [("math/bits.deBruijn32tab", laid_math_bits_deBruijn32tab), ("math/bits.deBruijn64tab", laid_math_bits_deBruijn64tab), ("internal/strconv.uint64pow10", laid_internal_strconv_uint64pow10), ("unicode/utf8.acceptRanges", laid_unicode_utf8_acceptRanges), ("strconv.ErrRange", laid_strconv_ErrRange), ("strconv.ErrSyntax", laid_strconv_ErrSyntax), ("moveout/house.steps", laid_moveout_house_steps), ("unicode/utf8.first", laid_unicode_utf8_first)] }
def HouseNeedsSaid : Prop := houseNeedsRow.holds Tryz.pinned (OpenSpec.ofChange houseNeedsSpec)

/-- ITS FALSE NEIGHBOUR: 'it returns false'. Refute it at one input. -/
def houseNeedsWrong : ChangeSpec := { name := "houseNeeds", fn := fun _ => fun
  | [d] => { results := [.lit (.bool false)], args := [d] }
  | _ => none }
def HouseNeedsWrongFalsely : Prop := houseNeedsRow.holds Tryz.pinned (OpenSpec.ofChange houseNeedsWrong)

/- THE SECOND FORM. 'bulk': how many values and letters a reading holds, each counted each time it is reached (what is shared counts as often as it is met; a slice's spare places count too). A statement '..UptoSaid' is the law's where the arguments, and the package variables that the reading takes, are together of bulk at most 1048576: NARROWER than '..Said'. Prove '..Said' where nothing that the law and all that it calls make is longer than what came in: it says more and counts as full. Else prove '..UptoSaid'. A law counts once. -/
mutual
def uptoBulk {H : Type} : DataW H → Nat
  | .lit (.string bytes) => bytes.length + 1
  | .lit _ => 1
  | .nil => 1
  | .ptr d => uptoBulk d + 1
  | .slice elems spare => uptoBulkAll elems + uptoBulkAll spare + 1
  | .agg parts => uptoBulkAll parts + 1
  | .iface _ d => uptoBulk d + 1
  | .map entries => uptoBulkEntries entries + 1
  | .held _ => 1
def uptoBulkAll {H : Type} : List (DataW H) → Nat
  | [] => 0
  | d :: r => uptoBulk d + uptoBulkAll r
def uptoBulkEntries {H : Type} : List (Lit × DataW H) → Nat
  | [] => 0
  | x :: r => uptoBulkEntry x + uptoBulkEntries r
def uptoBulkEntry {H : Type} : Lit × DataW H → Nat
  | (.string bytes, d) => bytes.length + uptoBulk d + 1
  | (_, d) => uptoBulk d + 1
 end
def uptoSmall : (H : Type) → List (DataW H) → Bool := fun _ ds => decide (uptoBulkAll ds ≤ 1048576)
def OpenSpec.upto (s : _root_.Go.ChangeSpec) : _root_.Go.OpenSpec := { _root_.Go.OpenSpec.ofChange s with cond := some uptoSmall }

/-- 'moveoutlaw10.HouseSafe', WHERE WHAT IT READS IS OF BULK AT MOST 1048576: true; the input reads as it did. -/
def houseSafeUptoRow : OpenClaim := { program := "ytgplmdgpmbegiaagreatdoor", sum := "f89a4e7a8cccf6eccfef6fd5d68fa929ebae89591697d17ebe2817eb8a0986e6", func := "moveout/moveoutlaw10.HouseSafe", spec := "houseSafe", inPlace := ["internal/bytealg.CountString", "internal/bytealg.IndexByteString", "internal/bytealg.IndexString", "internal/abi.NoEscape", "internal/bytealg.MakeNoZero"], unfollowed := true, recurses := true, named := ["unicode/utf8.first", "unicode/utf8.acceptRanges", "internal/bytealg.MaxLen", "internal/strconv.uint64pow10", "math/bits.deBruijn32tab", "math/bits.deBruijn64tab", "moveout/house.steps", "strconv.ErrSyntax", "strconv.ErrRange"], apart := false, laid := [("math/bits.deBruijn32tab", laid_math_bits_deBruijn32tab), ("math/bits.deBruijn64tab", laid_math_bits_deBruijn64tab), ("internal/strconv.uint64pow10", laid_internal_strconv_uint64pow10), ("unicode/utf8.acceptRanges", laid_unicode_utf8_acceptRanges), ("strconv.ErrRange", laid_strconv_ErrRange), ("strconv.ErrSyntax", laid_strconv_ErrSyntax), ("moveout/house.steps", laid_moveout_house_steps), ("unicode/utf8.first", laid_unicode_utf8_first)], narrowed := true }
def HouseSafeUptoSaid : Prop := houseSafeUptoRow.holds Tryz.pinned (OpenSpec.upto houseSafeSpec)

/-- 'moveoutlaw10.HouseStories', WHERE WHAT IT READS IS OF BULK AT MOST 1048576: true; the input reads as it did. -/
def houseStoriesUptoRow : OpenClaim := { program := "ytgplmdgpmbegiaagreatdoor", sum := "f89a4e7a8cccf6eccfef6fd5d68fa929ebae89591697d17ebe2817eb8a0986e6", func := "moveout/moveoutlaw10.HouseStories", spec := "houseStories", inPlace := ["internal/bytealg.CountString", "internal/bytealg.IndexByteString", "internal/bytealg.IndexString", "internal/abi.NoEscape", "internal/bytealg.MakeNoZero"], unfollowed := true, recurses := true, named := ["unicode/utf8.first", "unicode/utf8.acceptRanges", "internal/bytealg.MaxLen", "internal/strconv.uint64pow10", "math/bits.deBruijn32tab", "math/bits.deBruijn64tab", "moveout/house.steps", "strconv.ErrSyntax", "strconv.ErrRange"], apart := false, laid := [("math/bits.deBruijn32tab", laid_math_bits_deBruijn32tab), ("math/bits.deBruijn64tab", laid_math_bits_deBruijn64tab), ("internal/strconv.uint64pow10", laid_internal_strconv_uint64pow10), ("unicode/utf8.acceptRanges", laid_unicode_utf8_acceptRanges), ("strconv.ErrRange", laid_strconv_ErrRange), ("strconv.ErrSyntax", laid_strconv_ErrSyntax), ("moveout/house.steps", laid_moveout_house_steps), ("unicode/utf8.first", laid_unicode_utf8_first)], narrowed := true }
def HouseStoriesUptoSaid : Prop := houseStoriesUptoRow.holds Tryz.pinned (OpenSpec.upto houseStoriesSpec)

/-- 'moveoutlaw10.HouseCopied', WHERE WHAT IT READS IS OF BULK AT MOST 1048576: true; the input reads as it did. -/
def houseCopiedUptoRow : OpenClaim := { program := "ytgplmdgpmbegiaagreatdoor", sum := "f89a4e7a8cccf6eccfef6fd5d68fa929ebae89591697d17ebe2817eb8a0986e6", func := "moveout/moveoutlaw10.HouseCopied", spec := "houseCopied", inPlace := ["internal/bytealg.CountString", "internal/bytealg.IndexByteString", "internal/bytealg.IndexString", "internal/abi.NoEscape", "internal/bytealg.MakeNoZero"], unfollowed := true, recurses := true, named := ["unicode/utf8.first", "unicode/utf8.acceptRanges", "internal/bytealg.MaxLen", "internal/strconv.uint64pow10", "math/bits.deBruijn32tab", "math/bits.deBruijn64tab", "moveout/house.steps", "strconv.ErrSyntax", "strconv.ErrRange"], apart := false, laid := [("math/bits.deBruijn32tab", laid_math_bits_deBruijn32tab), ("math/bits.deBruijn64tab", laid_math_bits_deBruijn64tab), ("internal/strconv.uint64pow10", laid_internal_strconv_uint64pow10), ("unicode/utf8.acceptRanges", laid_unicode_utf8_acceptRanges), ("strconv.ErrRange", laid_strconv_ErrRange), ("strconv.ErrSyntax", laid_strconv_ErrSyntax), ("moveout/house.steps", laid_moveout_house_steps), ("unicode/utf8.first", laid_unicode_utf8_first)], narrowed := true }
def HouseCopiedUptoSaid : Prop := houseCopiedUptoRow.holds Tryz.pinned (OpenSpec.upto houseCopiedSpec)

/-- 'moveoutlaw10.HouseLogs', WHERE WHAT IT READS IS OF BULK AT MOST 1048576: true; the input reads as it did. -/
def houseLogsUptoRow : OpenClaim := { program := "ytgplmdgpmbegiaagreatdoor", sum := "f89a4e7a8cccf6eccfef6fd5d68fa929ebae89591697d17ebe2817eb8a0986e6", func := "moveout/moveoutlaw10.HouseLogs", spec := "houseLogs", inPlace := ["internal/bytealg.CountString", "internal/bytealg.IndexByteString", "internal/bytealg.IndexString", "internal/abi.NoEscape", "internal/bytealg.MakeNoZero"], unfollowed := true, recurses := true, named := ["unicode/utf8.first", "unicode/utf8.acceptRanges", "internal/bytealg.MaxLen", "internal/strconv.uint64pow10", "math/bits.deBruijn32tab", "math/bits.deBruijn64tab", "moveout/house.steps", "strconv.ErrSyntax", "strconv.ErrRange"], apart := false, laid := [("math/bits.deBruijn32tab", laid_math_bits_deBruijn32tab), ("math/bits.deBruijn64tab", laid_math_bits_deBruijn64tab), ("internal/strconv.uint64pow10", laid_internal_strconv_uint64pow10), ("unicode/utf8.acceptRanges", laid_unicode_utf8_acceptRanges), ("strconv.ErrRange", laid_strconv_ErrRange), ("strconv.ErrSyntax", laid_strconv_ErrSyntax), ("moveout/house.steps", laid_moveout_house_steps), ("unicode/utf8.first", laid_unicode_utf8_first)], narrowed := true }
def HouseLogsUptoSaid : Prop := houseLogsUptoRow.holds Tryz.pinned (OpenSpec.upto houseLogsSpec)

/-- 'moveoutlaw10.HouseSessions', WHERE WHAT IT READS IS OF BULK AT MOST 1048576: true; the input reads as it did. -/
def houseSessionsUptoRow : OpenClaim := { program := "ytgplmdgpmbegiaagreatdoor", sum := "f89a4e7a8cccf6eccfef6fd5d68fa929ebae89591697d17ebe2817eb8a0986e6", func := "moveout/moveoutlaw10.HouseSessions", spec := "houseSessions", inPlace := ["internal/bytealg.CountString", "internal/bytealg.IndexByteString", "internal/bytealg.IndexString", "internal/abi.NoEscape", "internal/bytealg.MakeNoZero"], unfollowed := true, recurses := true, named := ["unicode/utf8.first", "unicode/utf8.acceptRanges", "internal/bytealg.MaxLen", "internal/strconv.uint64pow10", "math/bits.deBruijn32tab", "math/bits.deBruijn64tab", "moveout/house.steps", "strconv.ErrSyntax", "strconv.ErrRange"], apart := false, laid := [("math/bits.deBruijn32tab", laid_math_bits_deBruijn32tab), ("math/bits.deBruijn64tab", laid_math_bits_deBruijn64tab), ("internal/strconv.uint64pow10", laid_internal_strconv_uint64pow10), ("unicode/utf8.acceptRanges", laid_unicode_utf8_acceptRanges), ("strconv.ErrRange", laid_strconv_ErrRange), ("strconv.ErrSyntax", laid_strconv_ErrSyntax), ("moveout/house.steps", laid_moveout_house_steps), ("unicode/utf8.first", laid_unicode_utf8_first)], narrowed := true }
def HouseSessionsUptoSaid : Prop := houseSessionsUptoRow.holds Tryz.pinned (OpenSpec.upto houseSessionsSpec)

/-- 'moveoutlaw10.HouseTurns', WHERE WHAT IT READS IS OF BULK AT MOST 1048576: true; the input reads as it did. -/
def houseTurnsUptoRow : OpenClaim := { program := "ytgplmdgpmbegiaagreatdoor", sum := "f89a4e7a8cccf6eccfef6fd5d68fa929ebae89591697d17ebe2817eb8a0986e6", func := "moveout/moveoutlaw10.HouseTurns", spec := "houseTurns", inPlace := ["internal/bytealg.CountString", "internal/bytealg.IndexByteString", "internal/bytealg.IndexString", "internal/abi.NoEscape", "internal/bytealg.MakeNoZero"], unfollowed := true, recurses := true, named := ["unicode/utf8.first", "unicode/utf8.acceptRanges", "internal/bytealg.MaxLen", "internal/strconv.uint64pow10", "math/bits.deBruijn32tab", "math/bits.deBruijn64tab", "moveout/house.steps", "strconv.ErrSyntax", "strconv.ErrRange"], apart := false, laid := [("math/bits.deBruijn32tab", laid_math_bits_deBruijn32tab), ("math/bits.deBruijn64tab", laid_math_bits_deBruijn64tab), ("internal/strconv.uint64pow10", laid_internal_strconv_uint64pow10), ("unicode/utf8.acceptRanges", laid_unicode_utf8_acceptRanges), ("strconv.ErrRange", laid_strconv_ErrRange), ("strconv.ErrSyntax", laid_strconv_ErrSyntax), ("moveout/house.steps", laid_moveout_house_steps), ("unicode/utf8.first", laid_unicode_utf8_first)], narrowed := true }
def HouseTurnsUptoSaid : Prop := houseTurnsUptoRow.holds Tryz.pinned (OpenSpec.upto houseTurnsSpec)

/-- 'moveoutlaw10.HouseGraphs', WHERE WHAT IT READS IS OF BULK AT MOST 1048576: true; the input reads as it did. -/
def houseGraphsUptoRow : OpenClaim := { program := "ytgplmdgpmbegiaagreatdoor", sum := "f89a4e7a8cccf6eccfef6fd5d68fa929ebae89591697d17ebe2817eb8a0986e6", func := "moveout/moveoutlaw10.HouseGraphs", spec := "houseGraphs", inPlace := ["internal/bytealg.CountString", "internal/bytealg.IndexByteString", "internal/bytealg.IndexString", "internal/abi.NoEscape", "internal/bytealg.MakeNoZero"], unfollowed := true, recurses := true, named := ["unicode/utf8.first", "unicode/utf8.acceptRanges", "internal/bytealg.MaxLen", "internal/strconv.uint64pow10", "math/bits.deBruijn32tab", "math/bits.deBruijn64tab", "moveout/house.steps", "strconv.ErrSyntax", "strconv.ErrRange"], apart := false, laid := [("math/bits.deBruijn32tab", laid_math_bits_deBruijn32tab), ("math/bits.deBruijn64tab", laid_math_bits_deBruijn64tab), ("internal/strconv.uint64pow10", laid_internal_strconv_uint64pow10), ("unicode/utf8.acceptRanges", laid_unicode_utf8_acceptRanges), ("strconv.ErrRange", laid_strconv_ErrRange), ("strconv.ErrSyntax", laid_strconv_ErrSyntax), ("moveout/house.steps", laid_moveout_house_steps), ("unicode/utf8.first", laid_unicode_utf8_first)], narrowed := true }
def HouseGraphsUptoSaid : Prop := houseGraphsUptoRow.holds Tryz.pinned (OpenSpec.upto houseGraphsSpec)

/-- 'moveoutlaw10.HouseTorn', WHERE WHAT IT READS IS OF BULK AT MOST 1048576: true; the input reads as it did. -/
def houseTornUptoRow : OpenClaim := { program := "ytgplmdgpmbegiaagreatdoor", sum := "f89a4e7a8cccf6eccfef6fd5d68fa929ebae89591697d17ebe2817eb8a0986e6", func := "moveout/moveoutlaw10.HouseTorn", spec := "houseTorn", inPlace := ["internal/bytealg.CountString", "internal/bytealg.IndexByteString", "internal/bytealg.IndexString", "internal/abi.NoEscape", "internal/bytealg.MakeNoZero"], unfollowed := true, recurses := true, named := ["unicode/utf8.first", "unicode/utf8.acceptRanges", "internal/bytealg.MaxLen", "internal/strconv.uint64pow10", "math/bits.deBruijn32tab", "math/bits.deBruijn64tab", "moveout/house.steps", "strconv.ErrSyntax", "strconv.ErrRange"], apart := false, laid := [("math/bits.deBruijn32tab", laid_math_bits_deBruijn32tab), ("math/bits.deBruijn64tab", laid_math_bits_deBruijn64tab), ("internal/strconv.uint64pow10", laid_internal_strconv_uint64pow10), ("unicode/utf8.acceptRanges", laid_unicode_utf8_acceptRanges), ("strconv.ErrRange", laid_strconv_ErrRange), ("strconv.ErrSyntax", laid_strconv_ErrSyntax), ("moveout/house.steps", laid_moveout_house_steps), ("unicode/utf8.first", laid_unicode_utf8_first)], narrowed := true }
def HouseTornUptoSaid : Prop := houseTornUptoRow.holds Tryz.pinned (OpenSpec.upto houseTornSpec)

/-- 'moveoutlaw10.HouseEvents', WHERE WHAT IT READS IS OF BULK AT MOST 1048576: true; the input reads as it did. -/
def houseEventsUptoRow : OpenClaim := { program := "ytgplmdgpmbegiaagreatdoor", sum := "f89a4e7a8cccf6eccfef6fd5d68fa929ebae89591697d17ebe2817eb8a0986e6", func := "moveout/moveoutlaw10.HouseEvents", spec := "houseEvents", inPlace := ["internal/bytealg.CountString", "internal/bytealg.IndexByteString", "internal/bytealg.IndexString", "internal/abi.NoEscape", "internal/bytealg.MakeNoZero"], unfollowed := true, recurses := true, named := ["unicode/utf8.first", "unicode/utf8.acceptRanges", "internal/bytealg.MaxLen", "internal/strconv.uint64pow10", "math/bits.deBruijn32tab", "math/bits.deBruijn64tab", "moveout/house.steps", "strconv.ErrSyntax", "strconv.ErrRange"], apart := false, laid := [("math/bits.deBruijn32tab", laid_math_bits_deBruijn32tab), ("math/bits.deBruijn64tab", laid_math_bits_deBruijn64tab), ("internal/strconv.uint64pow10", laid_internal_strconv_uint64pow10), ("unicode/utf8.acceptRanges", laid_unicode_utf8_acceptRanges), ("strconv.ErrRange", laid_strconv_ErrRange), ("strconv.ErrSyntax", laid_strconv_ErrSyntax), ("moveout/house.steps", laid_moveout_house_steps), ("unicode/utf8.first", laid_unicode_utf8_first)], narrowed := true }
def HouseEventsUptoSaid : Prop := houseEventsUptoRow.holds Tryz.pinned (OpenSpec.upto houseEventsSpec)

/-- 'moveoutlaw10.HouseDigests', WHERE WHAT IT READS IS OF BULK AT MOST 1048576: true; the input reads as it did. -/
def houseDigestsUptoRow : OpenClaim := { program := "ytgplmdgpmbegiaagreatdoor", sum := "f89a4e7a8cccf6eccfef6fd5d68fa929ebae89591697d17ebe2817eb8a0986e6", func := "moveout/moveoutlaw10.HouseDigests", spec := "houseDigests", inPlace := ["internal/bytealg.CountString", "internal/bytealg.IndexByteString", "internal/bytealg.IndexString", "internal/abi.NoEscape", "internal/bytealg.MakeNoZero"], unfollowed := true, recurses := true, named := ["unicode/utf8.first", "unicode/utf8.acceptRanges", "internal/bytealg.MaxLen", "internal/strconv.uint64pow10", "math/bits.deBruijn32tab", "math/bits.deBruijn64tab", "moveout/house.steps", "strconv.ErrSyntax", "strconv.ErrRange"], apart := false, laid := [("math/bits.deBruijn32tab", laid_math_bits_deBruijn32tab), ("math/bits.deBruijn64tab", laid_math_bits_deBruijn64tab), ("internal/strconv.uint64pow10", laid_internal_strconv_uint64pow10), ("unicode/utf8.acceptRanges", laid_unicode_utf8_acceptRanges), ("strconv.ErrRange", laid_strconv_ErrRange), ("strconv.ErrSyntax", laid_strconv_ErrSyntax), ("moveout/house.steps", laid_moveout_house_steps), ("unicode/utf8.first", laid_unicode_utf8_first)], narrowed := true }
def HouseDigestsUptoSaid : Prop := houseDigestsUptoRow.holds Tryz.pinned (OpenSpec.upto houseDigestsSpec)

/-- 'moveoutlaw10.HouseNeeds', WHERE WHAT IT READS IS OF BULK AT MOST 1048576: true; the input reads as it did. -/
def houseNeedsUptoRow : OpenClaim := { program := "ytgplmdgpmbegiaagreatdoor", sum := "f89a4e7a8cccf6eccfef6fd5d68fa929ebae89591697d17ebe2817eb8a0986e6", func := "moveout/moveoutlaw10.HouseNeeds", spec := "houseNeeds", inPlace := ["internal/bytealg.CountString", "internal/bytealg.IndexByteString", "internal/bytealg.IndexString", "internal/abi.NoEscape", "internal/bytealg.MakeNoZero"], unfollowed := true, recurses := true, named := ["unicode/utf8.first", "unicode/utf8.acceptRanges", "internal/bytealg.MaxLen", "internal/strconv.uint64pow10", "math/bits.deBruijn32tab", "math/bits.deBruijn64tab", "moveout/house.steps", "strconv.ErrSyntax", "strconv.ErrRange"], apart := false, laid := [("math/bits.deBruijn32tab", laid_math_bits_deBruijn32tab), ("math/bits.deBruijn64tab", laid_math_bits_deBruijn64tab), ("internal/strconv.uint64pow10", laid_internal_strconv_uint64pow10), ("unicode/utf8.acceptRanges", laid_unicode_utf8_acceptRanges), ("strconv.ErrRange", laid_strconv_ErrRange), ("strconv.ErrSyntax", laid_strconv_ErrSyntax), ("moveout/house.steps", laid_moveout_house_steps), ("unicode/utf8.first", laid_unicode_utf8_first)], narrowed := true }
def HouseNeedsUptoSaid : Prop := houseNeedsUptoRow.holds Tryz.pinned (OpenSpec.upto houseNeedsSpec)

end Rows
end Go.Proofs.YtgplmdgpmbegiaaGreatDoor
