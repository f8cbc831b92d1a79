/-
  DERIVED. GIVEN WITH THE SEED: THE CARDS: each row of YtgplmdgpmbegiaaGreatDoorRows.lean that lists a variable, with what it lists TIED to the program's text (the seventh form; the later family's looks); each row that meets fmt, with fmt's text TOLD by the authors' own Lean function (tested against real Go, not proved from fmt's source: count such statements apart). THE CARD IS WHAT COUNTS. Prove the row's statement (the work); the ties are given (YtgplmdgpmbegiaaGreatDoorTie.lean); close each card by the builder's one call (the guide's Derived/Test/ToyasCard.lean, 'card_holds'). Laid BY PROGRAM, IN A SANDBOX (cutbox-door.mjs). By AI agents, Wed Nov 11 2026. No macro, syntax, notation, axiom, sorry.
-/
import Derived.Test.YtgplmdgpmbegiaaGreatDoorRows
import GoSem.ClaimSeven
namespace Go.Proofs.YtgplmdgpmbegiaaGreatDoor
namespace Rows

/-- THE TIED CARD OF 'moveoutlaw10.HouseSafe'. -/
def houseSafeCard : Claim7 := { stood := { row := houseSafeRow, standIns := [], harness := (true, "99e684478f8cae51b056da3a355f6848a653f6e5f09f29bc4422acb306b2dd43"), looks := true }, kinds := [], alts := [], laidByText := true, laidKinds := [.data, .data, .data, .data, .sentinel, .sentinel, .data, .pinned], laidTests := true, laidLooks := .later }
def HouseSafeCardSaid : Prop := Claim7.holds Tryz.pinned (.plain (OpenSpec.ofChange houseSafeSpec)) houseSafeCard

/-- THE TIED CARD OF 'moveoutlaw10.HouseStories'. -/
def houseStoriesCard : Claim7 := { stood := { row := houseStoriesRow, standIns := [], harness := (true, "99e684478f8cae51b056da3a355f6848a653f6e5f09f29bc4422acb306b2dd43"), looks := true }, kinds := [], alts := [], laidByText := true, laidKinds := [.data, .data, .data, .data, .sentinel, .sentinel, .data, .pinned], laidTests := true, laidLooks := .later }
def HouseStoriesCardSaid : Prop := Claim7.holds Tryz.pinned (.plain (OpenSpec.ofChange houseStoriesSpec)) houseStoriesCard

/-- THE TIED CARD OF 'moveoutlaw10.HouseCopied'. -/
def houseCopiedCard : Claim7 := { stood := { row := houseCopiedRow, standIns := [], harness := (true, "99e684478f8cae51b056da3a355f6848a653f6e5f09f29bc4422acb306b2dd43"), looks := true }, kinds := [], alts := [], laidByText := true, laidKinds := [.data, .data, .data, .data, .sentinel, .sentinel, .data, .pinned], laidTests := true, laidLooks := .later }
def HouseCopiedCardSaid : Prop := Claim7.holds Tryz.pinned (.plain (OpenSpec.ofChange houseCopiedSpec)) houseCopiedCard

/-- THE TIED CARD OF 'moveoutlaw10.HouseLogs'. -/
def houseLogsCard : Claim7 := { stood := { row := houseLogsRow, standIns := [], harness := (true, "99e684478f8cae51b056da3a355f6848a653f6e5f09f29bc4422acb306b2dd43"), looks := true }, kinds := [], alts := [], laidByText := true, laidKinds := [.data, .data, .data, .data, .sentinel, .sentinel, .data, .pinned], laidTests := true, laidLooks := .later }
def HouseLogsCardSaid : Prop := Claim7.holds Tryz.pinned (.plain (OpenSpec.ofChange houseLogsSpec)) houseLogsCard

/-- THE TIED CARD OF 'moveoutlaw10.HouseSessions'. -/
def houseSessionsCard : Claim7 := { stood := { row := houseSessionsRow, standIns := [], harness := (true, "99e684478f8cae51b056da3a355f6848a653f6e5f09f29bc4422acb306b2dd43"), looks := true }, kinds := [], alts := [], laidByText := true, laidKinds := [.data, .data, .data, .data, .sentinel, .sentinel, .data, .pinned], laidTests := true, laidLooks := .later }
def HouseSessionsCardSaid : Prop := Claim7.holds Tryz.pinned (.plain (OpenSpec.ofChange houseSessionsSpec)) houseSessionsCard

/-- THE TIED CARD OF 'moveoutlaw10.HouseTurns'. -/
def houseTurnsCard : Claim7 := { stood := { row := houseTurnsRow, standIns := [], harness := (true, "99e684478f8cae51b056da3a355f6848a653f6e5f09f29bc4422acb306b2dd43"), looks := true }, kinds := [], alts := [], laidByText := true, laidKinds := [.data, .data, .data, .data, .sentinel, .sentinel, .data, .pinned], laidTests := true, laidLooks := .later }
def HouseTurnsCardSaid : Prop := Claim7.holds Tryz.pinned (.plain (OpenSpec.ofChange houseTurnsSpec)) houseTurnsCard

/-- THE TIED CARD OF 'moveoutlaw10.HouseGraphs'. -/
def houseGraphsCard : Claim7 := { stood := { row := houseGraphsRow, standIns := [], harness := (true, "99e684478f8cae51b056da3a355f6848a653f6e5f09f29bc4422acb306b2dd43"), looks := true }, kinds := [], alts := [], laidByText := true, laidKinds := [.data, .data, .data, .data, .sentinel, .sentinel, .data, .pinned], laidTests := true, laidLooks := .later }
def HouseGraphsCardSaid : Prop := Claim7.holds Tryz.pinned (.plain (OpenSpec.ofChange houseGraphsSpec)) houseGraphsCard

/-- THE TIED CARD OF 'moveoutlaw10.HouseTorn'. -/
def houseTornCard : Claim7 := { stood := { row := houseTornRow, standIns := [], harness := (true, "99e684478f8cae51b056da3a355f6848a653f6e5f09f29bc4422acb306b2dd43"), looks := true }, kinds := [], alts := [], laidByText := true, laidKinds := [.data, .data, .data, .data, .sentinel, .sentinel, .data, .pinned], laidTests := true, laidLooks := .later }
def HouseTornCardSaid : Prop := Claim7.holds Tryz.pinned (.plain (OpenSpec.ofChange houseTornSpec)) houseTornCard

/-- THE TIED CARD OF 'moveoutlaw10.HouseEvents'. -/
def houseEventsCard : Claim7 := { stood := { row := houseEventsRow, standIns := [], harness := (true, "99e684478f8cae51b056da3a355f6848a653f6e5f09f29bc4422acb306b2dd43"), looks := true }, kinds := [], alts := [], laidByText := true, laidKinds := [.data, .data, .data, .data, .sentinel, .sentinel, .data, .pinned], laidTests := true, laidLooks := .later }
def HouseEventsCardSaid : Prop := Claim7.holds Tryz.pinned (.plain (OpenSpec.ofChange houseEventsSpec)) houseEventsCard

/-- THE TIED CARD OF 'moveoutlaw10.HouseDigests'. -/
def houseDigestsCard : Claim7 := { stood := { row := houseDigestsRow, standIns := [], harness := (true, "99e684478f8cae51b056da3a355f6848a653f6e5f09f29bc4422acb306b2dd43"), looks := true }, kinds := [], alts := [], laidByText := true, laidKinds := [.data, .data, .data, .data, .sentinel, .sentinel, .data, .pinned], laidTests := true, laidLooks := .later }
def HouseDigestsCardSaid : Prop := Claim7.holds Tryz.pinned (.plain (OpenSpec.ofChange houseDigestsSpec)) houseDigestsCard

/-- THE TIED CARD OF 'moveoutlaw10.HouseNeeds'. -/
def houseNeedsCard : Claim7 := { stood := { row := houseNeedsRow, standIns := [], harness := (true, "99e684478f8cae51b056da3a355f6848a653f6e5f09f29bc4422acb306b2dd43"), looks := true }, kinds := [], alts := [], laidByText := true, laidKinds := [.data, .data, .data, .data, .sentinel, .sentinel, .data, .pinned], laidTests := true, laidLooks := .later }
def HouseNeedsCardSaid : Prop := Claim7.holds Tryz.pinned (.plain (OpenSpec.ofChange houseNeedsSpec)) houseNeedsCard

/-- THE SECOND FORM's CARD OF 'moveoutlaw10.HouseSafe'. -/
def houseSafeUptoCard : Claim7 := { stood := { row := houseSafeUptoRow, standIns := [], harness := (true, "99e684478f8cae51b056da3a355f6848a653f6e5f09f29bc4422acb306b2dd43"), looks := true }, kinds := [], alts := [], laidByText := true, laidKinds := [.data, .data, .data, .data, .sentinel, .sentinel, .data, .pinned], laidTests := true, laidLooks := .later }
def HouseSafeUptoCardSaid : Prop := Claim7.holds Tryz.pinned (.plain (OpenSpec.upto houseSafeSpec)) houseSafeUptoCard

/-- THE SECOND FORM's CARD OF 'moveoutlaw10.HouseStories'. -/
def houseStoriesUptoCard : Claim7 := { stood := { row := houseStoriesUptoRow, standIns := [], harness := (true, "99e684478f8cae51b056da3a355f6848a653f6e5f09f29bc4422acb306b2dd43"), looks := true }, kinds := [], alts := [], laidByText := true, laidKinds := [.data, .data, .data, .data, .sentinel, .sentinel, .data, .pinned], laidTests := true, laidLooks := .later }
def HouseStoriesUptoCardSaid : Prop := Claim7.holds Tryz.pinned (.plain (OpenSpec.upto houseStoriesSpec)) houseStoriesUptoCard

/-- THE SECOND FORM's CARD OF 'moveoutlaw10.HouseCopied'. -/
def houseCopiedUptoCard : Claim7 := { stood := { row := houseCopiedUptoRow, standIns := [], harness := (true, "99e684478f8cae51b056da3a355f6848a653f6e5f09f29bc4422acb306b2dd43"), looks := true }, kinds := [], alts := [], laidByText := true, laidKinds := [.data, .data, .data, .data, .sentinel, .sentinel, .data, .pinned], laidTests := true, laidLooks := .later }
def HouseCopiedUptoCardSaid : Prop := Claim7.holds Tryz.pinned (.plain (OpenSpec.upto houseCopiedSpec)) houseCopiedUptoCard

/-- THE SECOND FORM's CARD OF 'moveoutlaw10.HouseLogs'. -/
def houseLogsUptoCard : Claim7 := { stood := { row := houseLogsUptoRow, standIns := [], harness := (true, "99e684478f8cae51b056da3a355f6848a653f6e5f09f29bc4422acb306b2dd43"), looks := true }, kinds := [], alts := [], laidByText := true, laidKinds := [.data, .data, .data, .data, .sentinel, .sentinel, .data, .pinned], laidTests := true, laidLooks := .later }
def HouseLogsUptoCardSaid : Prop := Claim7.holds Tryz.pinned (.plain (OpenSpec.upto houseLogsSpec)) houseLogsUptoCard

/-- THE SECOND FORM's CARD OF 'moveoutlaw10.HouseSessions'. -/
def houseSessionsUptoCard : Claim7 := { stood := { row := houseSessionsUptoRow, standIns := [], harness := (true, "99e684478f8cae51b056da3a355f6848a653f6e5f09f29bc4422acb306b2dd43"), looks := true }, kinds := [], alts := [], laidByText := true, laidKinds := [.data, .data, .data, .data, .sentinel, .sentinel, .data, .pinned], laidTests := true, laidLooks := .later }
def HouseSessionsUptoCardSaid : Prop := Claim7.holds Tryz.pinned (.plain (OpenSpec.upto houseSessionsSpec)) houseSessionsUptoCard

/-- THE SECOND FORM's CARD OF 'moveoutlaw10.HouseTurns'. -/
def houseTurnsUptoCard : Claim7 := { stood := { row := houseTurnsUptoRow, standIns := [], harness := (true, "99e684478f8cae51b056da3a355f6848a653f6e5f09f29bc4422acb306b2dd43"), looks := true }, kinds := [], alts := [], laidByText := true, laidKinds := [.data, .data, .data, .data, .sentinel, .sentinel, .data, .pinned], laidTests := true, laidLooks := .later }
def HouseTurnsUptoCardSaid : Prop := Claim7.holds Tryz.pinned (.plain (OpenSpec.upto houseTurnsSpec)) houseTurnsUptoCard

/-- THE SECOND FORM's CARD OF 'moveoutlaw10.HouseGraphs'. -/
def houseGraphsUptoCard : Claim7 := { stood := { row := houseGraphsUptoRow, standIns := [], harness := (true, "99e684478f8cae51b056da3a355f6848a653f6e5f09f29bc4422acb306b2dd43"), looks := true }, kinds := [], alts := [], laidByText := true, laidKinds := [.data, .data, .data, .data, .sentinel, .sentinel, .data, .pinned], laidTests := true, laidLooks := .later }
def HouseGraphsUptoCardSaid : Prop := Claim7.holds Tryz.pinned (.plain (OpenSpec.upto houseGraphsSpec)) houseGraphsUptoCard

/-- THE SECOND FORM's CARD OF 'moveoutlaw10.HouseTorn'. -/
def houseTornUptoCard : Claim7 := { stood := { row := houseTornUptoRow, standIns := [], harness := (true, "99e684478f8cae51b056da3a355f6848a653f6e5f09f29bc4422acb306b2dd43"), looks := true }, kinds := [], alts := [], laidByText := true, laidKinds := [.data, .data, .data, .data, .sentinel, .sentinel, .data, .pinned], laidTests := true, laidLooks := .later }
def HouseTornUptoCardSaid : Prop := Claim7.holds Tryz.pinned (.plain (OpenSpec.upto houseTornSpec)) houseTornUptoCard

/-- THE SECOND FORM's CARD OF 'moveoutlaw10.HouseEvents'. -/
def houseEventsUptoCard : Claim7 := { stood := { row := houseEventsUptoRow, standIns := [], harness := (true, "99e684478f8cae51b056da3a355f6848a653f6e5f09f29bc4422acb306b2dd43"), looks := true }, kinds := [], alts := [], laidByText := true, laidKinds := [.data, .data, .data, .data, .sentinel, .sentinel, .data, .pinned], laidTests := true, laidLooks := .later }
def HouseEventsUptoCardSaid : Prop := Claim7.holds Tryz.pinned (.plain (OpenSpec.upto houseEventsSpec)) houseEventsUptoCard

/-- THE SECOND FORM's CARD OF 'moveoutlaw10.HouseDigests'. -/
def houseDigestsUptoCard : Claim7 := { stood := { row := houseDigestsUptoRow, standIns := [], harness := (true, "99e684478f8cae51b056da3a355f6848a653f6e5f09f29bc4422acb306b2dd43"), looks := true }, kinds := [], alts := [], laidByText := true, laidKinds := [.data, .data, .data, .data, .sentinel, .sentinel, .data, .pinned], laidTests := true, laidLooks := .later }
def HouseDigestsUptoCardSaid : Prop := Claim7.holds Tryz.pinned (.plain (OpenSpec.upto houseDigestsSpec)) houseDigestsUptoCard

/-- THE SECOND FORM's CARD OF 'moveoutlaw10.HouseNeeds'. -/
def houseNeedsUptoCard : Claim7 := { stood := { row := houseNeedsUptoRow, standIns := [], harness := (true, "99e684478f8cae51b056da3a355f6848a653f6e5f09f29bc4422acb306b2dd43"), looks := true }, kinds := [], alts := [], laidByText := true, laidKinds := [.data, .data, .data, .data, .sentinel, .sentinel, .data, .pinned], laidTests := true, laidLooks := .later }
def HouseNeedsUptoCardSaid : Prop := Claim7.holds Tryz.pinned (.plain (OpenSpec.upto houseNeedsSpec)) houseNeedsUptoCard
end Rows
end Go.Proofs.YtgplmdgpmbegiaaGreatDoor
