/-
  DERIVED. GIVEN WITH THE SEED: THE CARDS: each row of YtjhdkimkijhloaaGreatDoorRows.lean that lists a variable, with what it lists TIED to the program's text (the seventh form; the later family's looks); each row that meets fmt, with fmt's text TOLD by the authors' own Lean function (tested against real Go, not proved from fmt's source: count such statements apart). THE CARD IS WHAT COUNTS. Prove the row's statement (the work); the ties are given (YtjhdkimkijhloaaGreatDoorTie.lean); close each card by the builder's one call (the guide's Derived/Test/ToyasCard.lean, 'card_holds'). Laid BY PROGRAM, IN A SANDBOX (cutbox-door.mjs). By AI agents, Wed Nov 11 2026. No macro, syntax, notation, axiom, sorry.
-/
import Derived.Test.YtjhdkimkijhloaaGreatDoorRows
import GoSem.ClaimSeven
namespace Go.Proofs.YtjhdkimkijhloaaGreatDoor
namespace Rows

/-- THE TIED CARD OF 'moveoutlaw08.HorizonPicks'. -/
def horizonPicksCard : Claim7 := { stood := { row := horizonPicksRow, standIns := [], harness := (true, "ebcced09975124e4fdc27a793f740c15c9f79016bad178323bd89e6d8461bc8d"), looks := false }, kinds := [], alts := [], laidByText := true, laidKinds := [.data, .data, .data, .data], laidTests := true, laidLooks := .later }
def HorizonPicksCardSaid : Prop := Claim7.holds Tryz.pinned (.plain (OpenSpec.ofChange horizonPicksSpec)) horizonPicksCard

/-- THE TIED CARD OF 'moveoutlaw08.HorizonFaults'. -/
def horizonFaultsCard : Claim7 := { stood := { row := horizonFaultsRow, standIns := [], harness := (true, "ebcced09975124e4fdc27a793f740c15c9f79016bad178323bd89e6d8461bc8d"), looks := false }, kinds := [], alts := [], laidByText := true, laidKinds := [.data, .data, .data, .data], laidTests := true, laidLooks := .later }
def HorizonFaultsCardSaid : Prop := Claim7.holds Tryz.pinned (.plain (OpenSpec.ofChange horizonFaultsSpec)) horizonFaultsCard

/-- THE TIED CARD OF 'moveoutlaw08.HorizonDepths'. -/
def horizonDepthsCard : Claim7 := { stood := { row := horizonDepthsRow, standIns := [], harness := (true, "ebcced09975124e4fdc27a793f740c15c9f79016bad178323bd89e6d8461bc8d"), looks := false }, kinds := [], alts := [], laidByText := true, laidKinds := [.data, .data, .data, .data], laidTests := true, laidLooks := .later }
def HorizonDepthsCardSaid : Prop := Claim7.holds Tryz.pinned (.plain (OpenSpec.ofChange horizonDepthsSpec)) horizonDepthsCard

/-- THE TIED CARD OF 'moveoutlaw08.HorizonMaps'. -/
def horizonMapsCard : Claim7 := { stood := { row := horizonMapsRow, standIns := [], harness := (true, "ebcced09975124e4fdc27a793f740c15c9f79016bad178323bd89e6d8461bc8d"), looks := false }, kinds := [], alts := [], laidByText := true, laidKinds := [.data, .data, .data, .data], laidTests := true, laidLooks := .later }
def HorizonMapsCardSaid : Prop := Claim7.holds Tryz.pinned (.plain (OpenSpec.ofChange horizonMapsSpec)) horizonMapsCard

/-- THE TIED CARD OF 'moveoutlaw08.HorizonColumns'. -/
def horizonColumnsCard : Claim7 := { stood := { row := horizonColumnsRow, standIns := [], harness := (true, "ebcced09975124e4fdc27a793f740c15c9f79016bad178323bd89e6d8461bc8d"), looks := false }, kinds := [], alts := [], laidByText := true, laidKinds := [.data, .data, .data, .data], laidTests := true, laidLooks := .later }
def HorizonColumnsCardSaid : Prop := Claim7.holds Tryz.pinned (.plain (OpenSpec.ofChange horizonColumnsSpec)) horizonColumnsCard

/-- THE TIED CARD OF 'moveoutlaw08.HorizonLines'. -/
def horizonLinesCard : Claim7 := { stood := { row := horizonLinesRow, standIns := [], harness := (true, "ebcced09975124e4fdc27a793f740c15c9f79016bad178323bd89e6d8461bc8d"), looks := false }, kinds := [], alts := [], laidByText := true, laidKinds := [.data, .data, .data, .data], laidTests := true, laidLooks := .later }
def HorizonLinesCardSaid : Prop := Claim7.holds Tryz.pinned (.plain (OpenSpec.ofChange horizonLinesSpec)) horizonLinesCard

/-- THE TIED CARD OF 'moveoutlaw08.HorizonCloses'. -/
def horizonClosesCard : Claim7 := { stood := { row := horizonClosesRow, standIns := [], harness := (true, "ebcced09975124e4fdc27a793f740c15c9f79016bad178323bd89e6d8461bc8d"), looks := false }, kinds := [], alts := [], laidByText := true, laidKinds := [.data, .data, .data, .data], laidTests := true, laidLooks := .later }
def HorizonClosesCardSaid : Prop := Claim7.holds Tryz.pinned (.plain (OpenSpec.ofChange horizonClosesSpec)) horizonClosesCard

/-- THE TIED CARD OF 'moveoutlaw08.HorizonLapse'. -/
def horizonLapseCard : Claim7 := { stood := { row := horizonLapseRow, standIns := [], harness := (true, "ebcced09975124e4fdc27a793f740c15c9f79016bad178323bd89e6d8461bc8d"), looks := false }, kinds := [], alts := [], laidByText := true, laidKinds := [.data, .data, .data, .data], laidTests := true, laidLooks := .later }
def HorizonLapseCardSaid : Prop := Claim7.holds Tryz.pinned (.plain (OpenSpec.ofChange horizonLapseSpec)) horizonLapseCard

/-- THE TIED CARD OF 'moveoutlaw08.HorizonGround'. -/
def horizonGroundCard : Claim7 := { stood := { row := horizonGroundRow, standIns := [], harness := (true, "ebcced09975124e4fdc27a793f740c15c9f79016bad178323bd89e6d8461bc8d"), looks := false }, kinds := [], alts := [], laidByText := true, laidKinds := [.data, .data, .data, .data], laidTests := true, laidLooks := .later }
def HorizonGroundCardSaid : Prop := Claim7.holds Tryz.pinned (.plain (OpenSpec.ofChange horizonGroundSpec)) horizonGroundCard

/-- THE TIED CARD OF 'moveoutlaw08.HorizonOrders'. -/
def horizonOrdersCard : Claim7 := { stood := { row := horizonOrdersRow, standIns := [], harness := (true, "ebcced09975124e4fdc27a793f740c15c9f79016bad178323bd89e6d8461bc8d"), looks := false }, kinds := [], alts := [], laidByText := true, laidKinds := [.data, .data, .data, .data], laidTests := true, laidLooks := .later }
def HorizonOrdersCardSaid : Prop := Claim7.holds Tryz.pinned (.plain (OpenSpec.ofChange horizonOrdersSpec)) horizonOrdersCard

/-- THE TIED CARD OF 'moveoutlaw08.HorizonTexts'. -/
def horizonTextsCard : Claim7 := { stood := { row := horizonTextsRow, standIns := [], harness := (true, "ebcced09975124e4fdc27a793f740c15c9f79016bad178323bd89e6d8461bc8d"), looks := false }, kinds := [], alts := [], laidByText := true, laidKinds := [.data, .data, .data, .data, .data, .pinned], laidTests := true, laidLooks := .later }
def HorizonTextsCardSaid : Prop := Claim7.holds Tryz.pinned (.plain (OpenSpec.ofChange horizonTextsSpec)) horizonTextsCard

/-- THE TIED CARD OF 'moveoutlaw08.HorizonBack'. -/
def horizonBackCard : Claim7 := { stood := { row := horizonBackRow, standIns := [], harness := (true, "ebcced09975124e4fdc27a793f740c15c9f79016bad178323bd89e6d8461bc8d"), looks := false }, kinds := [], alts := [], laidByText := true, laidKinds := [.data, .data, .data, .data, .data, .pinned], laidTests := true, laidLooks := .later }
def HorizonBackCardSaid : Prop := Claim7.holds Tryz.pinned (.plain (OpenSpec.ofChange horizonBackSpec)) horizonBackCard

/-- THE SECOND FORM's CARD OF 'moveoutlaw08.HorizonPicks'. -/
def horizonPicksUptoCard : Claim7 := { stood := { row := horizonPicksUptoRow, standIns := [], harness := (true, "ebcced09975124e4fdc27a793f740c15c9f79016bad178323bd89e6d8461bc8d"), looks := false }, kinds := [], alts := [], laidByText := true, laidKinds := [.data, .data, .data, .data], laidTests := true, laidLooks := .later }
def HorizonPicksUptoCardSaid : Prop := Claim7.holds Tryz.pinned (.plain (OpenSpec.upto horizonPicksSpec)) horizonPicksUptoCard

/-- THE SECOND FORM's CARD OF 'moveoutlaw08.HorizonFaults'. -/
def horizonFaultsUptoCard : Claim7 := { stood := { row := horizonFaultsUptoRow, standIns := [], harness := (true, "ebcced09975124e4fdc27a793f740c15c9f79016bad178323bd89e6d8461bc8d"), looks := false }, kinds := [], alts := [], laidByText := true, laidKinds := [.data, .data, .data, .data], laidTests := true, laidLooks := .later }
def HorizonFaultsUptoCardSaid : Prop := Claim7.holds Tryz.pinned (.plain (OpenSpec.upto horizonFaultsSpec)) horizonFaultsUptoCard

/-- THE SECOND FORM's CARD OF 'moveoutlaw08.HorizonDepths'. -/
def horizonDepthsUptoCard : Claim7 := { stood := { row := horizonDepthsUptoRow, standIns := [], harness := (true, "ebcced09975124e4fdc27a793f740c15c9f79016bad178323bd89e6d8461bc8d"), looks := false }, kinds := [], alts := [], laidByText := true, laidKinds := [.data, .data, .data, .data], laidTests := true, laidLooks := .later }
def HorizonDepthsUptoCardSaid : Prop := Claim7.holds Tryz.pinned (.plain (OpenSpec.upto horizonDepthsSpec)) horizonDepthsUptoCard

/-- THE SECOND FORM's CARD OF 'moveoutlaw08.HorizonMaps'. -/
def horizonMapsUptoCard : Claim7 := { stood := { row := horizonMapsUptoRow, standIns := [], harness := (true, "ebcced09975124e4fdc27a793f740c15c9f79016bad178323bd89e6d8461bc8d"), looks := false }, kinds := [], alts := [], laidByText := true, laidKinds := [.data, .data, .data, .data], laidTests := true, laidLooks := .later }
def HorizonMapsUptoCardSaid : Prop := Claim7.holds Tryz.pinned (.plain (OpenSpec.upto horizonMapsSpec)) horizonMapsUptoCard

/-- THE SECOND FORM's CARD OF 'moveoutlaw08.HorizonColumns'. -/
def horizonColumnsUptoCard : Claim7 := { stood := { row := horizonColumnsUptoRow, standIns := [], harness := (true, "ebcced09975124e4fdc27a793f740c15c9f79016bad178323bd89e6d8461bc8d"), looks := false }, kinds := [], alts := [], laidByText := true, laidKinds := [.data, .data, .data, .data], laidTests := true, laidLooks := .later }
def HorizonColumnsUptoCardSaid : Prop := Claim7.holds Tryz.pinned (.plain (OpenSpec.upto horizonColumnsSpec)) horizonColumnsUptoCard

/-- THE SECOND FORM's CARD OF 'moveoutlaw08.HorizonLines'. -/
def horizonLinesUptoCard : Claim7 := { stood := { row := horizonLinesUptoRow, standIns := [], harness := (true, "ebcced09975124e4fdc27a793f740c15c9f79016bad178323bd89e6d8461bc8d"), looks := false }, kinds := [], alts := [], laidByText := true, laidKinds := [.data, .data, .data, .data], laidTests := true, laidLooks := .later }
def HorizonLinesUptoCardSaid : Prop := Claim7.holds Tryz.pinned (.plain (OpenSpec.upto horizonLinesSpec)) horizonLinesUptoCard

/-- THE SECOND FORM's CARD OF 'moveoutlaw08.HorizonCloses'. -/
def horizonClosesUptoCard : Claim7 := { stood := { row := horizonClosesUptoRow, standIns := [], harness := (true, "ebcced09975124e4fdc27a793f740c15c9f79016bad178323bd89e6d8461bc8d"), looks := false }, kinds := [], alts := [], laidByText := true, laidKinds := [.data, .data, .data, .data], laidTests := true, laidLooks := .later }
def HorizonClosesUptoCardSaid : Prop := Claim7.holds Tryz.pinned (.plain (OpenSpec.upto horizonClosesSpec)) horizonClosesUptoCard

/-- THE SECOND FORM's CARD OF 'moveoutlaw08.HorizonLapse'. -/
def horizonLapseUptoCard : Claim7 := { stood := { row := horizonLapseUptoRow, standIns := [], harness := (true, "ebcced09975124e4fdc27a793f740c15c9f79016bad178323bd89e6d8461bc8d"), looks := false }, kinds := [], alts := [], laidByText := true, laidKinds := [.data, .data, .data, .data], laidTests := true, laidLooks := .later }
def HorizonLapseUptoCardSaid : Prop := Claim7.holds Tryz.pinned (.plain (OpenSpec.upto horizonLapseSpec)) horizonLapseUptoCard

/-- THE SECOND FORM's CARD OF 'moveoutlaw08.HorizonGround'. -/
def horizonGroundUptoCard : Claim7 := { stood := { row := horizonGroundUptoRow, standIns := [], harness := (true, "ebcced09975124e4fdc27a793f740c15c9f79016bad178323bd89e6d8461bc8d"), looks := false }, kinds := [], alts := [], laidByText := true, laidKinds := [.data, .data, .data, .data], laidTests := true, laidLooks := .later }
def HorizonGroundUptoCardSaid : Prop := Claim7.holds Tryz.pinned (.plain (OpenSpec.upto horizonGroundSpec)) horizonGroundUptoCard

/-- THE SECOND FORM's CARD OF 'moveoutlaw08.HorizonOrders'. -/
def horizonOrdersUptoCard : Claim7 := { stood := { row := horizonOrdersUptoRow, standIns := [], harness := (true, "ebcced09975124e4fdc27a793f740c15c9f79016bad178323bd89e6d8461bc8d"), looks := false }, kinds := [], alts := [], laidByText := true, laidKinds := [.data, .data, .data, .data], laidTests := true, laidLooks := .later }
def HorizonOrdersUptoCardSaid : Prop := Claim7.holds Tryz.pinned (.plain (OpenSpec.upto horizonOrdersSpec)) horizonOrdersUptoCard

/-- THE SECOND FORM's CARD OF 'moveoutlaw08.HorizonTexts'. -/
def horizonTextsUptoCard : Claim7 := { stood := { row := horizonTextsUptoRow, standIns := [], harness := (true, "ebcced09975124e4fdc27a793f740c15c9f79016bad178323bd89e6d8461bc8d"), looks := false }, kinds := [], alts := [], laidByText := true, laidKinds := [.data, .data, .data, .data, .data, .pinned], laidTests := true, laidLooks := .later }
def HorizonTextsUptoCardSaid : Prop := Claim7.holds Tryz.pinned (.plain (OpenSpec.upto horizonTextsSpec)) horizonTextsUptoCard

/-- THE SECOND FORM's CARD OF 'moveoutlaw08.HorizonBack'. -/
def horizonBackUptoCard : Claim7 := { stood := { row := horizonBackUptoRow, standIns := [], harness := (true, "ebcced09975124e4fdc27a793f740c15c9f79016bad178323bd89e6d8461bc8d"), looks := false }, kinds := [], alts := [], laidByText := true, laidKinds := [.data, .data, .data, .data, .data, .pinned], laidTests := true, laidLooks := .later }
def HorizonBackUptoCardSaid : Prop := Claim7.holds Tryz.pinned (.plain (OpenSpec.upto horizonBackSpec)) horizonBackUptoCard
end Rows
end Go.Proofs.YtjhdkimkijhloaaGreatDoor
