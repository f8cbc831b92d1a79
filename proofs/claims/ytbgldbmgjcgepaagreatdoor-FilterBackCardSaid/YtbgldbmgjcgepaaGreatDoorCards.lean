/-
  DERIVED. GIVEN WITH THE SEED: THE CARDS: each row of YtbgldbmgjcgepaaGreatDoorRows.lean that lists a variable, with what it lists TIED to the program's text (the seventh form; the later family's looks); each row that meets fmt, with fmt's text TOLD by the authors' own Lean function (tested against real Go, not proved from fmt's source: count such statements apart). THE CARD IS WHAT COUNTS. Prove the row's statement (the work); the ties are given (YtbgldbmgjcgepaaGreatDoorTie.lean); close each card by the builder's one call (the guide's Derived/Test/ToyasCard.lean, 'card_holds'). Laid BY PROGRAM, IN A SANDBOX (cutbox-door.mjs). By AI agents, Wed Nov 11 2026. No macro, syntax, notation, axiom, sorry.
-/
import Derived.Test.YtbgldbmgjcgepaaGreatDoorRows
import GoSem.ClaimSeven
namespace Go.Proofs.YtbgldbmgjcgepaaGreatDoor
namespace Rows

/-- THE TIED CARD OF 'moveoutlaw05.FilterTaps'. -/
def filterTapsCard : Claim7 := { stood := { row := filterTapsRow, standIns := [], harness := (true, "935bb61a7861a9fad800c7aac49f604bfc9e5b8f028eba8f042cb1ef6ca0aa73"), looks := true }, kinds := [], alts := [], laidByText := true, laidKinds := [.data, .data, .data, .data], laidTests := true, laidLooks := .later }
def FilterTapsCardSaid : Prop := Claim7.holds Tryz.pinned (.plain (OpenSpec.ofChange filterTapsSpec)) filterTapsCard

/-- THE TIED CARD OF 'moveoutlaw05.FilterSubtracts'. -/
def filterSubtractsCard : Claim7 := { stood := { row := filterSubtractsRow, standIns := [], harness := (true, "935bb61a7861a9fad800c7aac49f604bfc9e5b8f028eba8f042cb1ef6ca0aa73"), looks := true }, kinds := [], alts := [], laidByText := true, laidKinds := [.data, .data, .data, .data], laidTests := true, laidLooks := .later }
def FilterSubtractsCardSaid : Prop := Claim7.holds Tryz.pinned (.plain (OpenSpec.ofChange filterSubtractsSpec)) filterSubtractsCard

/-- THE TIED CARD OF 'moveoutlaw05.FilterWeights'. -/
def filterWeightsCard : Claim7 := { stood := { row := filterWeightsRow, standIns := [], harness := (true, "935bb61a7861a9fad800c7aac49f604bfc9e5b8f028eba8f042cb1ef6ca0aa73"), looks := true }, kinds := [], alts := [], laidByText := true, laidKinds := [.data, .data, .data, .data], laidTests := true, laidLooks := .later }
def FilterWeightsCardSaid : Prop := Claim7.holds Tryz.pinned (.plain (OpenSpec.ofChange filterWeightsSpec)) filterWeightsCard

/-- THE TIED CARD OF 'moveoutlaw05.FilterTides'. -/
def filterTidesCard : Claim7 := { stood := { row := filterTidesRow, standIns := [], harness := (true, "935bb61a7861a9fad800c7aac49f604bfc9e5b8f028eba8f042cb1ef6ca0aa73"), looks := true }, kinds := [], alts := [], laidByText := true, laidKinds := [.data, .data, .data, .data], laidTests := true, laidLooks := .later }
def FilterTidesCardSaid : Prop := Claim7.holds Tryz.pinned (.plain (OpenSpec.ofChange filterTidesSpec)) filterTidesCard

/-- THE TIED CARD OF 'moveoutlaw05.FilterAdjoint'. -/
def filterAdjointCard : Claim7 := { stood := { row := filterAdjointRow, standIns := [], harness := (true, "935bb61a7861a9fad800c7aac49f604bfc9e5b8f028eba8f042cb1ef6ca0aa73"), looks := true }, kinds := [], alts := [], laidByText := true, laidKinds := [.data, .data, .data, .data], laidTests := true, laidLooks := .later }
def FilterAdjointCardSaid : Prop := Claim7.holds Tryz.pinned (.plain (OpenSpec.ofChange filterAdjointSpec)) filterAdjointCard

/-- THE TIED CARD OF 'moveoutlaw05.FilterKept'. -/
def filterKeptCard : Claim7 := { stood := { row := filterKeptRow, standIns := [], harness := (true, "935bb61a7861a9fad800c7aac49f604bfc9e5b8f028eba8f042cb1ef6ca0aa73"), looks := true }, kinds := [], alts := [], laidByText := true, laidKinds := [.data, .data, .data, .data], laidTests := true, laidLooks := .later }
def FilterKeptCardSaid : Prop := Claim7.holds Tryz.pinned (.plain (OpenSpec.ofChange filterKeptSpec)) filterKeptCard

/-- THE TIED CARD OF 'moveoutlaw05.FilterPredicts'. -/
def filterPredictsCard : Claim7 := { stood := { row := filterPredictsRow, standIns := [], harness := (true, "935bb61a7861a9fad800c7aac49f604bfc9e5b8f028eba8f042cb1ef6ca0aa73"), looks := true }, kinds := [], alts := [], laidByText := true, laidKinds := [.data, .data, .data, .data], laidTests := true, laidLooks := .later }
def FilterPredictsCardSaid : Prop := Claim7.holds Tryz.pinned (.plain (OpenSpec.ofChange filterPredictsSpec)) filterPredictsCard

/-- THE TIED CARD OF 'moveoutlaw05.FilterLeast'. -/
def filterLeastCard : Claim7 := { stood := { row := filterLeastRow, standIns := [], harness := (true, "935bb61a7861a9fad800c7aac49f604bfc9e5b8f028eba8f042cb1ef6ca0aa73"), looks := true }, kinds := [], alts := [], laidByText := true, laidKinds := [.data, .data, .data, .data], laidTests := true, laidLooks := .later }
def FilterLeastCardSaid : Prop := Claim7.holds Tryz.pinned (.plain (OpenSpec.ofChange filterLeastSpec)) filterLeastCard

/-- THE TIED CARD OF 'moveoutlaw05.FilterGhosts'. -/
def filterGhostsCard : Claim7 := { stood := { row := filterGhostsRow, standIns := [], harness := (true, "935bb61a7861a9fad800c7aac49f604bfc9e5b8f028eba8f042cb1ef6ca0aa73"), looks := true }, kinds := [], alts := [], laidByText := true, laidKinds := [.data, .data, .data, .data], laidTests := true, laidLooks := .later }
def FilterGhostsCardSaid : Prop := Claim7.holds Tryz.pinned (.plain (OpenSpec.ofChange filterGhostsSpec)) filterGhostsCard

/-- THE TIED CARD OF 'moveoutlaw05.FilterUndone'. -/
def filterUndoneCard : Claim7 := { stood := { row := filterUndoneRow, standIns := [], harness := (true, "935bb61a7861a9fad800c7aac49f604bfc9e5b8f028eba8f042cb1ef6ca0aa73"), looks := true }, kinds := [], alts := [], laidByText := true, laidKinds := [.data, .data, .data, .data], laidTests := true, laidLooks := .later }
def FilterUndoneCardSaid : Prop := Claim7.holds Tryz.pinned (.plain (OpenSpec.ofChange filterUndoneSpec)) filterUndoneCard

/-- THE TIED CARD OF 'moveoutlaw05.FilterShots'. -/
def filterShotsCard : Claim7 := { stood := { row := filterShotsRow, standIns := [], harness := (true, "935bb61a7861a9fad800c7aac49f604bfc9e5b8f028eba8f042cb1ef6ca0aa73"), looks := true }, kinds := [], alts := [], laidByText := true, laidKinds := [.data, .data, .data, .data, .data], laidTests := true, laidLooks := .later }
def FilterShotsCardSaid : Prop := Claim7.holds Tryz.pinned (.plain (OpenSpec.ofChange filterShotsSpec)) filterShotsCard

/-- THE TIED CARD OF 'moveoutlaw05.FilterHoles'. -/
def filterHolesCard : Claim7 := { stood := { row := filterHolesRow, standIns := [], harness := (true, "935bb61a7861a9fad800c7aac49f604bfc9e5b8f028eba8f042cb1ef6ca0aa73"), looks := true }, kinds := [], alts := [], laidByText := true, laidKinds := [.data, .data, .data, .data, .data], laidTests := true, laidLooks := .later }
def FilterHolesCardSaid : Prop := Claim7.holds Tryz.pinned (.plain (OpenSpec.ofChange filterHolesSpec)) filterHolesCard

/-- THE TIED CARD OF 'moveoutlaw05.FilterTexts'. -/
def filterTextsCard : Claim7 := { stood := { row := filterTextsRow, standIns := [], harness := (true, "935bb61a7861a9fad800c7aac49f604bfc9e5b8f028eba8f042cb1ef6ca0aa73"), looks := true }, kinds := [], alts := [], laidByText := true, laidKinds := [.data, .data, .data, .data, .sentinel, .sentinel, .data, .pinned], laidTests := true, laidLooks := .later }
def FilterTextsCardSaid : Prop := Claim7.holds Tryz.pinned (.plain (OpenSpec.ofChange filterTextsSpec)) filterTextsCard

/-- THE TIED CARD OF 'moveoutlaw05.FilterBack'. -/
def filterBackCard : Claim7 := { stood := { row := filterBackRow, standIns := [], harness := (true, "935bb61a7861a9fad800c7aac49f604bfc9e5b8f028eba8f042cb1ef6ca0aa73"), looks := true }, kinds := [], alts := [], laidByText := true, laidKinds := [.data, .data, .data, .data, .sentinel, .sentinel, .data, .pinned], laidTests := true, laidLooks := .later }
def FilterBackCardSaid : Prop := Claim7.holds Tryz.pinned (.plain (OpenSpec.ofChange filterBackSpec)) filterBackCard

/-- THE SECOND FORM's CARD OF 'moveoutlaw05.FilterTaps'. -/
def filterTapsUptoCard : Claim7 := { stood := { row := filterTapsUptoRow, standIns := [], harness := (true, "935bb61a7861a9fad800c7aac49f604bfc9e5b8f028eba8f042cb1ef6ca0aa73"), looks := true }, kinds := [], alts := [], laidByText := true, laidKinds := [.data, .data, .data, .data], laidTests := true, laidLooks := .later }
def FilterTapsUptoCardSaid : Prop := Claim7.holds Tryz.pinned (.plain (OpenSpec.upto filterTapsSpec)) filterTapsUptoCard

/-- THE SECOND FORM's CARD OF 'moveoutlaw05.FilterSubtracts'. -/
def filterSubtractsUptoCard : Claim7 := { stood := { row := filterSubtractsUptoRow, standIns := [], harness := (true, "935bb61a7861a9fad800c7aac49f604bfc9e5b8f028eba8f042cb1ef6ca0aa73"), looks := true }, kinds := [], alts := [], laidByText := true, laidKinds := [.data, .data, .data, .data], laidTests := true, laidLooks := .later }
def FilterSubtractsUptoCardSaid : Prop := Claim7.holds Tryz.pinned (.plain (OpenSpec.upto filterSubtractsSpec)) filterSubtractsUptoCard

/-- THE SECOND FORM's CARD OF 'moveoutlaw05.FilterWeights'. -/
def filterWeightsUptoCard : Claim7 := { stood := { row := filterWeightsUptoRow, standIns := [], harness := (true, "935bb61a7861a9fad800c7aac49f604bfc9e5b8f028eba8f042cb1ef6ca0aa73"), looks := true }, kinds := [], alts := [], laidByText := true, laidKinds := [.data, .data, .data, .data], laidTests := true, laidLooks := .later }
def FilterWeightsUptoCardSaid : Prop := Claim7.holds Tryz.pinned (.plain (OpenSpec.upto filterWeightsSpec)) filterWeightsUptoCard

/-- THE SECOND FORM's CARD OF 'moveoutlaw05.FilterTides'. -/
def filterTidesUptoCard : Claim7 := { stood := { row := filterTidesUptoRow, standIns := [], harness := (true, "935bb61a7861a9fad800c7aac49f604bfc9e5b8f028eba8f042cb1ef6ca0aa73"), looks := true }, kinds := [], alts := [], laidByText := true, laidKinds := [.data, .data, .data, .data], laidTests := true, laidLooks := .later }
def FilterTidesUptoCardSaid : Prop := Claim7.holds Tryz.pinned (.plain (OpenSpec.upto filterTidesSpec)) filterTidesUptoCard

/-- THE SECOND FORM's CARD OF 'moveoutlaw05.FilterAdjoint'. -/
def filterAdjointUptoCard : Claim7 := { stood := { row := filterAdjointUptoRow, standIns := [], harness := (true, "935bb61a7861a9fad800c7aac49f604bfc9e5b8f028eba8f042cb1ef6ca0aa73"), looks := true }, kinds := [], alts := [], laidByText := true, laidKinds := [.data, .data, .data, .data], laidTests := true, laidLooks := .later }
def FilterAdjointUptoCardSaid : Prop := Claim7.holds Tryz.pinned (.plain (OpenSpec.upto filterAdjointSpec)) filterAdjointUptoCard

/-- THE SECOND FORM's CARD OF 'moveoutlaw05.FilterKept'. -/
def filterKeptUptoCard : Claim7 := { stood := { row := filterKeptUptoRow, standIns := [], harness := (true, "935bb61a7861a9fad800c7aac49f604bfc9e5b8f028eba8f042cb1ef6ca0aa73"), looks := true }, kinds := [], alts := [], laidByText := true, laidKinds := [.data, .data, .data, .data], laidTests := true, laidLooks := .later }
def FilterKeptUptoCardSaid : Prop := Claim7.holds Tryz.pinned (.plain (OpenSpec.upto filterKeptSpec)) filterKeptUptoCard

/-- THE SECOND FORM's CARD OF 'moveoutlaw05.FilterPredicts'. -/
def filterPredictsUptoCard : Claim7 := { stood := { row := filterPredictsUptoRow, standIns := [], harness := (true, "935bb61a7861a9fad800c7aac49f604bfc9e5b8f028eba8f042cb1ef6ca0aa73"), looks := true }, kinds := [], alts := [], laidByText := true, laidKinds := [.data, .data, .data, .data], laidTests := true, laidLooks := .later }
def FilterPredictsUptoCardSaid : Prop := Claim7.holds Tryz.pinned (.plain (OpenSpec.upto filterPredictsSpec)) filterPredictsUptoCard

/-- THE SECOND FORM's CARD OF 'moveoutlaw05.FilterLeast'. -/
def filterLeastUptoCard : Claim7 := { stood := { row := filterLeastUptoRow, standIns := [], harness := (true, "935bb61a7861a9fad800c7aac49f604bfc9e5b8f028eba8f042cb1ef6ca0aa73"), looks := true }, kinds := [], alts := [], laidByText := true, laidKinds := [.data, .data, .data, .data], laidTests := true, laidLooks := .later }
def FilterLeastUptoCardSaid : Prop := Claim7.holds Tryz.pinned (.plain (OpenSpec.upto filterLeastSpec)) filterLeastUptoCard

/-- THE SECOND FORM's CARD OF 'moveoutlaw05.FilterGhosts'. -/
def filterGhostsUptoCard : Claim7 := { stood := { row := filterGhostsUptoRow, standIns := [], harness := (true, "935bb61a7861a9fad800c7aac49f604bfc9e5b8f028eba8f042cb1ef6ca0aa73"), looks := true }, kinds := [], alts := [], laidByText := true, laidKinds := [.data, .data, .data, .data], laidTests := true, laidLooks := .later }
def FilterGhostsUptoCardSaid : Prop := Claim7.holds Tryz.pinned (.plain (OpenSpec.upto filterGhostsSpec)) filterGhostsUptoCard

/-- THE SECOND FORM's CARD OF 'moveoutlaw05.FilterUndone'. -/
def filterUndoneUptoCard : Claim7 := { stood := { row := filterUndoneUptoRow, standIns := [], harness := (true, "935bb61a7861a9fad800c7aac49f604bfc9e5b8f028eba8f042cb1ef6ca0aa73"), looks := true }, kinds := [], alts := [], laidByText := true, laidKinds := [.data, .data, .data, .data], laidTests := true, laidLooks := .later }
def FilterUndoneUptoCardSaid : Prop := Claim7.holds Tryz.pinned (.plain (OpenSpec.upto filterUndoneSpec)) filterUndoneUptoCard

/-- THE SECOND FORM's CARD OF 'moveoutlaw05.FilterShots'. -/
def filterShotsUptoCard : Claim7 := { stood := { row := filterShotsUptoRow, standIns := [], harness := (true, "935bb61a7861a9fad800c7aac49f604bfc9e5b8f028eba8f042cb1ef6ca0aa73"), looks := true }, kinds := [], alts := [], laidByText := true, laidKinds := [.data, .data, .data, .data, .data], laidTests := true, laidLooks := .later }
def FilterShotsUptoCardSaid : Prop := Claim7.holds Tryz.pinned (.plain (OpenSpec.upto filterShotsSpec)) filterShotsUptoCard

/-- THE SECOND FORM's CARD OF 'moveoutlaw05.FilterHoles'. -/
def filterHolesUptoCard : Claim7 := { stood := { row := filterHolesUptoRow, standIns := [], harness := (true, "935bb61a7861a9fad800c7aac49f604bfc9e5b8f028eba8f042cb1ef6ca0aa73"), looks := true }, kinds := [], alts := [], laidByText := true, laidKinds := [.data, .data, .data, .data, .data], laidTests := true, laidLooks := .later }
def FilterHolesUptoCardSaid : Prop := Claim7.holds Tryz.pinned (.plain (OpenSpec.upto filterHolesSpec)) filterHolesUptoCard

/-- THE SECOND FORM's CARD OF 'moveoutlaw05.FilterTexts'. -/
def filterTextsUptoCard : Claim7 := { stood := { row := filterTextsUptoRow, standIns := [], harness := (true, "935bb61a7861a9fad800c7aac49f604bfc9e5b8f028eba8f042cb1ef6ca0aa73"), looks := true }, kinds := [], alts := [], laidByText := true, laidKinds := [.data, .data, .data, .data, .sentinel, .sentinel, .data, .pinned], laidTests := true, laidLooks := .later }
def FilterTextsUptoCardSaid : Prop := Claim7.holds Tryz.pinned (.plain (OpenSpec.upto filterTextsSpec)) filterTextsUptoCard

/-- THE SECOND FORM's CARD OF 'moveoutlaw05.FilterBack'. -/
def filterBackUptoCard : Claim7 := { stood := { row := filterBackUptoRow, standIns := [], harness := (true, "935bb61a7861a9fad800c7aac49f604bfc9e5b8f028eba8f042cb1ef6ca0aa73"), looks := true }, kinds := [], alts := [], laidByText := true, laidKinds := [.data, .data, .data, .data, .sentinel, .sentinel, .data, .pinned], laidTests := true, laidLooks := .later }
def FilterBackUptoCardSaid : Prop := Claim7.holds Tryz.pinned (.plain (OpenSpec.upto filterBackSpec)) filterBackUptoCard
end Rows
end Go.Proofs.YtbgldbmgjcgepaaGreatDoor
