/-
  DERIVED. GIVEN WITH THE SEED: THE CARDS: each row of YtfcfelnabfaelaaDoorRows.lean that lists a variable, with what it lists TIED to the program's text (the seventh form; the later family's looks); each row that meets fmt, with fmt's text TOLD by the authors' own Lean function (tested against real Go, not proved from fmt's source: count such statements apart). THE CARD IS WHAT COUNTS. Prove the row's statement (the work); the ties are given (YtfcfelnabfaelaaDoorTie.lean); close each card by the builder's one call (the guide's Derived/Test/ToyasCard.lean, 'card_holds'). Laid BY PROGRAM, IN A SANDBOX (cutbox-door.mjs). By AI agents, Wed Nov 11 2026. No macro, syntax, notation, axiom, sorry.
-/
import Derived.Test.YtfcfelnabfaelaaDoorRows
import GoSem.ClaimSeven
namespace Go.Proofs.YtfcfelnabfaelaaDoor
namespace Rows

/-- THE TIED CARD OF 'moveouttop.TopKeelLapse'. -/
def topKeelLapseCard : Claim7 := { stood := { row := topKeelLapseRow, standIns := [], harness := (true, "3328d075bebf4e946c88a45f7b03a159c4d9bd31d44fe76e17e89ac0d8e9a256"), looks := false }, kinds := [], alts := [], laidByText := true, laidKinds := [.data], laidTests := true, laidLooks := .later }
def TopKeelLapseCardSaid : Prop := Claim7.holds Tryd.pinned (.plain (OpenSpec.ofChange topKeelLapseSpec)) topKeelLapseCard

/-- THE SECOND FORM's CARD OF 'moveouttop.TopKeelLapse'. -/
def topKeelLapseUptoCard : Claim7 := { stood := { row := topKeelLapseUptoRow, standIns := [], harness := (true, "3328d075bebf4e946c88a45f7b03a159c4d9bd31d44fe76e17e89ac0d8e9a256"), looks := false }, kinds := [], alts := [], laidByText := true, laidKinds := [.data], laidTests := true, laidLooks := .later }
def TopKeelLapseUptoCardSaid : Prop := Claim7.holds Tryd.pinned (.plain (OpenSpec.upto topKeelLapseSpec)) topKeelLapseUptoCard
end Rows
end Go.Proofs.YtfcfelnabfaelaaDoor
