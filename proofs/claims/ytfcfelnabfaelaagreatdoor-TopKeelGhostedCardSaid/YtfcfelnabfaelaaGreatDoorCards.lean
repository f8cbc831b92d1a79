/-
  DERIVED. GIVEN WITH THE SEED: THE CARDS: each row of YtfcfelnabfaelaaGreatDoorRows.lean that lists a variable, with what it lists TIED to the program's text (the seventh form; the later family's looks); each row that meets fmt, with fmt's text TOLD by the authors' own Lean function (tested against real Go, not proved from fmt's source: count such statements apart). THE CARD IS WHAT COUNTS. Prove the row's statement (the work); the ties are given (YtfcfelnabfaelaaGreatDoorTie.lean); close each card by the builder's one call (the guide's Derived/Test/ToyasCard.lean, 'card_holds'). Laid BY PROGRAM, IN A SANDBOX (cutbox-door.mjs). By AI agents, Wed Nov 11 2026. No macro, syntax, notation, axiom, sorry.
-/
import Derived.Test.YtfcfelnabfaelaaGreatDoorRows
import GoSem.ClaimSeven
namespace Go.Proofs.YtfcfelnabfaelaaGreatDoor
namespace Rows

/-- THE TIED CARD OF 'moveouttop.TopKeelGhosted'. -/
def topKeelGhostedCard : Claim7 := { stood := { row := topKeelGhostedRow, standIns := [], harness := (true, "20811e888ac8014771364c1ae681d1dfcd67913949ffd353f62130b92039258e"), looks := false }, kinds := [], alts := [], laidByText := true, laidKinds := [.data], laidTests := true, laidLooks := .later }
def TopKeelGhostedCardSaid : Prop := Claim7.holds Tryz.pinned (.plain (OpenSpec.ofChange topKeelGhostedSpec)) topKeelGhostedCard

/-- THE SECOND FORM's CARD OF 'moveouttop.TopKeelGhosted'. -/
def topKeelGhostedUptoCard : Claim7 := { stood := { row := topKeelGhostedUptoRow, standIns := [], harness := (true, "20811e888ac8014771364c1ae681d1dfcd67913949ffd353f62130b92039258e"), looks := false }, kinds := [], alts := [], laidByText := true, laidKinds := [.data], laidTests := true, laidLooks := .later }
def TopKeelGhostedUptoCardSaid : Prop := Claim7.holds Tryz.pinned (.plain (OpenSpec.upto topKeelGhostedSpec)) topKeelGhostedUptoCard
end Rows
end Go.Proofs.YtfcfelnabfaelaaGreatDoor
