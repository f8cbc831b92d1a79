/-
  DERIVED. GIVEN WITH THE SEED: THE CARDS: each row of YtjipbemoklhnaaaGreatDoorRows.lean that lists a variable, with what it lists TIED to the program's text (the seventh form; the later family's looks); each row that meets fmt, with fmt's text TOLD by the authors' own Lean function (tested against real Go, not proved from fmt's source: count such statements apart). THE CARD IS WHAT COUNTS. Prove the row's statement (the work); the ties are given (YtjipbemoklhnaaaGreatDoorTie.lean); close each card by the builder's one call (the guide's Derived/Test/ToyasCard.lean, 'card_holds'). Laid BY PROGRAM, IN A SANDBOX (cutbox-door.mjs). By AI agents, Wed Nov 11 2026. No macro, syntax, notation, axiom, sorry.
-/
import Derived.Test.YtjipbemoklhnaaaGreatDoorRows
import GoSem.ClaimSeven
namespace Go.Proofs.YtjipbemoklhnaaaGreatDoor
namespace Rows

/-- THE TIED CARD OF 'moveouttop.TopAnchorCopied'. -/
def topAnchorCopiedCard : Claim7 := { stood := { row := topAnchorCopiedRow, standIns := [], harness := (true, "c1b021ecd57596f2bf390c44327b1ef239e203b65a7d104cdc6fbd7710dc9fb7"), looks := true }, kinds := [], alts := [], laidByText := true, laidKinds := [.data, .data], laidTests := true, laidLooks := .later }
def TopAnchorCopiedCardSaid : Prop := Claim7.holds Tryz.pinned (.plain (OpenSpec.ofChange topAnchorCopiedSpec)) topAnchorCopiedCard

/-- THE TIED CARD OF 'moveouttop.TopAnchorUndone'. -/
def topAnchorUndoneCard : Claim7 := { stood := { row := topAnchorUndoneRow, standIns := [], harness := (true, "c1b021ecd57596f2bf390c44327b1ef239e203b65a7d104cdc6fbd7710dc9fb7"), looks := true }, kinds := [], alts := [], laidByText := true, laidKinds := [.data, .data, .data, .data, .sentinel, .sentinel, .data, .data, .pinned], laidTests := true, laidLooks := .later }
def TopAnchorUndoneCardSaid : Prop := Claim7.holds Tryz.pinned (.plain (OpenSpec.ofChange topAnchorUndoneSpec)) topAnchorUndoneCard

/-- THE SECOND FORM's CARD OF 'moveouttop.TopAnchorCopied'. -/
def topAnchorCopiedUptoCard : Claim7 := { stood := { row := topAnchorCopiedUptoRow, standIns := [], harness := (true, "c1b021ecd57596f2bf390c44327b1ef239e203b65a7d104cdc6fbd7710dc9fb7"), looks := true }, kinds := [], alts := [], laidByText := true, laidKinds := [.data, .data], laidTests := true, laidLooks := .later }
def TopAnchorCopiedUptoCardSaid : Prop := Claim7.holds Tryz.pinned (.plain (OpenSpec.upto topAnchorCopiedSpec)) topAnchorCopiedUptoCard

/-- THE SECOND FORM's CARD OF 'moveouttop.TopAnchorUndone'. -/
def topAnchorUndoneUptoCard : Claim7 := { stood := { row := topAnchorUndoneUptoRow, standIns := [], harness := (true, "c1b021ecd57596f2bf390c44327b1ef239e203b65a7d104cdc6fbd7710dc9fb7"), looks := true }, kinds := [], alts := [], laidByText := true, laidKinds := [.data, .data, .data, .data, .sentinel, .sentinel, .data, .data, .pinned], laidTests := true, laidLooks := .later }
def TopAnchorUndoneUptoCardSaid : Prop := Claim7.holds Tryz.pinned (.plain (OpenSpec.upto topAnchorUndoneSpec)) topAnchorUndoneUptoCard
end Rows
end Go.Proofs.YtjipbemoklhnaaaGreatDoor
