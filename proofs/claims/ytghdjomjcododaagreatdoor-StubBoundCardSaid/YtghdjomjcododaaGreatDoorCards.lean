/-
  DERIVED. GIVEN WITH THE SEED: THE CARDS: each row of YtghdjomjcododaaGreatDoorRows.lean that lists a variable, with what it lists TIED to the program's text (the seventh form; the later family's looks); each row that meets fmt, with fmt's text TOLD by the authors' own Lean function (tested against real Go, not proved from fmt's source: count such statements apart). THE CARD IS WHAT COUNTS. Prove the row's statement (the work); the ties are given (YtghdjomjcododaaGreatDoorTie.lean); close each card by the builder's one call (the guide's Derived/Test/ToyasCard.lean, 'card_holds'). Laid BY PROGRAM, IN A SANDBOX (cutbox-door.mjs). By AI agents, Wed Nov 11 2026. No macro, syntax, notation, axiom, sorry.
-/
import Derived.Test.YtghdjomjcododaaGreatDoorRows
import GoSem.ClaimSeven
namespace Go.Proofs.YtghdjomjcododaaGreatDoor
namespace Rows

/-- THE TIED CARD OF 'conciergelaw16.StubBound'. -/
def stubBoundCard : Claim7 := { stood := { row := stubBoundRow, standIns := [], harness := (true, "58697a133742a5f964e9a383bfffb5243dc52e59cabb0ea5c9cfe88acdaa5937"), looks := true }, kinds := [], alts := [], laidByText := true, laidKinds := [.data, .data, .data, .data, .sentinel, .sentinel, .pinned], laidTests := true, laidLooks := .later }
def StubBoundCardSaid : Prop := Claim7.holds Tryz.pinned (.plain (OpenSpec.ofChange stubBoundSpec)) stubBoundCard

/-- THE SECOND FORM's CARD OF 'conciergelaw16.StubBound'. -/
def stubBoundUptoCard : Claim7 := { stood := { row := stubBoundUptoRow, standIns := [], harness := (true, "58697a133742a5f964e9a383bfffb5243dc52e59cabb0ea5c9cfe88acdaa5937"), looks := true }, kinds := [], alts := [], laidByText := true, laidKinds := [.data, .data, .data, .data, .sentinel, .sentinel, .pinned], laidTests := true, laidLooks := .later }
def StubBoundUptoCardSaid : Prop := Claim7.holds Tryz.pinned (.plain (OpenSpec.upto stubBoundSpec)) stubBoundUptoCard
end Rows
end Go.Proofs.YtghdjomjcododaaGreatDoor
