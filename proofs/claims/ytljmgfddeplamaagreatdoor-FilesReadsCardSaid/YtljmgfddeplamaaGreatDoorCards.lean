/-
  DERIVED. GIVEN WITH THE SEED: THE CARDS: each row of YtljmgfddeplamaaGreatDoorRows.lean that lists a variable, with what it lists TIED to the program's text (the seventh form; the later family's looks); each row that meets fmt, with fmt's text TOLD by the authors' own Lean function (tested against real Go, not proved from fmt's source: count such statements apart). THE CARD IS WHAT COUNTS. Prove the row's statement (the work); the ties are given (YtljmgfddeplamaaGreatDoorTie.lean); close each card by the builder's one call (the guide's Derived/Test/ToyasCard.lean, 'card_holds'). Laid BY PROGRAM, IN A SANDBOX (cutbox-door.mjs). By AI agents, Wed Nov 11 2026. No macro, syntax, notation, axiom, sorry.
-/
import Derived.Test.YtljmgfddeplamaaGreatDoorRows
import GoSem.ClaimSeven
namespace Go.Proofs.YtljmgfddeplamaaGreatDoor
namespace Rows

/-- THE TIED CARD OF 'conciergelaw8.FilesReads'. -/
def filesReadsCard : Claim7 := { stood := { row := filesReadsRow, standIns := [], harness := (true, "1d4fa9eb564bd6899d02534871185f4da3a2e73d451d8c91894bff1e59f49fe6"), looks := true }, kinds := [], alts := [], laidByText := true, laidKinds := [.data, .data, .data, .data, .sentinel, .sentinel, .pinned], laidTests := true, laidLooks := .later }
def FilesReadsCardSaid : Prop := Claim7.holds Tryz.pinned (.plain (OpenSpec.ofChange filesReadsSpec)) filesReadsCard

/-- THE SECOND FORM's CARD OF 'conciergelaw8.FilesReads'. -/
def filesReadsUptoCard : Claim7 := { stood := { row := filesReadsUptoRow, standIns := [], harness := (true, "1d4fa9eb564bd6899d02534871185f4da3a2e73d451d8c91894bff1e59f49fe6"), looks := true }, kinds := [], alts := [], laidByText := true, laidKinds := [.data, .data, .data, .data, .sentinel, .sentinel, .pinned], laidTests := true, laidLooks := .later }
def FilesReadsUptoCardSaid : Prop := Claim7.holds Tryz.pinned (.plain (OpenSpec.upto filesReadsSpec)) filesReadsUptoCard
end Rows
end Go.Proofs.YtljmgfddeplamaaGreatDoor
