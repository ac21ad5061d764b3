/-
  DERIVED. GIVEN WITH THE SEED: THE CARDS: each row of YtkgkmmdlpnbloaaGreatDoorRows.lean that lists a variable, with what it lists TIED to the program's text (the seventh form; the later family's looks); each row that meets fmt, with fmt's text TOLD by the authors' own Lean function (tested against real Go, not proved from fmt's source: count such statements apart). THE CARD IS WHAT COUNTS. Prove the row's statement (the work); the ties are given (YtkgkmmdlpnbloaaGreatDoorTie.lean); close each card by the builder's one call (the guide's Derived/Test/ToyasCard.lean, 'card_holds'). Laid BY PROGRAM, IN A SANDBOX (cutbox-door.mjs). By AI agents, Wed Nov 11 2026. No macro, syntax, notation, axiom, sorry.
-/
import Derived.Test.YtkgkmmdlpnbloaaGreatDoorRows
import GoSem.ClaimSeven
namespace Go.Proofs.YtkgkmmdlpnbloaaGreatDoor
namespace Rows

/-- THE TIED CARD OF 'conciergelaw16.StubNone'. -/
def stubNoneCard : Claim7 := { stood := { row := stubNoneRow, standIns := [], harness := (true, "2d1ed19b671d00921f3f0ffc3fe31216f4bf989fa3a2ff0c72f62e56b037b139"), looks := true }, kinds := [], alts := [], laidByText := true, laidKinds := [.data, .data, .data, .data, .sentinel, .sentinel, .pinned], laidTests := true, laidLooks := .later }
def StubNoneCardSaid : Prop := Claim7.holds Tryz.pinned (.plain (OpenSpec.ofChange stubNoneSpec)) stubNoneCard

/-- THE TIED CARD OF 'conciergelaw26.ClientNone'. -/
def clientNoneCard : Claim7 := { stood := { row := clientNoneRow, standIns := [], harness := (true, "2d1ed19b671d00921f3f0ffc3fe31216f4bf989fa3a2ff0c72f62e56b037b139"), looks := true }, kinds := [], alts := [], laidByText := true, laidKinds := [.data, .pinned], laidTests := true, laidLooks := .later }
def ClientNoneCardSaid : Prop := Claim7.holds Tryz.pinned (.plain (OpenSpec.ofChange clientNoneSpec)) clientNoneCard

/-- THE SECOND FORM's CARD OF 'conciergelaw16.StubNone'. -/
def stubNoneUptoCard : Claim7 := { stood := { row := stubNoneUptoRow, standIns := [], harness := (true, "2d1ed19b671d00921f3f0ffc3fe31216f4bf989fa3a2ff0c72f62e56b037b139"), looks := true }, kinds := [], alts := [], laidByText := true, laidKinds := [.data, .data, .data, .data, .sentinel, .sentinel, .pinned], laidTests := true, laidLooks := .later }
def StubNoneUptoCardSaid : Prop := Claim7.holds Tryz.pinned (.plain (OpenSpec.upto stubNoneSpec)) stubNoneUptoCard

/-- THE SECOND FORM's CARD OF 'conciergelaw26.ClientNone'. -/
def clientNoneUptoCard : Claim7 := { stood := { row := clientNoneUptoRow, standIns := [], harness := (true, "2d1ed19b671d00921f3f0ffc3fe31216f4bf989fa3a2ff0c72f62e56b037b139"), looks := true }, kinds := [], alts := [], laidByText := true, laidKinds := [.data, .pinned], laidTests := true, laidLooks := .later }
def ClientNoneUptoCardSaid : Prop := Claim7.holds Tryz.pinned (.plain (OpenSpec.upto clientNoneSpec)) clientNoneUptoCard
end Rows
end Go.Proofs.YtkgkmmdlpnbloaaGreatDoor
