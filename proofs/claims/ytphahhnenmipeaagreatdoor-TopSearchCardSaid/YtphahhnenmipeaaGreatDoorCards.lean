/-
  DERIVED. GIVEN WITH THE SEED: THE CARDS: each row of YtphahhnenmipeaaGreatDoorRows.lean that lists a variable, with what it lists TIED to the program's text (the seventh form; the later family's looks); each row that meets fmt, with fmt's text TOLD by the authors' own Lean function (tested against real Go, not proved from fmt's source: count such statements apart). THE CARD IS WHAT COUNTS. Prove the row's statement (the work); the ties are given (YtphahhnenmipeaaGreatDoorTie.lean); close each card by the builder's one call (the guide's Derived/Test/ToyasCard.lean, 'card_holds'). Laid BY PROGRAM, IN A SANDBOX (cutbox-door.mjs). By AI agents, Wed Nov 11 2026. No macro, syntax, notation, axiom, sorry.
-/
import Derived.Test.YtphahhnenmipeaaGreatDoorRows
import GoSem.ClaimSeven
namespace Go.Proofs.YtphahhnenmipeaaGreatDoor
namespace Rows

/-- THE TIED CARD OF 'conciergetop.TopRotate'. -/
def topRotateCard : Claim7 := { stood := { row := topRotateRow, standIns := [], harness := (true, "494541a15be589393ea18393eac0fd6b2a5e3fe27caa3f4d37c4cac6e9a5ec8a"), looks := true }, kinds := [], alts := [], laidByText := true, laidKinds := [.data, .data, .data, .data, .sentinel, .sentinel, .pinned], laidTests := true, laidLooks := .later }
def TopRotateCardSaid : Prop := Claim7.holds Tryz.pinned (.plain (OpenSpec.ofChange topRotateSpec)) topRotateCard

/-- THE TIED CARD OF 'conciergetop.TopSearch'. -/
def topSearchCard : Claim7 := { stood := { row := topSearchRow, standIns := [], harness := (true, "494541a15be589393ea18393eac0fd6b2a5e3fe27caa3f4d37c4cac6e9a5ec8a"), looks := true }, kinds := [], alts := [], laidByText := true, laidKinds := [.data, .data, .data, .data, .sentinel, .sentinel, .pinned], laidTests := true, laidLooks := .later }
def TopSearchCardSaid : Prop := Claim7.holds Tryz.pinned (.plain (OpenSpec.ofChange topSearchSpec)) topSearchCard

/-- THE TIED CARD OF 'conciergetop.TopInvalidate'. -/
def topInvalidateCard : Claim7 := { stood := { row := topInvalidateRow, standIns := [], harness := (true, "494541a15be589393ea18393eac0fd6b2a5e3fe27caa3f4d37c4cac6e9a5ec8a"), looks := true }, kinds := [], alts := [], laidByText := true, laidKinds := [.data, .data, .data, .data, .sentinel, .sentinel, .pinned], laidTests := true, laidLooks := .later }
def TopInvalidateCardSaid : Prop := Claim7.holds Tryz.pinned (.plain (OpenSpec.ofChange topInvalidateSpec)) topInvalidateCard

/-- THE SECOND FORM's CARD OF 'conciergetop.TopRotate'. -/
def topRotateUptoCard : Claim7 := { stood := { row := topRotateUptoRow, standIns := [], harness := (true, "494541a15be589393ea18393eac0fd6b2a5e3fe27caa3f4d37c4cac6e9a5ec8a"), looks := true }, kinds := [], alts := [], laidByText := true, laidKinds := [.data, .data, .data, .data, .sentinel, .sentinel, .pinned], laidTests := true, laidLooks := .later }
def TopRotateUptoCardSaid : Prop := Claim7.holds Tryz.pinned (.plain (OpenSpec.upto topRotateSpec)) topRotateUptoCard

/-- THE SECOND FORM's CARD OF 'conciergetop.TopSearch'. -/
def topSearchUptoCard : Claim7 := { stood := { row := topSearchUptoRow, standIns := [], harness := (true, "494541a15be589393ea18393eac0fd6b2a5e3fe27caa3f4d37c4cac6e9a5ec8a"), looks := true }, kinds := [], alts := [], laidByText := true, laidKinds := [.data, .data, .data, .data, .sentinel, .sentinel, .pinned], laidTests := true, laidLooks := .later }
def TopSearchUptoCardSaid : Prop := Claim7.holds Tryz.pinned (.plain (OpenSpec.upto topSearchSpec)) topSearchUptoCard

/-- THE SECOND FORM's CARD OF 'conciergetop.TopInvalidate'. -/
def topInvalidateUptoCard : Claim7 := { stood := { row := topInvalidateUptoRow, standIns := [], harness := (true, "494541a15be589393ea18393eac0fd6b2a5e3fe27caa3f4d37c4cac6e9a5ec8a"), looks := true }, kinds := [], alts := [], laidByText := true, laidKinds := [.data, .data, .data, .data, .sentinel, .sentinel, .pinned], laidTests := true, laidLooks := .later }
def TopInvalidateUptoCardSaid : Prop := Claim7.holds Tryz.pinned (.plain (OpenSpec.upto topInvalidateSpec)) topInvalidateUptoCard
end Rows
end Go.Proofs.YtphahhnenmipeaaGreatDoor
