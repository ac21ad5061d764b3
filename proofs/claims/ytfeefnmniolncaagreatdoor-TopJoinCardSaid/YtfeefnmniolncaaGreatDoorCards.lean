/-
  DERIVED. GIVEN WITH THE SEED: THE CARDS: each row of YtfeefnmniolncaaGreatDoorRows.lean that lists a variable, with what it lists TIED to the program's text (the seventh form; the later family's looks); each row that meets fmt, with fmt's text TOLD by the authors' own Lean function (tested against real Go, not proved from fmt's source: count such statements apart). THE CARD IS WHAT COUNTS. Prove the row's statement (the work); the ties are given (YtfeefnmniolncaaGreatDoorTie.lean); close each card by the builder's one call (the guide's Derived/Test/ToyasCard.lean, 'card_holds'). Laid BY PROGRAM, IN A SANDBOX (cutbox-door.mjs). By AI agents, Wed Nov 11 2026. No macro, syntax, notation, axiom, sorry.
-/
import Derived.Test.YtfeefnmniolncaaGreatDoorRows
import GoSem.ClaimSeven
namespace Go.Proofs.YtfeefnmniolncaaGreatDoor
namespace Rows

/-- THE TIED CARD OF 'conciergetop.TopJoin'. -/
def topJoinCard : Claim7 := { stood := { row := topJoinRow, standIns := [], harness := (true, "d229297b1c6ed309a3e7ea64dd45fed99470a72183ed370d53696bfa762cd048"), looks := true }, kinds := [], alts := [], laidByText := true, laidKinds := [.data, .data, .data, .data, .sentinel, .sentinel, .pinned], laidTests := true, laidLooks := .later }
def TopJoinCardSaid : Prop := Claim7.holds Tryz.pinned (.plain (OpenSpec.ofChange topJoinSpec)) topJoinCard

/-- THE TIED CARD OF 'conciergetop.TopStream'. -/
def topStreamCard : Claim7 := { stood := { row := topStreamRow, standIns := [], harness := (true, "d229297b1c6ed309a3e7ea64dd45fed99470a72183ed370d53696bfa762cd048"), looks := true }, kinds := [], alts := [], laidByText := true, laidKinds := [.data, .data, .data, .data, .sentinel, .sentinel, .pinned], laidTests := true, laidLooks := .later }
def TopStreamCardSaid : Prop := Claim7.holds Tryz.pinned (.plain (OpenSpec.ofChange topStreamSpec)) topStreamCard

/-- THE TIED CARD OF 'conciergetop.TopLibrary'. -/
def topLibraryCard : Claim7 := { stood := { row := topLibraryRow, standIns := [], harness := (true, "d229297b1c6ed309a3e7ea64dd45fed99470a72183ed370d53696bfa762cd048"), looks := true }, kinds := [], alts := [], laidByText := true, laidKinds := [.data, .data, .data, .data, .sentinel, .sentinel, .pinned], laidTests := true, laidLooks := .later }
def TopLibraryCardSaid : Prop := Claim7.holds Tryz.pinned (.plain (OpenSpec.ofChange topLibrarySpec)) topLibraryCard

/-- THE SECOND FORM's CARD OF 'conciergetop.TopJoin'. -/
def topJoinUptoCard : Claim7 := { stood := { row := topJoinUptoRow, standIns := [], harness := (true, "d229297b1c6ed309a3e7ea64dd45fed99470a72183ed370d53696bfa762cd048"), looks := true }, kinds := [], alts := [], laidByText := true, laidKinds := [.data, .data, .data, .data, .sentinel, .sentinel, .pinned], laidTests := true, laidLooks := .later }
def TopJoinUptoCardSaid : Prop := Claim7.holds Tryz.pinned (.plain (OpenSpec.upto topJoinSpec)) topJoinUptoCard

/-- THE SECOND FORM's CARD OF 'conciergetop.TopStream'. -/
def topStreamUptoCard : Claim7 := { stood := { row := topStreamUptoRow, standIns := [], harness := (true, "d229297b1c6ed309a3e7ea64dd45fed99470a72183ed370d53696bfa762cd048"), looks := true }, kinds := [], alts := [], laidByText := true, laidKinds := [.data, .data, .data, .data, .sentinel, .sentinel, .pinned], laidTests := true, laidLooks := .later }
def TopStreamUptoCardSaid : Prop := Claim7.holds Tryz.pinned (.plain (OpenSpec.upto topStreamSpec)) topStreamUptoCard

/-- THE SECOND FORM's CARD OF 'conciergetop.TopLibrary'. -/
def topLibraryUptoCard : Claim7 := { stood := { row := topLibraryUptoRow, standIns := [], harness := (true, "d229297b1c6ed309a3e7ea64dd45fed99470a72183ed370d53696bfa762cd048"), looks := true }, kinds := [], alts := [], laidByText := true, laidKinds := [.data, .data, .data, .data, .sentinel, .sentinel, .pinned], laidTests := true, laidLooks := .later }
def TopLibraryUptoCardSaid : Prop := Claim7.holds Tryz.pinned (.plain (OpenSpec.upto topLibrarySpec)) topLibraryUptoCard
end Rows
end Go.Proofs.YtfeefnmniolncaaGreatDoor
