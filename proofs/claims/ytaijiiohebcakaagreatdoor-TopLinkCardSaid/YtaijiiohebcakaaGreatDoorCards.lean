/-
  DERIVED. GIVEN WITH THE SEED: THE CARDS: each row of YtaijiiohebcakaaGreatDoorRows.lean that lists a variable, with what it lists TIED to the program's text (the seventh form; the later family's looks); each row that meets fmt, with fmt's text TOLD by the authors' own Lean function (tested against real Go, not proved from fmt's source: count such statements apart). THE CARD IS WHAT COUNTS. Prove the row's statement (the work); the ties are given (YtaijiiohebcakaaGreatDoorTie.lean); close each card by the builder's one call (the guide's Derived/Test/ToyasCard.lean, 'card_holds'). Laid BY PROGRAM, IN A SANDBOX (cutbox-door.mjs). By AI agents, Wed Nov 11 2026. No macro, syntax, notation, axiom, sorry.
-/
import Derived.Test.YtaijiiohebcakaaGreatDoorRows
import GoSem.ClaimSeven
namespace Go.Proofs.YtaijiiohebcakaaGreatDoor
namespace Rows

/-- THE TIED CARD OF 'conciergetop.TopNegative'. -/
def topNegativeCard : Claim7 := { stood := { row := topNegativeRow, standIns := [], harness := (true, "e1b5388b95bf278fc08d8b2ab98a105936bbb6b1813f3816cc9a7b7e705ff32b"), looks := true }, kinds := [], alts := [], laidByText := true, laidKinds := [.data, .data, .data, .data, .sentinel, .sentinel, .pinned], laidTests := true, laidLooks := .later }
def TopNegativeCardSaid : Prop := Claim7.holds Tryz.pinned (.plain (OpenSpec.ofChange topNegativeSpec)) topNegativeCard

/-- THE TIED CARD OF 'conciergetop.TopLink'. -/
def topLinkCard : Claim7 := { stood := { row := topLinkRow, standIns := [], harness := (true, "e1b5388b95bf278fc08d8b2ab98a105936bbb6b1813f3816cc9a7b7e705ff32b"), looks := true }, kinds := [], alts := [], laidByText := true, laidKinds := [.data, .data, .data, .data, .sentinel, .sentinel, .pinned], laidTests := true, laidLooks := .later }
def TopLinkCardSaid : Prop := Claim7.holds Tryz.pinned (.plain (OpenSpec.ofChange topLinkSpec)) topLinkCard

/-- THE TIED CARD OF 'conciergetop.TopTwoCrashes'. -/
def topTwoCrashesCard : Claim7 := { stood := { row := topTwoCrashesRow, standIns := [], harness := (true, "e1b5388b95bf278fc08d8b2ab98a105936bbb6b1813f3816cc9a7b7e705ff32b"), looks := true }, kinds := [], alts := [], laidByText := true, laidKinds := [.data, .data, .data, .data, .sentinel, .sentinel, .pinned], laidTests := true, laidLooks := .later }
def TopTwoCrashesCardSaid : Prop := Claim7.holds Tryz.pinned (.plain (OpenSpec.ofChange topTwoCrashesSpec)) topTwoCrashesCard

/-- THE SECOND FORM's CARD OF 'conciergetop.TopNegative'. -/
def topNegativeUptoCard : Claim7 := { stood := { row := topNegativeUptoRow, standIns := [], harness := (true, "e1b5388b95bf278fc08d8b2ab98a105936bbb6b1813f3816cc9a7b7e705ff32b"), looks := true }, kinds := [], alts := [], laidByText := true, laidKinds := [.data, .data, .data, .data, .sentinel, .sentinel, .pinned], laidTests := true, laidLooks := .later }
def TopNegativeUptoCardSaid : Prop := Claim7.holds Tryz.pinned (.plain (OpenSpec.upto topNegativeSpec)) topNegativeUptoCard

/-- THE SECOND FORM's CARD OF 'conciergetop.TopLink'. -/
def topLinkUptoCard : Claim7 := { stood := { row := topLinkUptoRow, standIns := [], harness := (true, "e1b5388b95bf278fc08d8b2ab98a105936bbb6b1813f3816cc9a7b7e705ff32b"), looks := true }, kinds := [], alts := [], laidByText := true, laidKinds := [.data, .data, .data, .data, .sentinel, .sentinel, .pinned], laidTests := true, laidLooks := .later }
def TopLinkUptoCardSaid : Prop := Claim7.holds Tryz.pinned (.plain (OpenSpec.upto topLinkSpec)) topLinkUptoCard

/-- THE SECOND FORM's CARD OF 'conciergetop.TopTwoCrashes'. -/
def topTwoCrashesUptoCard : Claim7 := { stood := { row := topTwoCrashesUptoRow, standIns := [], harness := (true, "e1b5388b95bf278fc08d8b2ab98a105936bbb6b1813f3816cc9a7b7e705ff32b"), looks := true }, kinds := [], alts := [], laidByText := true, laidKinds := [.data, .data, .data, .data, .sentinel, .sentinel, .pinned], laidTests := true, laidLooks := .later }
def TopTwoCrashesUptoCardSaid : Prop := Claim7.holds Tryz.pinned (.plain (OpenSpec.upto topTwoCrashesSpec)) topTwoCrashesUptoCard
end Rows
end Go.Proofs.YtaijiiohebcakaaGreatDoor
