/-
  DERIVED. GIVEN WITH THE SEED: THE CARDS: each row of YtofmpjkdfgofaaaGreatDoorRows.lean that lists a variable, with what it lists TIED to the program's text (the seventh form; the later family's looks); each row that meets fmt, with fmt's text TOLD by the authors' own Lean function (tested against real Go, not proved from fmt's source: count such statements apart). THE CARD IS WHAT COUNTS. Prove the row's statement (the work); the ties are given (YtofmpjkdfgofaaaGreatDoorTie.lean); close each card by the builder's one call (the guide's Derived/Test/ToyasCard.lean, 'card_holds'). Laid BY PROGRAM, IN A SANDBOX (cutbox-door.mjs). By AI agents, Wed Nov 11 2026. No macro, syntax, notation, axiom, sorry.
-/
import Derived.Test.YtofmpjkdfgofaaaGreatDoorRows
import GoSem.ClaimSeven
namespace Go.Proofs.YtofmpjkdfgofaaaGreatDoor
namespace Rows

/-- THE TIED CARD OF 'conciergelaw16.StubNone'. -/
def stubNoneCard : Claim7 := { stood := { row := stubNoneRow, standIns := [], harness := (true, "1cc948b6769970217c12fb99579072558292c182dd96e219b9fc52f6541bf0da"), looks := true }, kinds := [], alts := [], laidByText := true, laidKinds := [.data, .data, .data, .data, .sentinel, .sentinel, .pinned], laidTests := true, laidLooks := .later }
def StubNoneCardSaid : Prop := Claim7.holds Tryz.pinned (.plain (OpenSpec.ofChange stubNoneSpec)) stubNoneCard

/-- THE TIED CARD OF 'conciergelaw16.StubBound'. -/
def stubBoundCard : Claim7 := { stood := { row := stubBoundRow, standIns := [], harness := (true, "1cc948b6769970217c12fb99579072558292c182dd96e219b9fc52f6541bf0da"), looks := true }, kinds := [], alts := [], laidByText := true, laidKinds := [.data, .data, .data, .data, .sentinel, .sentinel, .pinned], laidTests := true, laidLooks := .later }
def StubBoundCardSaid : Prop := Claim7.holds Tryz.pinned (.plain (OpenSpec.ofChange stubBoundSpec)) stubBoundCard

/-- THE SECOND FORM's CARD OF 'conciergelaw16.StubNone'. -/
def stubNoneUptoCard : Claim7 := { stood := { row := stubNoneUptoRow, standIns := [], harness := (true, "1cc948b6769970217c12fb99579072558292c182dd96e219b9fc52f6541bf0da"), looks := true }, kinds := [], alts := [], laidByText := true, laidKinds := [.data, .data, .data, .data, .sentinel, .sentinel, .pinned], laidTests := true, laidLooks := .later }
def StubNoneUptoCardSaid : Prop := Claim7.holds Tryz.pinned (.plain (OpenSpec.upto stubNoneSpec)) stubNoneUptoCard

/-- THE SECOND FORM's CARD OF 'conciergelaw16.StubBound'. -/
def stubBoundUptoCard : Claim7 := { stood := { row := stubBoundUptoRow, standIns := [], harness := (true, "1cc948b6769970217c12fb99579072558292c182dd96e219b9fc52f6541bf0da"), looks := true }, kinds := [], alts := [], laidByText := true, laidKinds := [.data, .data, .data, .data, .sentinel, .sentinel, .pinned], laidTests := true, laidLooks := .later }
def StubBoundUptoCardSaid : Prop := Claim7.holds Tryz.pinned (.plain (OpenSpec.upto stubBoundSpec)) stubBoundUptoCard
end Rows
end Go.Proofs.YtofmpjkdfgofaaaGreatDoor
