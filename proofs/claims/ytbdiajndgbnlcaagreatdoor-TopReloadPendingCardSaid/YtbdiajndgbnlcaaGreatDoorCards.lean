/-
  DERIVED. GIVEN WITH THE SEED: THE CARDS: each row of YtbdiajndgbnlcaaGreatDoorRows.lean that lists a variable, with what it lists TIED to the program's text (the seventh form; the later family's looks); each row that meets fmt, with fmt's text TOLD by the authors' own Lean function (tested against real Go, not proved from fmt's source: count such statements apart). THE CARD IS WHAT COUNTS. Prove the row's statement (the work); the ties are given (YtbdiajndgbnlcaaGreatDoorTie.lean); close each card by the builder's one call (the guide's Derived/Test/ToyasCard.lean, 'card_holds'). Laid BY PROGRAM, IN A SANDBOX (cutbox-door.mjs). By AI agents, Wed Nov 11 2026. No macro, syntax, notation, axiom, sorry.
-/
import Derived.Test.YtbdiajndgbnlcaaGreatDoorRows
import GoSem.ClaimSeven
namespace Go.Proofs.YtbdiajndgbnlcaaGreatDoor
namespace Rows

/-- THE TIED CARD OF 'conciergetop.TopLateAnswer'. -/
def topLateAnswerCard : Claim7 := { stood := { row := topLateAnswerRow, standIns := [], harness := (true, "a3f1e9d904f1adc63903cffe55b5c6a7686a06945e4c6426f1118214b0401d0b"), looks := true }, kinds := [], alts := [], laidByText := true, laidKinds := [.data, .data, .data, .data, .sentinel, .sentinel, .pinned], laidTests := true, laidLooks := .later }
def TopLateAnswerCardSaid : Prop := Claim7.holds Tryz.pinned (.plain (OpenSpec.ofChange topLateAnswerSpec)) topLateAnswerCard

/-- THE TIED CARD OF 'conciergetop.TopRotate'. -/
def topRotateCard : Claim7 := { stood := { row := topRotateRow, standIns := [], harness := (true, "a3f1e9d904f1adc63903cffe55b5c6a7686a06945e4c6426f1118214b0401d0b"), looks := true }, kinds := [], alts := [], laidByText := true, laidKinds := [.data, .data, .data, .data, .sentinel, .sentinel, .pinned], laidTests := true, laidLooks := .later }
def TopRotateCardSaid : Prop := Claim7.holds Tryz.pinned (.plain (OpenSpec.ofChange topRotateSpec)) topRotateCard

/-- THE TIED CARD OF 'conciergetop.TopReloadPending'. -/
def topReloadPendingCard : Claim7 := { stood := { row := topReloadPendingRow, standIns := [], harness := (true, "a3f1e9d904f1adc63903cffe55b5c6a7686a06945e4c6426f1118214b0401d0b"), looks := true }, kinds := [], alts := [], laidByText := true, laidKinds := [.data, .data, .data, .data, .sentinel, .sentinel, .pinned], laidTests := true, laidLooks := .later }
def TopReloadPendingCardSaid : Prop := Claim7.holds Tryz.pinned (.plain (OpenSpec.ofChange topReloadPendingSpec)) topReloadPendingCard

/-- THE TIED CARD OF 'conciergetop.TopSearch'. -/
def topSearchCard : Claim7 := { stood := { row := topSearchRow, standIns := [], harness := (true, "a3f1e9d904f1adc63903cffe55b5c6a7686a06945e4c6426f1118214b0401d0b"), looks := true }, kinds := [], alts := [], laidByText := true, laidKinds := [.data, .data, .data, .data, .sentinel, .sentinel, .pinned], laidTests := true, laidLooks := .later }
def TopSearchCardSaid : Prop := Claim7.holds Tryz.pinned (.plain (OpenSpec.ofChange topSearchSpec)) topSearchCard

/-- THE SECOND FORM's CARD OF 'conciergetop.TopLateAnswer'. -/
def topLateAnswerUptoCard : Claim7 := { stood := { row := topLateAnswerUptoRow, standIns := [], harness := (true, "a3f1e9d904f1adc63903cffe55b5c6a7686a06945e4c6426f1118214b0401d0b"), looks := true }, kinds := [], alts := [], laidByText := true, laidKinds := [.data, .data, .data, .data, .sentinel, .sentinel, .pinned], laidTests := true, laidLooks := .later }
def TopLateAnswerUptoCardSaid : Prop := Claim7.holds Tryz.pinned (.plain (OpenSpec.upto topLateAnswerSpec)) topLateAnswerUptoCard

/-- THE SECOND FORM's CARD OF 'conciergetop.TopRotate'. -/
def topRotateUptoCard : Claim7 := { stood := { row := topRotateUptoRow, standIns := [], harness := (true, "a3f1e9d904f1adc63903cffe55b5c6a7686a06945e4c6426f1118214b0401d0b"), looks := true }, kinds := [], alts := [], laidByText := true, laidKinds := [.data, .data, .data, .data, .sentinel, .sentinel, .pinned], laidTests := true, laidLooks := .later }
def TopRotateUptoCardSaid : Prop := Claim7.holds Tryz.pinned (.plain (OpenSpec.upto topRotateSpec)) topRotateUptoCard

/-- THE SECOND FORM's CARD OF 'conciergetop.TopReloadPending'. -/
def topReloadPendingUptoCard : Claim7 := { stood := { row := topReloadPendingUptoRow, standIns := [], harness := (true, "a3f1e9d904f1adc63903cffe55b5c6a7686a06945e4c6426f1118214b0401d0b"), looks := true }, kinds := [], alts := [], laidByText := true, laidKinds := [.data, .data, .data, .data, .sentinel, .sentinel, .pinned], laidTests := true, laidLooks := .later }
def TopReloadPendingUptoCardSaid : Prop := Claim7.holds Tryz.pinned (.plain (OpenSpec.upto topReloadPendingSpec)) topReloadPendingUptoCard

/-- THE SECOND FORM's CARD OF 'conciergetop.TopSearch'. -/
def topSearchUptoCard : Claim7 := { stood := { row := topSearchUptoRow, standIns := [], harness := (true, "a3f1e9d904f1adc63903cffe55b5c6a7686a06945e4c6426f1118214b0401d0b"), looks := true }, kinds := [], alts := [], laidByText := true, laidKinds := [.data, .data, .data, .data, .sentinel, .sentinel, .pinned], laidTests := true, laidLooks := .later }
def TopSearchUptoCardSaid : Prop := Claim7.holds Tryz.pinned (.plain (OpenSpec.upto topSearchSpec)) topSearchUptoCard
end Rows
end Go.Proofs.YtbdiajndgbnlcaaGreatDoor
