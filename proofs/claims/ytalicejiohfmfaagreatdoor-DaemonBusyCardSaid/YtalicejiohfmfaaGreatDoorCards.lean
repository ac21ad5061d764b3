/-
  DERIVED. GIVEN WITH THE SEED: THE CARDS: each row of YtalicejiohfmfaaGreatDoorRows.lean that lists a variable, with what it lists TIED to the program's text (the seventh form; the later family's looks); each row that meets fmt, with fmt's text TOLD by the authors' own Lean function (tested against real Go, not proved from fmt's source: count such statements apart). THE CARD IS WHAT COUNTS. Prove the row's statement (the work); the ties are given (YtalicejiohfmfaaGreatDoorTie.lean); close each card by the builder's one call (the guide's Derived/Test/ToyasCard.lean, 'card_holds'). Laid BY PROGRAM, IN A SANDBOX (cutbox-door.mjs). By AI agents, Wed Nov 11 2026. No macro, syntax, notation, axiom, sorry.
-/
import Derived.Test.YtalicejiohfmfaaGreatDoorRows
import GoSem.ClaimSeven
namespace Go.Proofs.YtalicejiohfmfaaGreatDoor
namespace Rows

/-- THE TIED CARD OF 'conciergelaw25.DaemonBusy'. -/
def daemonBusyCard : Claim7 := { stood := { row := daemonBusyRow, standIns := [], harness := (true, "fd111b8a317ca6970d9bee7f367fd4a9e3b01c5a35a650839a166eea321a78ca"), looks := true }, kinds := [], alts := [], laidByText := true, laidKinds := [.data, .data, .data, .data, .sentinel, .sentinel, .pinned], laidTests := true, laidLooks := .later }
def DaemonBusyCardSaid : Prop := Claim7.holds Tryz.pinned (.plain (OpenSpec.ofChange daemonBusySpec)) daemonBusyCard

/-- THE SECOND FORM's CARD OF 'conciergelaw25.DaemonBusy'. -/
def daemonBusyUptoCard : Claim7 := { stood := { row := daemonBusyUptoRow, standIns := [], harness := (true, "fd111b8a317ca6970d9bee7f367fd4a9e3b01c5a35a650839a166eea321a78ca"), looks := true }, kinds := [], alts := [], laidByText := true, laidKinds := [.data, .data, .data, .data, .sentinel, .sentinel, .pinned], laidTests := true, laidLooks := .later }
def DaemonBusyUptoCardSaid : Prop := Claim7.holds Tryz.pinned (.plain (OpenSpec.upto daemonBusySpec)) daemonBusyUptoCard
end Rows
end Go.Proofs.YtalicejiohfmfaaGreatDoor
