/-
  DERIVED. GIVEN WITH THE SEED: THE CARDS: each row of YtamnfhbpjmmcbaaGreatDoorRows.lean that lists a variable, with what it lists TIED to the program's text (the seventh form; the later family's looks); each row that meets fmt, with fmt's text TOLD by the authors' own Lean function (tested against real Go, not proved from fmt's source: count such statements apart). THE CARD IS WHAT COUNTS. Prove the row's statement (the work); the ties are given (YtamnfhbpjmmcbaaGreatDoorTie.lean); close each card by the builder's one call (the guide's Derived/Test/ToyasCard.lean, 'card_holds'). Laid BY PROGRAM, IN A SANDBOX (cutbox-door.mjs). By AI agents, Wed Nov 11 2026. No macro, syntax, notation, axiom, sorry.
-/
import Derived.Test.YtamnfhbpjmmcbaaGreatDoorRows
import GoSem.ClaimSeven
namespace Go.Proofs.YtamnfhbpjmmcbaaGreatDoor
namespace Rows

/-- THE TIED CARD OF 'conciergelaw25.DaemonNone'. -/
def daemonNoneCard : Claim7 := { stood := { row := daemonNoneRow, standIns := [], harness := (true, "1aa6b97daf4a8432711160d840e1489b5d88df593ab803889edb24897f9617cd"), looks := true }, kinds := [], alts := [], laidByText := true, laidKinds := [.data, .data, .data, .data, .sentinel, .sentinel, .pinned], laidTests := true, laidLooks := .later }
def DaemonNoneCardSaid : Prop := Claim7.holds Tryz.pinned (.plain (OpenSpec.ofChange daemonNoneSpec)) daemonNoneCard

/-- THE SECOND FORM's CARD OF 'conciergelaw25.DaemonNone'. -/
def daemonNoneUptoCard : Claim7 := { stood := { row := daemonNoneUptoRow, standIns := [], harness := (true, "1aa6b97daf4a8432711160d840e1489b5d88df593ab803889edb24897f9617cd"), looks := true }, kinds := [], alts := [], laidByText := true, laidKinds := [.data, .data, .data, .data, .sentinel, .sentinel, .pinned], laidTests := true, laidLooks := .later }
def DaemonNoneUptoCardSaid : Prop := Claim7.holds Tryz.pinned (.plain (OpenSpec.upto daemonNoneSpec)) daemonNoneUptoCard
end Rows
end Go.Proofs.YtamnfhbpjmmcbaaGreatDoor
