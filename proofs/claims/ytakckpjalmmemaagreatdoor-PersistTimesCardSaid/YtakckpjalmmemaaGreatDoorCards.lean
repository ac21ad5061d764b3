/-
  DERIVED. GIVEN WITH THE SEED: THE CARDS: each row of YtakckpjalmmemaaGreatDoorRows.lean that lists a variable, with what it lists TIED to the program's text (the seventh form; the later family's looks); each row that meets fmt, with fmt's text TOLD by the authors' own Lean function (tested against real Go, not proved from fmt's source: count such statements apart). THE CARD IS WHAT COUNTS. Prove the row's statement (the work); the ties are given (YtakckpjalmmemaaGreatDoorTie.lean); close each card by the builder's one call (the guide's Derived/Test/ToyasCard.lean, 'card_holds'). Laid BY PROGRAM, IN A SANDBOX (cutbox-door.mjs). By AI agents, Wed Nov 11 2026. No macro, syntax, notation, axiom, sorry.
-/
import Derived.Test.YtakckpjalmmemaaGreatDoorRows
import GoSem.ClaimSeven
namespace Go.Proofs.YtakckpjalmmemaaGreatDoor
namespace Rows

/-- THE TIED CARD OF 'conciergelaw23.PersistTimes'. -/
def persistTimesCard : Claim7 := { stood := { row := persistTimesRow, standIns := [], harness := (true, "f02dc41804f5ee49d353d8be29e783c57df7c368ecde1b0beca856d8d2b30824"), looks := true }, kinds := [], alts := [], laidByText := true, laidKinds := [.data, .data, .data, .data, .sentinel, .sentinel, .pinned], laidTests := true, laidLooks := .later }
def PersistTimesCardSaid : Prop := Claim7.holds Tryz.pinned (.plain (OpenSpec.ofChange persistTimesSpec)) persistTimesCard

/-- THE SECOND FORM's CARD OF 'conciergelaw23.PersistTimes'. -/
def persistTimesUptoCard : Claim7 := { stood := { row := persistTimesUptoRow, standIns := [], harness := (true, "f02dc41804f5ee49d353d8be29e783c57df7c368ecde1b0beca856d8d2b30824"), looks := true }, kinds := [], alts := [], laidByText := true, laidKinds := [.data, .data, .data, .data, .sentinel, .sentinel, .pinned], laidTests := true, laidLooks := .later }
def PersistTimesUptoCardSaid : Prop := Claim7.holds Tryz.pinned (.plain (OpenSpec.upto persistTimesSpec)) persistTimesUptoCard
end Rows
end Go.Proofs.YtakckpjalmmemaaGreatDoor
