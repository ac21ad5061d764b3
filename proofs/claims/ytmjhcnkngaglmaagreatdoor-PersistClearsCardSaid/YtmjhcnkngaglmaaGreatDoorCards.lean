/-
  DERIVED. GIVEN WITH THE SEED: THE CARDS: each row of YtmjhcnkngaglmaaGreatDoorRows.lean that lists a variable, with what it lists TIED to the program's text (the seventh form; the later family's looks); each row that meets fmt, with fmt's text TOLD by the authors' own Lean function (tested against real Go, not proved from fmt's source: count such statements apart). THE CARD IS WHAT COUNTS. Prove the row's statement (the work); the ties are given (YtmjhcnkngaglmaaGreatDoorTie.lean); close each card by the builder's one call (the guide's Derived/Test/ToyasCard.lean, 'card_holds'). Laid BY PROGRAM, IN A SANDBOX (cutbox-door.mjs). By AI agents, Wed Nov 11 2026. No macro, syntax, notation, axiom, sorry.
-/
import Derived.Test.YtmjhcnkngaglmaaGreatDoorRows
import GoSem.ClaimSeven
namespace Go.Proofs.YtmjhcnkngaglmaaGreatDoor
namespace Rows

/-- THE TIED CARD OF 'conciergelaw6.HostFirst'. -/
def hostFirstCard : Claim7 := { stood := { row := hostFirstRow, standIns := [], harness := (true, "40f4bc383bc983c3966cdffb8491b99c75c1458797e4d023d168dc3d65b08ef9"), looks := true }, kinds := [], alts := [], laidByText := true, laidKinds := [.data, .data, .data, .data, .sentinel, .sentinel, .pinned], laidTests := true, laidLooks := .later }
def HostFirstCardSaid : Prop := Claim7.holds Tryz.pinned (.plain (OpenSpec.ofChange hostFirstSpec)) hostFirstCard

/-- THE TIED CARD OF 'conciergelaw23.PersistClears'. -/
def persistClearsCard : Claim7 := { stood := { row := persistClearsRow, standIns := [], harness := (true, "40f4bc383bc983c3966cdffb8491b99c75c1458797e4d023d168dc3d65b08ef9"), looks := true }, kinds := [], alts := [], laidByText := true, laidKinds := [.data, .data, .data, .data, .sentinel, .sentinel, .pinned], laidTests := true, laidLooks := .later }
def PersistClearsCardSaid : Prop := Claim7.holds Tryz.pinned (.plain (OpenSpec.ofChange persistClearsSpec)) persistClearsCard

/-- THE TIED CARD OF 'conciergelaw23.PersistNone'. -/
def persistNoneCard : Claim7 := { stood := { row := persistNoneRow, standIns := [], harness := (true, "40f4bc383bc983c3966cdffb8491b99c75c1458797e4d023d168dc3d65b08ef9"), looks := true }, kinds := [], alts := [], laidByText := true, laidKinds := [.data, .data, .data, .data, .sentinel, .sentinel, .pinned], laidTests := true, laidLooks := .later }
def PersistNoneCardSaid : Prop := Claim7.holds Tryz.pinned (.plain (OpenSpec.ofChange persistNoneSpec)) persistNoneCard

/-- THE SECOND FORM's CARD OF 'conciergelaw6.HostFirst'. -/
def hostFirstUptoCard : Claim7 := { stood := { row := hostFirstUptoRow, standIns := [], harness := (true, "40f4bc383bc983c3966cdffb8491b99c75c1458797e4d023d168dc3d65b08ef9"), looks := true }, kinds := [], alts := [], laidByText := true, laidKinds := [.data, .data, .data, .data, .sentinel, .sentinel, .pinned], laidTests := true, laidLooks := .later }
def HostFirstUptoCardSaid : Prop := Claim7.holds Tryz.pinned (.plain (OpenSpec.upto hostFirstSpec)) hostFirstUptoCard

/-- THE SECOND FORM's CARD OF 'conciergelaw23.PersistClears'. -/
def persistClearsUptoCard : Claim7 := { stood := { row := persistClearsUptoRow, standIns := [], harness := (true, "40f4bc383bc983c3966cdffb8491b99c75c1458797e4d023d168dc3d65b08ef9"), looks := true }, kinds := [], alts := [], laidByText := true, laidKinds := [.data, .data, .data, .data, .sentinel, .sentinel, .pinned], laidTests := true, laidLooks := .later }
def PersistClearsUptoCardSaid : Prop := Claim7.holds Tryz.pinned (.plain (OpenSpec.upto persistClearsSpec)) persistClearsUptoCard

/-- THE SECOND FORM's CARD OF 'conciergelaw23.PersistNone'. -/
def persistNoneUptoCard : Claim7 := { stood := { row := persistNoneUptoRow, standIns := [], harness := (true, "40f4bc383bc983c3966cdffb8491b99c75c1458797e4d023d168dc3d65b08ef9"), looks := true }, kinds := [], alts := [], laidByText := true, laidKinds := [.data, .data, .data, .data, .sentinel, .sentinel, .pinned], laidTests := true, laidLooks := .later }
def PersistNoneUptoCardSaid : Prop := Claim7.holds Tryz.pinned (.plain (OpenSpec.upto persistNoneSpec)) persistNoneUptoCard
end Rows
end Go.Proofs.YtmjhcnkngaglmaaGreatDoor
