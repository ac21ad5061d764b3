/-
  DERIVED. GIVEN WITH THE SEED: THE CARDS: each row of YtomboeilpmhheaaGreatDoorRows.lean that lists a variable, with what it lists TIED to the program's text (the seventh form; the later family's looks); each row that meets fmt, with fmt's text TOLD by the authors' own Lean function (tested against real Go, not proved from fmt's source: count such statements apart). THE CARD IS WHAT COUNTS. Prove the row's statement (the work); the ties are given (YtomboeilpmhheaaGreatDoorTie.lean); close each card by the builder's one call (the guide's Derived/Test/ToyasCard.lean, 'card_holds'). Laid BY PROGRAM, IN A SANDBOX (cutbox-door.mjs). By AI agents, Wed Nov 11 2026. No macro, syntax, notation, axiom, sorry.
-/
import Derived.Test.YtomboeilpmhheaaGreatDoorRows
import GoSem.ClaimSeven
namespace Go.Proofs.YtomboeilpmhheaaGreatDoor
namespace Rows

/-- THE TIED CARD OF 'conciergelaw27.HostNothing'. -/
def hostNothingCard : Claim7 := { stood := { row := hostNothingRow, standIns := [], harness := (true, "5117795b8fe955a5aae29c046616c2cfd9daf9fa5e00472dfc946fba7a4a4321"), looks := true }, kinds := [], alts := [], laidByText := true, laidKinds := [.data, .data, .data, .data, .sentinel, .sentinel, .pinned], laidTests := true, laidLooks := .later }
def HostNothingCardSaid : Prop := Claim7.holds Tryz.pinned (.plain (OpenSpec.ofChange hostNothingSpec)) hostNothingCard

/-- THE TIED CARD OF 'conciergetop.TopQueries'. -/
def topQueriesCard : Claim7 := { stood := { row := topQueriesRow, standIns := [], harness := (true, "5117795b8fe955a5aae29c046616c2cfd9daf9fa5e00472dfc946fba7a4a4321"), looks := true }, kinds := [], alts := [], laidByText := true, laidKinds := [.data, .data, .data, .data, .sentinel, .sentinel, .pinned], laidTests := true, laidLooks := .later }
def TopQueriesCardSaid : Prop := Claim7.holds Tryz.pinned (.plain (OpenSpec.ofChange topQueriesSpec)) topQueriesCard

/-- THE TIED CARD OF 'conciergetop.TopLost'. -/
def topLostCard : Claim7 := { stood := { row := topLostRow, standIns := [], harness := (true, "5117795b8fe955a5aae29c046616c2cfd9daf9fa5e00472dfc946fba7a4a4321"), looks := true }, kinds := [], alts := [], laidByText := true, laidKinds := [.data, .data, .data, .data, .sentinel, .sentinel, .pinned], laidTests := true, laidLooks := .later }
def TopLostCardSaid : Prop := Claim7.holds Tryz.pinned (.plain (OpenSpec.ofChange topLostSpec)) topLostCard

/-- THE TIED CARD OF 'conciergetop.TopUncached'. -/
def topUncachedCard : Claim7 := { stood := { row := topUncachedRow, standIns := [], harness := (true, "5117795b8fe955a5aae29c046616c2cfd9daf9fa5e00472dfc946fba7a4a4321"), looks := true }, kinds := [], alts := [], laidByText := true, laidKinds := [.data, .data, .data, .data, .sentinel, .sentinel, .pinned], laidTests := true, laidLooks := .later }
def TopUncachedCardSaid : Prop := Claim7.holds Tryz.pinned (.plain (OpenSpec.ofChange topUncachedSpec)) topUncachedCard

/-- THE SECOND FORM's CARD OF 'conciergelaw27.HostNothing'. -/
def hostNothingUptoCard : Claim7 := { stood := { row := hostNothingUptoRow, standIns := [], harness := (true, "5117795b8fe955a5aae29c046616c2cfd9daf9fa5e00472dfc946fba7a4a4321"), looks := true }, kinds := [], alts := [], laidByText := true, laidKinds := [.data, .data, .data, .data, .sentinel, .sentinel, .pinned], laidTests := true, laidLooks := .later }
def HostNothingUptoCardSaid : Prop := Claim7.holds Tryz.pinned (.plain (OpenSpec.upto hostNothingSpec)) hostNothingUptoCard

/-- THE SECOND FORM's CARD OF 'conciergetop.TopQueries'. -/
def topQueriesUptoCard : Claim7 := { stood := { row := topQueriesUptoRow, standIns := [], harness := (true, "5117795b8fe955a5aae29c046616c2cfd9daf9fa5e00472dfc946fba7a4a4321"), looks := true }, kinds := [], alts := [], laidByText := true, laidKinds := [.data, .data, .data, .data, .sentinel, .sentinel, .pinned], laidTests := true, laidLooks := .later }
def TopQueriesUptoCardSaid : Prop := Claim7.holds Tryz.pinned (.plain (OpenSpec.upto topQueriesSpec)) topQueriesUptoCard

/-- THE SECOND FORM's CARD OF 'conciergetop.TopLost'. -/
def topLostUptoCard : Claim7 := { stood := { row := topLostUptoRow, standIns := [], harness := (true, "5117795b8fe955a5aae29c046616c2cfd9daf9fa5e00472dfc946fba7a4a4321"), looks := true }, kinds := [], alts := [], laidByText := true, laidKinds := [.data, .data, .data, .data, .sentinel, .sentinel, .pinned], laidTests := true, laidLooks := .later }
def TopLostUptoCardSaid : Prop := Claim7.holds Tryz.pinned (.plain (OpenSpec.upto topLostSpec)) topLostUptoCard

/-- THE SECOND FORM's CARD OF 'conciergetop.TopUncached'. -/
def topUncachedUptoCard : Claim7 := { stood := { row := topUncachedUptoRow, standIns := [], harness := (true, "5117795b8fe955a5aae29c046616c2cfd9daf9fa5e00472dfc946fba7a4a4321"), looks := true }, kinds := [], alts := [], laidByText := true, laidKinds := [.data, .data, .data, .data, .sentinel, .sentinel, .pinned], laidTests := true, laidLooks := .later }
def TopUncachedUptoCardSaid : Prop := Claim7.holds Tryz.pinned (.plain (OpenSpec.upto topUncachedSpec)) topUncachedUptoCard
end Rows
end Go.Proofs.YtomboeilpmhheaaGreatDoor
