/-
  DERIVED. GIVEN WITH THE SEED: THE CARDS: each row of YtncibghfgdldoaaDoorRows.lean that lists a variable, with what it lists TIED to the program's text (the seventh form; the later family's looks); each row that meets fmt, with fmt's text TOLD by the authors' own Lean function (tested against real Go, not proved from fmt's source: count such statements apart). THE CARD IS WHAT COUNTS. Prove the row's statement (the work); the ties are given (YtncibghfgdldoaaDoorTie.lean); close each card by the builder's one call (the guide's Derived/Test/ToyasCard.lean, 'card_holds'). Laid BY PROGRAM, IN A SANDBOX (cutbox-door.mjs). By AI agents, Wed Nov 11 2026. No macro, syntax, notation, axiom, sorry.
-/
import Derived.Test.YtncibghfgdldoaaDoorRows
import GoSem.ClaimSeven
namespace Go.Proofs.YtncibghfgdldoaaDoor
namespace Rows

/-- THE TIED CARD OF 'conciergelaw26.ClientOnce'. -/
def clientOnceCard : Claim7 := { stood := { row := clientOnceRow, standIns := [], harness := (true, "86a124b6714a5bc8331d90010c556175ec5215da0b72ca0d412e8808c7082661"), looks := true }, kinds := [], alts := [], laidByText := true, laidKinds := [.data, .pinned], laidTests := true, laidLooks := .later }
def ClientOnceCardSaid : Prop := Claim7.holds Tryd.pinned (.plain (OpenSpec.ofChange clientOnceSpec)) clientOnceCard

/-- THE TIED CARD OF 'conciergelaw17.LinkOthers'. -/
def linkOthersCard : Claim7 := { stood := { row := linkOthersRow, standIns := [], harness := (true, "86a124b6714a5bc8331d90010c556175ec5215da0b72ca0d412e8808c7082661"), looks := true }, kinds := [], alts := [], laidByText := true, laidKinds := [.data, .pinned], laidTests := true, laidLooks := .later }
def LinkOthersCardSaid : Prop := Claim7.holds Tryd.pinned (.plain (OpenSpec.ofChange linkOthersSpec)) linkOthersCard

/-- THE SECOND FORM's CARD OF 'conciergelaw26.ClientOnce'. -/
def clientOnceUptoCard : Claim7 := { stood := { row := clientOnceUptoRow, standIns := [], harness := (true, "86a124b6714a5bc8331d90010c556175ec5215da0b72ca0d412e8808c7082661"), looks := true }, kinds := [], alts := [], laidByText := true, laidKinds := [.data, .pinned], laidTests := true, laidLooks := .later }
def ClientOnceUptoCardSaid : Prop := Claim7.holds Tryd.pinned (.plain (OpenSpec.upto clientOnceSpec)) clientOnceUptoCard

/-- THE SECOND FORM's CARD OF 'conciergelaw17.LinkOthers'. -/
def linkOthersUptoCard : Claim7 := { stood := { row := linkOthersUptoRow, standIns := [], harness := (true, "86a124b6714a5bc8331d90010c556175ec5215da0b72ca0d412e8808c7082661"), looks := true }, kinds := [], alts := [], laidByText := true, laidKinds := [.data, .pinned], laidTests := true, laidLooks := .later }
def LinkOthersUptoCardSaid : Prop := Claim7.holds Tryd.pinned (.plain (OpenSpec.upto linkOthersSpec)) linkOthersUptoCard
end Rows
end Go.Proofs.YtncibghfgdldoaaDoor
