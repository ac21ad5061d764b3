/-
  DERIVED. GIVEN WITH THE SEED: THE CARDS: each row of YtjighphlkcedhaaDoorRows.lean that lists a variable, with what it lists TIED to the program's text (the seventh form; the later family's looks); each row that meets fmt, with fmt's text TOLD by the authors' own Lean function (tested against real Go, not proved from fmt's source: count such statements apart). THE CARD IS WHAT COUNTS. Prove the row's statement (the work); the ties are given (YtjighphlkcedhaaDoorTie.lean); close each card by the builder's one call (the guide's Derived/Test/ToyasCard.lean, 'card_holds'). Laid BY PROGRAM, IN A SANDBOX (cutbox-door.mjs). By AI agents, Wed Nov 11 2026. No macro, syntax, notation, axiom, sorry.
-/
import Derived.Test.YtjighphlkcedhaaDoorRows
import GoSem.ClaimSeven
namespace Go.Proofs.YtjighphlkcedhaaDoor
namespace Rows

/-- THE TIED CARD OF 'conciergelaw26.ClientBad'. -/
def clientBadCard : Claim7 := { stood := { row := clientBadRow, standIns := [], harness := (true, "265c6de7e0c5489b3bf05039c7d639a33f9fa1e67fa13e5c8057b21536cd54d8"), looks := true }, kinds := [], alts := [], laidByText := true, laidKinds := [.data, .pinned], laidTests := true, laidLooks := .later }
def ClientBadCardSaid : Prop := Claim7.holds Tryd.pinned (.plain (OpenSpec.ofChange clientBadSpec)) clientBadCard

/-- THE SECOND FORM's CARD OF 'conciergelaw26.ClientBad'. -/
def clientBadUptoCard : Claim7 := { stood := { row := clientBadUptoRow, standIns := [], harness := (true, "265c6de7e0c5489b3bf05039c7d639a33f9fa1e67fa13e5c8057b21536cd54d8"), looks := true }, kinds := [], alts := [], laidByText := true, laidKinds := [.data, .pinned], laidTests := true, laidLooks := .later }
def ClientBadUptoCardSaid : Prop := Claim7.holds Tryd.pinned (.plain (OpenSpec.upto clientBadSpec)) clientBadUptoCard
end Rows
end Go.Proofs.YtjighphlkcedhaaDoor
