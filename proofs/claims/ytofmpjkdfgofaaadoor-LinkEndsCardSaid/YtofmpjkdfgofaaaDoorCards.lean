/-
  DERIVED. GIVEN WITH THE SEED: THE CARDS: each row of YtofmpjkdfgofaaaDoorRows.lean that lists a variable, with what it lists TIED to the program's text (the seventh form; the later family's looks); each row that meets fmt, with fmt's text TOLD by the authors' own Lean function (tested against real Go, not proved from fmt's source: count such statements apart). THE CARD IS WHAT COUNTS. Prove the row's statement (the work); the ties are given (YtofmpjkdfgofaaaDoorTie.lean); close each card by the builder's one call (the guide's Derived/Test/ToyasCard.lean, 'card_holds'). Laid BY PROGRAM, IN A SANDBOX (cutbox-door.mjs). By AI agents, Wed Nov 11 2026. No macro, syntax, notation, axiom, sorry.
-/
import Derived.Test.YtofmpjkdfgofaaaDoorRows
import GoSem.ClaimSeven
namespace Go.Proofs.YtofmpjkdfgofaaaDoor
namespace Rows

/-- THE TIED CARD OF 'conciergelaw17.LinkEnds'. -/
def linkEndsCard : Claim7 := { stood := { row := linkEndsRow, standIns := [], harness := (true, "53734d852903ec70795b678f6267a397717fb5a0351ab833248f5977a4885620"), looks := true }, kinds := [], alts := [], laidByText := true, laidKinds := [.data, .pinned], laidTests := true, laidLooks := .later }
def LinkEndsCardSaid : Prop := Claim7.holds Tryd.pinned (.plain (OpenSpec.ofChange linkEndsSpec)) linkEndsCard

/-- THE TIED CARD OF 'conciergelaw17.LinkOthers'. -/
def linkOthersCard : Claim7 := { stood := { row := linkOthersRow, standIns := [], harness := (true, "53734d852903ec70795b678f6267a397717fb5a0351ab833248f5977a4885620"), looks := true }, kinds := [], alts := [], laidByText := true, laidKinds := [.data, .pinned], laidTests := true, laidLooks := .later }
def LinkOthersCardSaid : Prop := Claim7.holds Tryd.pinned (.plain (OpenSpec.ofChange linkOthersSpec)) linkOthersCard

/-- THE SECOND FORM's CARD OF 'conciergelaw17.LinkEnds'. -/
def linkEndsUptoCard : Claim7 := { stood := { row := linkEndsUptoRow, standIns := [], harness := (true, "53734d852903ec70795b678f6267a397717fb5a0351ab833248f5977a4885620"), looks := true }, kinds := [], alts := [], laidByText := true, laidKinds := [.data, .pinned], laidTests := true, laidLooks := .later }
def LinkEndsUptoCardSaid : Prop := Claim7.holds Tryd.pinned (.plain (OpenSpec.upto linkEndsSpec)) linkEndsUptoCard

/-- THE SECOND FORM's CARD OF 'conciergelaw17.LinkOthers'. -/
def linkOthersUptoCard : Claim7 := { stood := { row := linkOthersUptoRow, standIns := [], harness := (true, "53734d852903ec70795b678f6267a397717fb5a0351ab833248f5977a4885620"), looks := true }, kinds := [], alts := [], laidByText := true, laidKinds := [.data, .pinned], laidTests := true, laidLooks := .later }
def LinkOthersUptoCardSaid : Prop := Claim7.holds Tryd.pinned (.plain (OpenSpec.upto linkOthersSpec)) linkOthersUptoCard
end Rows
end Go.Proofs.YtofmpjkdfgofaaaDoor
