/-
  DERIVED. GIVEN WITH THE SEED: THE CARDS: each row of YtgijbobfiocopaaGreatDoorRows.lean that lists a variable, with what it lists TIED to the program's text (the seventh form; the later family's looks); each row that meets fmt, with fmt's text TOLD by the authors' own Lean function (tested against real Go, not proved from fmt's source: count such statements apart). THE CARD IS WHAT COUNTS. Prove the row's statement (the work); the ties are given (YtgijbobfiocopaaGreatDoorTie.lean); close each card by the builder's one call (the guide's Derived/Test/ToyasCard.lean, 'card_holds'). Laid BY PROGRAM, IN A SANDBOX (cutbox-door.mjs). By AI agents, Wed Nov 11 2026. No macro, syntax, notation, axiom, sorry.
-/
import Derived.Test.YtgijbobfiocopaaGreatDoorRows
import GoSem.ClaimSeven
namespace Go.Proofs.YtgijbobfiocopaaGreatDoor
namespace Rows

/-- THE TIED CARD OF 'conciergetop.TopAlone'. -/
def topAloneCard : Claim7 := { stood := { row := topAloneRow, standIns := [], harness := (true, "80f597df5b2d6456a2c3a8955b72d5d94d4eb61ab297c08dc79efac5ff0b86b2"), looks := true }, kinds := [], alts := [], laidByText := true, laidKinds := [.data, .data, .data, .data, .sentinel, .sentinel, .pinned], laidTests := true, laidLooks := .later }
def TopAloneCardSaid : Prop := Claim7.holds Tryz.pinned (.plain (OpenSpec.ofChange topAloneSpec)) topAloneCard

/-- THE TIED CARD OF 'conciergetop.TopReload'. -/
def topReloadCard : Claim7 := { stood := { row := topReloadRow, standIns := [], harness := (true, "80f597df5b2d6456a2c3a8955b72d5d94d4eb61ab297c08dc79efac5ff0b86b2"), looks := true }, kinds := [], alts := [], laidByText := true, laidKinds := [.data, .data, .data, .data, .sentinel, .sentinel, .pinned], laidTests := true, laidLooks := .later }
def TopReloadCardSaid : Prop := Claim7.holds Tryz.pinned (.plain (OpenSpec.ofChange topReloadSpec)) topReloadCard

/-- THE SECOND FORM's CARD OF 'conciergetop.TopAlone'. -/
def topAloneUptoCard : Claim7 := { stood := { row := topAloneUptoRow, standIns := [], harness := (true, "80f597df5b2d6456a2c3a8955b72d5d94d4eb61ab297c08dc79efac5ff0b86b2"), looks := true }, kinds := [], alts := [], laidByText := true, laidKinds := [.data, .data, .data, .data, .sentinel, .sentinel, .pinned], laidTests := true, laidLooks := .later }
def TopAloneUptoCardSaid : Prop := Claim7.holds Tryz.pinned (.plain (OpenSpec.upto topAloneSpec)) topAloneUptoCard

/-- THE SECOND FORM's CARD OF 'conciergetop.TopReload'. -/
def topReloadUptoCard : Claim7 := { stood := { row := topReloadUptoRow, standIns := [], harness := (true, "80f597df5b2d6456a2c3a8955b72d5d94d4eb61ab297c08dc79efac5ff0b86b2"), looks := true }, kinds := [], alts := [], laidByText := true, laidKinds := [.data, .data, .data, .data, .sentinel, .sentinel, .pinned], laidTests := true, laidLooks := .later }
def TopReloadUptoCardSaid : Prop := Claim7.holds Tryz.pinned (.plain (OpenSpec.upto topReloadSpec)) topReloadUptoCard
end Rows
end Go.Proofs.YtgijbobfiocopaaGreatDoor
