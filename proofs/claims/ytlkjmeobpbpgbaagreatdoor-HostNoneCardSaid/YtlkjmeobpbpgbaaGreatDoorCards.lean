/-
  DERIVED. GIVEN WITH THE SEED: THE CARDS: each row of YtlkjmeobpbpgbaaGreatDoorRows.lean that lists a variable, with what it lists TIED to the program's text (the seventh form; the later family's looks); each row that meets fmt, with fmt's text TOLD by the authors' own Lean function (tested against real Go, not proved from fmt's source: count such statements apart). THE CARD IS WHAT COUNTS. Prove the row's statement (the work); the ties are given (YtlkjmeobpbpgbaaGreatDoorTie.lean); close each card by the builder's one call (the guide's Derived/Test/ToyasCard.lean, 'card_holds'). Laid BY PROGRAM, IN A SANDBOX (cutbox-door.mjs). By AI agents, Wed Nov 11 2026. No macro, syntax, notation, axiom, sorry.
-/
import Derived.Test.YtlkjmeobpbpgbaaGreatDoorRows
import GoSem.ClaimSeven
namespace Go.Proofs.YtlkjmeobpbpgbaaGreatDoor
namespace Rows

/-- THE TIED CARD OF 'conciergelaw6.HostNone'. -/
def hostNoneCard : Claim7 := { stood := { row := hostNoneRow, standIns := [], harness := (true, "c826b49fb77c6634f0f51e2b61c97a77aeadf3c8d2c5b8ef39a532bf8bc2151e"), looks := true }, kinds := [], alts := [], laidByText := true, laidKinds := [.data, .data, .data, .data, .sentinel, .sentinel, .pinned], laidTests := true, laidLooks := .later }
def HostNoneCardSaid : Prop := Claim7.holds Tryz.pinned (.plain (OpenSpec.ofChange hostNoneSpec)) hostNoneCard

/-- THE TIED CARD OF 'conciergelaw21.CacheNone'. -/
def cacheNoneCard : Claim7 := { stood := { row := cacheNoneRow, standIns := [], harness := (true, "c826b49fb77c6634f0f51e2b61c97a77aeadf3c8d2c5b8ef39a532bf8bc2151e"), looks := true }, kinds := [], alts := [], laidByText := true, laidKinds := [.data, .data, .data, .data, .sentinel, .sentinel, .pinned], laidTests := true, laidLooks := .later }
def CacheNoneCardSaid : Prop := Claim7.holds Tryz.pinned (.plain (OpenSpec.ofChange cacheNoneSpec)) cacheNoneCard

/-- THE TIED CARD OF 'conciergelaw8.FilesNone'. -/
def filesNoneCard : Claim7 := { stood := { row := filesNoneRow, standIns := [], harness := (true, "c826b49fb77c6634f0f51e2b61c97a77aeadf3c8d2c5b8ef39a532bf8bc2151e"), looks := true }, kinds := [], alts := [], laidByText := true, laidKinds := [.data, .data, .data, .data, .sentinel, .sentinel, .pinned], laidTests := true, laidLooks := .later }
def FilesNoneCardSaid : Prop := Claim7.holds Tryz.pinned (.plain (OpenSpec.ofChange filesNoneSpec)) filesNoneCard

/-- THE SECOND FORM's CARD OF 'conciergelaw6.HostNone'. -/
def hostNoneUptoCard : Claim7 := { stood := { row := hostNoneUptoRow, standIns := [], harness := (true, "c826b49fb77c6634f0f51e2b61c97a77aeadf3c8d2c5b8ef39a532bf8bc2151e"), looks := true }, kinds := [], alts := [], laidByText := true, laidKinds := [.data, .data, .data, .data, .sentinel, .sentinel, .pinned], laidTests := true, laidLooks := .later }
def HostNoneUptoCardSaid : Prop := Claim7.holds Tryz.pinned (.plain (OpenSpec.upto hostNoneSpec)) hostNoneUptoCard

/-- THE SECOND FORM's CARD OF 'conciergelaw21.CacheNone'. -/
def cacheNoneUptoCard : Claim7 := { stood := { row := cacheNoneUptoRow, standIns := [], harness := (true, "c826b49fb77c6634f0f51e2b61c97a77aeadf3c8d2c5b8ef39a532bf8bc2151e"), looks := true }, kinds := [], alts := [], laidByText := true, laidKinds := [.data, .data, .data, .data, .sentinel, .sentinel, .pinned], laidTests := true, laidLooks := .later }
def CacheNoneUptoCardSaid : Prop := Claim7.holds Tryz.pinned (.plain (OpenSpec.upto cacheNoneSpec)) cacheNoneUptoCard

/-- THE SECOND FORM's CARD OF 'conciergelaw8.FilesNone'. -/
def filesNoneUptoCard : Claim7 := { stood := { row := filesNoneUptoRow, standIns := [], harness := (true, "c826b49fb77c6634f0f51e2b61c97a77aeadf3c8d2c5b8ef39a532bf8bc2151e"), looks := true }, kinds := [], alts := [], laidByText := true, laidKinds := [.data, .data, .data, .data, .sentinel, .sentinel, .pinned], laidTests := true, laidLooks := .later }
def FilesNoneUptoCardSaid : Prop := Claim7.holds Tryz.pinned (.plain (OpenSpec.upto filesNoneSpec)) filesNoneUptoCard
end Rows
end Go.Proofs.YtlkjmeobpbpgbaaGreatDoor
