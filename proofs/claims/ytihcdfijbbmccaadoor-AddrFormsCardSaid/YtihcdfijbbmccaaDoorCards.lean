/-
  DERIVED. GIVEN WITH THE SEED: THE CARDS: each row of YtihcdfijbbmccaaDoorRows.lean that lists a variable, with what it lists TIED to the program's text (the seventh form; the later family's looks); each row that meets fmt, with fmt's text TOLD by the authors' own Lean function (tested against real Go, not proved from fmt's source: count such statements apart). THE CARD IS WHAT COUNTS. Prove the row's statement (the work); the ties are given (YtihcdfijbbmccaaDoorTie.lean); close each card by the builder's one call (the guide's Derived/Test/ToyasCard.lean, 'card_holds'). Laid BY PROGRAM, IN A SANDBOX (cutbox-door.mjs). By AI agents, Wed Nov 11 2026. No macro, syntax, notation, axiom, sorry.
-/
import Derived.Test.YtihcdfijbbmccaaDoorRows
import GoSem.ClaimSeven
namespace Go.Proofs.YtihcdfijbbmccaaDoor
namespace Rows

/-- THE TIED CARD OF 'conciergelaw3.AddrForms'. -/
def addrFormsCard : Claim7 := { stood := { row := addrFormsRow, standIns := [], harness := (true, "bf5bb69190cf9aa7c3db00b69ff14f9270d47b3b5cc24f081320038923d2f6e6"), looks := true }, kinds := [], alts := [], laidByText := true, laidKinds := [.data, .data, .data, .data, .sentinel, .sentinel, .pinned], laidTests := true, laidLooks := .later }
def AddrFormsCardSaid : Prop := Claim7.holds Tryd.pinned (.plain (OpenSpec.ofChange addrFormsSpec)) addrFormsCard

/-- THE TIED CARD OF 'conciergelaw26.ClientOnce'. -/
def clientOnceCard : Claim7 := { stood := { row := clientOnceRow, standIns := [], harness := (true, "bf5bb69190cf9aa7c3db00b69ff14f9270d47b3b5cc24f081320038923d2f6e6"), looks := true }, kinds := [], alts := [], laidByText := true, laidKinds := [.data, .pinned], laidTests := true, laidLooks := .later }
def ClientOnceCardSaid : Prop := Claim7.holds Tryd.pinned (.plain (OpenSpec.ofChange clientOnceSpec)) clientOnceCard

/-- THE TIED CARD OF 'conciergelaw21.CacheLru'. -/
def cacheLruCard : Claim7 := { stood := { row := cacheLruRow, standIns := [], harness := (true, "bf5bb69190cf9aa7c3db00b69ff14f9270d47b3b5cc24f081320038923d2f6e6"), looks := true }, kinds := [], alts := [], laidByText := true, laidKinds := [.data, .data, .data, .data, .sentinel, .sentinel, .pinned], laidTests := true, laidLooks := .later }
def CacheLruCardSaid : Prop := Claim7.holds Tryd.pinned (.plain (OpenSpec.ofChange cacheLruSpec)) cacheLruCard

/-- THE SECOND FORM's CARD OF 'conciergelaw3.AddrForms'. -/
def addrFormsUptoCard : Claim7 := { stood := { row := addrFormsUptoRow, standIns := [], harness := (true, "bf5bb69190cf9aa7c3db00b69ff14f9270d47b3b5cc24f081320038923d2f6e6"), looks := true }, kinds := [], alts := [], laidByText := true, laidKinds := [.data, .data, .data, .data, .sentinel, .sentinel, .pinned], laidTests := true, laidLooks := .later }
def AddrFormsUptoCardSaid : Prop := Claim7.holds Tryd.pinned (.plain (OpenSpec.upto addrFormsSpec)) addrFormsUptoCard

/-- THE SECOND FORM's CARD OF 'conciergelaw26.ClientOnce'. -/
def clientOnceUptoCard : Claim7 := { stood := { row := clientOnceUptoRow, standIns := [], harness := (true, "bf5bb69190cf9aa7c3db00b69ff14f9270d47b3b5cc24f081320038923d2f6e6"), looks := true }, kinds := [], alts := [], laidByText := true, laidKinds := [.data, .pinned], laidTests := true, laidLooks := .later }
def ClientOnceUptoCardSaid : Prop := Claim7.holds Tryd.pinned (.plain (OpenSpec.upto clientOnceSpec)) clientOnceUptoCard

/-- THE SECOND FORM's CARD OF 'conciergelaw21.CacheLru'. -/
def cacheLruUptoCard : Claim7 := { stood := { row := cacheLruUptoRow, standIns := [], harness := (true, "bf5bb69190cf9aa7c3db00b69ff14f9270d47b3b5cc24f081320038923d2f6e6"), looks := true }, kinds := [], alts := [], laidByText := true, laidKinds := [.data, .data, .data, .data, .sentinel, .sentinel, .pinned], laidTests := true, laidLooks := .later }
def CacheLruUptoCardSaid : Prop := Claim7.holds Tryd.pinned (.plain (OpenSpec.upto cacheLruSpec)) cacheLruUptoCard
end Rows
end Go.Proofs.YtihcdfijbbmccaaDoor
