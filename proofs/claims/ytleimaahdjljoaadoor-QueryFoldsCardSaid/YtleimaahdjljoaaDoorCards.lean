/-
  DERIVED. GIVEN WITH THE SEED: THE CARDS: each row of YtleimaahdjljoaaDoorRows.lean that lists a variable, with what it lists TIED to the program's text (the seventh form; the later family's looks); each row that meets fmt, with fmt's text TOLD by the authors' own Lean function (tested against real Go, not proved from fmt's source: count such statements apart). THE CARD IS WHAT COUNTS. Prove the row's statement (the work); the ties are given (YtleimaahdjljoaaDoorTie.lean); close each card by the builder's one call (the guide's Derived/Test/ToyasCard.lean, 'card_holds'). Laid BY PROGRAM, IN A SANDBOX (cutbox-door.mjs). By AI agents, Wed Nov 11 2026. No macro, syntax, notation, axiom, sorry.
-/
import Derived.Test.YtleimaahdjljoaaDoorRows
import GoSem.ClaimSeven
namespace Go.Proofs.YtleimaahdjljoaaDoor
namespace Rows

/-- THE TIED CARD OF 'conciergelaw18.BuiltinBack'. -/
def builtinBackCard : Claim7 := { stood := { row := builtinBackRow, standIns := [], harness := (true, "8d9d06becee2ad54c4ea51699ed1b464c70497ee935e19c81b8b53fa8ea0271e"), looks := true }, kinds := [], alts := [], laidByText := true, laidKinds := [.data, .pinned], laidTests := true, laidLooks := .later }
def BuiltinBackCardSaid : Prop := Claim7.holds Tryd.pinned (.plain (OpenSpec.ofChange builtinBackSpec)) builtinBackCard

/-- THE TIED CARD OF 'conciergelaw26.ClientOnce'. -/
def clientOnceCard : Claim7 := { stood := { row := clientOnceRow, standIns := [], harness := (true, "8d9d06becee2ad54c4ea51699ed1b464c70497ee935e19c81b8b53fa8ea0271e"), looks := true }, kinds := [], alts := [], laidByText := true, laidKinds := [.data, .pinned], laidTests := true, laidLooks := .later }
def ClientOnceCardSaid : Prop := Claim7.holds Tryd.pinned (.plain (OpenSpec.ofChange clientOnceSpec)) clientOnceCard

/-- THE TIED CARD OF 'conciergelaw26.ClientAsk'. -/
def clientAskCard : Claim7 := { stood := { row := clientAskRow, standIns := [], harness := (true, "8d9d06becee2ad54c4ea51699ed1b464c70497ee935e19c81b8b53fa8ea0271e"), looks := true }, kinds := [], alts := [], laidByText := true, laidKinds := [.data, .pinned], laidTests := true, laidLooks := .later }
def ClientAskCardSaid : Prop := Claim7.holds Tryd.pinned (.plain (OpenSpec.ofChange clientAskSpec)) clientAskCard

/-- THE TIED CARD OF 'conciergelaw26.ClientBad'. -/
def clientBadCard : Claim7 := { stood := { row := clientBadRow, standIns := [], harness := (true, "8d9d06becee2ad54c4ea51699ed1b464c70497ee935e19c81b8b53fa8ea0271e"), looks := true }, kinds := [], alts := [], laidByText := true, laidKinds := [.data, .pinned], laidTests := true, laidLooks := .later }
def ClientBadCardSaid : Prop := Claim7.holds Tryd.pinned (.plain (OpenSpec.ofChange clientBadSpec)) clientBadCard

/-- THE TIED CARD OF 'conciergelaw14.QueryKey'. -/
def queryKeyCard : Claim7 := { stood := { row := queryKeyRow, standIns := [], harness := (true, "8d9d06becee2ad54c4ea51699ed1b464c70497ee935e19c81b8b53fa8ea0271e"), looks := true }, kinds := [], alts := [], laidByText := true, laidKinds := [.data, .data, .data, .data, .sentinel, .sentinel, .pinned], laidTests := true, laidLooks := .later }
def QueryKeyCardSaid : Prop := Claim7.holds Tryd.pinned (.plain (OpenSpec.ofChange queryKeySpec)) queryKeyCard

/-- THE TIED CARD OF 'conciergelaw14.QueryFolds'. -/
def queryFoldsCard : Claim7 := { stood := { row := queryFoldsRow, standIns := [], harness := (true, "8d9d06becee2ad54c4ea51699ed1b464c70497ee935e19c81b8b53fa8ea0271e"), looks := true }, kinds := [], alts := [], laidByText := true, laidKinds := [.data, .data, .data, .data, .sentinel, .sentinel, .pinned], laidTests := true, laidLooks := .later }
def QueryFoldsCardSaid : Prop := Claim7.holds Tryd.pinned (.plain (OpenSpec.ofChange queryFoldsSpec)) queryFoldsCard

/-- THE TIED CARD OF 'conciergelaw14.QueryCheck'. -/
def queryCheckCard : Claim7 := { stood := { row := queryCheckRow, standIns := [], harness := (true, "8d9d06becee2ad54c4ea51699ed1b464c70497ee935e19c81b8b53fa8ea0271e"), looks := true }, kinds := [], alts := [], laidByText := true, laidKinds := [.data, .data, .data, .data, .sentinel, .sentinel, .pinned], laidTests := true, laidLooks := .later }
def QueryCheckCardSaid : Prop := Claim7.holds Tryd.pinned (.plain (OpenSpec.ofChange queryCheckSpec)) queryCheckCard

/-- THE TIED CARD OF 'conciergelaw21.CacheLru'. -/
def cacheLruCard : Claim7 := { stood := { row := cacheLruRow, standIns := [], harness := (true, "8d9d06becee2ad54c4ea51699ed1b464c70497ee935e19c81b8b53fa8ea0271e"), looks := true }, kinds := [], alts := [], laidByText := true, laidKinds := [.data, .data, .data, .data, .sentinel, .sentinel, .pinned], laidTests := true, laidLooks := .later }
def CacheLruCardSaid : Prop := Claim7.holds Tryd.pinned (.plain (OpenSpec.ofChange cacheLruSpec)) cacheLruCard

/-- THE SECOND FORM's CARD OF 'conciergelaw18.BuiltinBack'. -/
def builtinBackUptoCard : Claim7 := { stood := { row := builtinBackUptoRow, standIns := [], harness := (true, "8d9d06becee2ad54c4ea51699ed1b464c70497ee935e19c81b8b53fa8ea0271e"), looks := true }, kinds := [], alts := [], laidByText := true, laidKinds := [.data, .pinned], laidTests := true, laidLooks := .later }
def BuiltinBackUptoCardSaid : Prop := Claim7.holds Tryd.pinned (.plain (OpenSpec.upto builtinBackSpec)) builtinBackUptoCard

/-- THE SECOND FORM's CARD OF 'conciergelaw26.ClientOnce'. -/
def clientOnceUptoCard : Claim7 := { stood := { row := clientOnceUptoRow, standIns := [], harness := (true, "8d9d06becee2ad54c4ea51699ed1b464c70497ee935e19c81b8b53fa8ea0271e"), looks := true }, kinds := [], alts := [], laidByText := true, laidKinds := [.data, .pinned], laidTests := true, laidLooks := .later }
def ClientOnceUptoCardSaid : Prop := Claim7.holds Tryd.pinned (.plain (OpenSpec.upto clientOnceSpec)) clientOnceUptoCard

/-- THE SECOND FORM's CARD OF 'conciergelaw26.ClientAsk'. -/
def clientAskUptoCard : Claim7 := { stood := { row := clientAskUptoRow, standIns := [], harness := (true, "8d9d06becee2ad54c4ea51699ed1b464c70497ee935e19c81b8b53fa8ea0271e"), looks := true }, kinds := [], alts := [], laidByText := true, laidKinds := [.data, .pinned], laidTests := true, laidLooks := .later }
def ClientAskUptoCardSaid : Prop := Claim7.holds Tryd.pinned (.plain (OpenSpec.upto clientAskSpec)) clientAskUptoCard

/-- THE SECOND FORM's CARD OF 'conciergelaw26.ClientBad'. -/
def clientBadUptoCard : Claim7 := { stood := { row := clientBadUptoRow, standIns := [], harness := (true, "8d9d06becee2ad54c4ea51699ed1b464c70497ee935e19c81b8b53fa8ea0271e"), looks := true }, kinds := [], alts := [], laidByText := true, laidKinds := [.data, .pinned], laidTests := true, laidLooks := .later }
def ClientBadUptoCardSaid : Prop := Claim7.holds Tryd.pinned (.plain (OpenSpec.upto clientBadSpec)) clientBadUptoCard

/-- THE SECOND FORM's CARD OF 'conciergelaw14.QueryKey'. -/
def queryKeyUptoCard : Claim7 := { stood := { row := queryKeyUptoRow, standIns := [], harness := (true, "8d9d06becee2ad54c4ea51699ed1b464c70497ee935e19c81b8b53fa8ea0271e"), looks := true }, kinds := [], alts := [], laidByText := true, laidKinds := [.data, .data, .data, .data, .sentinel, .sentinel, .pinned], laidTests := true, laidLooks := .later }
def QueryKeyUptoCardSaid : Prop := Claim7.holds Tryd.pinned (.plain (OpenSpec.upto queryKeySpec)) queryKeyUptoCard

/-- THE SECOND FORM's CARD OF 'conciergelaw14.QueryFolds'. -/
def queryFoldsUptoCard : Claim7 := { stood := { row := queryFoldsUptoRow, standIns := [], harness := (true, "8d9d06becee2ad54c4ea51699ed1b464c70497ee935e19c81b8b53fa8ea0271e"), looks := true }, kinds := [], alts := [], laidByText := true, laidKinds := [.data, .data, .data, .data, .sentinel, .sentinel, .pinned], laidTests := true, laidLooks := .later }
def QueryFoldsUptoCardSaid : Prop := Claim7.holds Tryd.pinned (.plain (OpenSpec.upto queryFoldsSpec)) queryFoldsUptoCard

/-- THE SECOND FORM's CARD OF 'conciergelaw14.QueryCheck'. -/
def queryCheckUptoCard : Claim7 := { stood := { row := queryCheckUptoRow, standIns := [], harness := (true, "8d9d06becee2ad54c4ea51699ed1b464c70497ee935e19c81b8b53fa8ea0271e"), looks := true }, kinds := [], alts := [], laidByText := true, laidKinds := [.data, .data, .data, .data, .sentinel, .sentinel, .pinned], laidTests := true, laidLooks := .later }
def QueryCheckUptoCardSaid : Prop := Claim7.holds Tryd.pinned (.plain (OpenSpec.upto queryCheckSpec)) queryCheckUptoCard

/-- THE SECOND FORM's CARD OF 'conciergelaw21.CacheLru'. -/
def cacheLruUptoCard : Claim7 := { stood := { row := cacheLruUptoRow, standIns := [], harness := (true, "8d9d06becee2ad54c4ea51699ed1b464c70497ee935e19c81b8b53fa8ea0271e"), looks := true }, kinds := [], alts := [], laidByText := true, laidKinds := [.data, .data, .data, .data, .sentinel, .sentinel, .pinned], laidTests := true, laidLooks := .later }
def CacheLruUptoCardSaid : Prop := Claim7.holds Tryd.pinned (.plain (OpenSpec.upto cacheLruSpec)) cacheLruUptoCard
end Rows
end Go.Proofs.YtleimaahdjljoaaDoor
