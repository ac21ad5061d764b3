/-
  DERIVED. GIVEN WITH THE SEED: THE CARDS: each row of YtpjfkfgnnecgjaaDoorRows.lean that lists a variable, with what it lists TIED to the program's text (the seventh form; the later family's looks); each row that meets fmt, with fmt's text TOLD by the authors' own Lean function (tested against real Go, not proved from fmt's source: count such statements apart). THE CARD IS WHAT COUNTS. Prove the row's statement (the work); the ties are given (YtpjfkfgnnecgjaaDoorTie.lean); close each card by the builder's one call (the guide's Derived/Test/ToyasCard.lean, 'card_holds'). Laid BY PROGRAM, IN A SANDBOX (cutbox-door.mjs). By AI agents, Wed Nov 11 2026. No macro, syntax, notation, axiom, sorry.
-/
import Derived.Test.YtpjfkfgnnecgjaaDoorRows
import GoSem.ClaimSeven
namespace Go.Proofs.YtpjfkfgnnecgjaaDoor
namespace Rows

/-- THE TIED CARD OF 'conciergelaw3.AddrParse'. -/
def addrParseCard : Claim7 := { stood := { row := addrParseRow, standIns := [], harness := (true, "e81411798f67dbadcafb99a0647ed37c8edc4c99351a536a326cf2f7791db24d"), looks := true }, kinds := [], alts := [], laidByText := true, laidKinds := [.data, .data, .data, .data, .sentinel, .sentinel, .pinned], laidTests := true, laidLooks := .later }
def AddrParseCardSaid : Prop := Claim7.holds Tryd.pinned (.plain (OpenSpec.ofChange addrParseSpec)) addrParseCard

/-- THE TIED CARD OF 'conciergelaw3.AddrPrint'. -/
def addrPrintCard : Claim7 := { stood := { row := addrPrintRow, standIns := [], harness := (true, "e81411798f67dbadcafb99a0647ed37c8edc4c99351a536a326cf2f7791db24d"), looks := true }, kinds := [], alts := [], laidByText := true, laidKinds := [.data, .data, .data, .data, .sentinel, .sentinel, .pinned], laidTests := true, laidLooks := .later }
def AddrPrintCardSaid : Prop := Claim7.holds Tryd.pinned (.plain (OpenSpec.ofChange addrPrintSpec)) addrPrintCard

/-- THE TIED CARD OF 'conciergelaw3.AddrPrefix'. -/
def addrPrefixCard : Claim7 := { stood := { row := addrPrefixRow, standIns := [], harness := (true, "e81411798f67dbadcafb99a0647ed37c8edc4c99351a536a326cf2f7791db24d"), looks := true }, kinds := [], alts := [], laidByText := true, laidKinds := [.data, .data, .data, .data, .sentinel, .sentinel, .pinned], laidTests := true, laidLooks := .later }
def AddrPrefixCardSaid : Prop := Claim7.holds Tryd.pinned (.plain (OpenSpec.ofChange addrPrefixSpec)) addrPrefixCard

/-- THE SECOND FORM's CARD OF 'conciergelaw3.AddrParse'. -/
def addrParseUptoCard : Claim7 := { stood := { row := addrParseUptoRow, standIns := [], harness := (true, "e81411798f67dbadcafb99a0647ed37c8edc4c99351a536a326cf2f7791db24d"), looks := true }, kinds := [], alts := [], laidByText := true, laidKinds := [.data, .data, .data, .data, .sentinel, .sentinel, .pinned], laidTests := true, laidLooks := .later }
def AddrParseUptoCardSaid : Prop := Claim7.holds Tryd.pinned (.plain (OpenSpec.upto addrParseSpec)) addrParseUptoCard

/-- THE SECOND FORM's CARD OF 'conciergelaw3.AddrPrint'. -/
def addrPrintUptoCard : Claim7 := { stood := { row := addrPrintUptoRow, standIns := [], harness := (true, "e81411798f67dbadcafb99a0647ed37c8edc4c99351a536a326cf2f7791db24d"), looks := true }, kinds := [], alts := [], laidByText := true, laidKinds := [.data, .data, .data, .data, .sentinel, .sentinel, .pinned], laidTests := true, laidLooks := .later }
def AddrPrintUptoCardSaid : Prop := Claim7.holds Tryd.pinned (.plain (OpenSpec.upto addrPrintSpec)) addrPrintUptoCard

/-- THE SECOND FORM's CARD OF 'conciergelaw3.AddrPrefix'. -/
def addrPrefixUptoCard : Claim7 := { stood := { row := addrPrefixUptoRow, standIns := [], harness := (true, "e81411798f67dbadcafb99a0647ed37c8edc4c99351a536a326cf2f7791db24d"), looks := true }, kinds := [], alts := [], laidByText := true, laidKinds := [.data, .data, .data, .data, .sentinel, .sentinel, .pinned], laidTests := true, laidLooks := .later }
def AddrPrefixUptoCardSaid : Prop := Claim7.holds Tryd.pinned (.plain (OpenSpec.upto addrPrefixSpec)) addrPrefixUptoCard
end Rows
end Go.Proofs.YtpjfkfgnnecgjaaDoor
