/-
  DERIVED. GIVEN WITH THE SEED: THE CARDS: each row of YtlkjmeobpbpgbaaDoorRows.lean that lists a variable, with what it lists TIED to the program's text (the seventh form; the later family's looks); each row that meets fmt, with fmt's text TOLD by the authors' own Lean function (tested against real Go, not proved from fmt's source: count such statements apart). THE CARD IS WHAT COUNTS. Prove the row's statement (the work); the ties are given (YtlkjmeobpbpgbaaDoorTie.lean); close each card by the builder's one call (the guide's Derived/Test/ToyasCard.lean, 'card_holds'). Laid BY PROGRAM, IN A SANDBOX (cutbox-door.mjs). By AI agents, Wed Nov 11 2026. No macro, syntax, notation, axiom, sorry.
-/
import Derived.Test.YtlkjmeobpbpgbaaDoorRows
import GoSem.ClaimSeven
namespace Go.Proofs.YtlkjmeobpbpgbaaDoor
namespace Rows

/-- THE TIED CARD OF 'conciergelaw3.AddrForms'. -/
def addrFormsCard : Claim7 := { stood := { row := addrFormsRow, standIns := [], harness := (true, "8619323bfed21fea389a85ee2edf894a062bd90207f532283514dc4c50c95c44"), looks := true }, kinds := [], alts := [], laidByText := true, laidKinds := [.data, .data, .data, .data, .sentinel, .sentinel, .pinned], laidTests := true, laidLooks := .later }
def AddrFormsCardSaid : Prop := Claim7.holds Tryd.pinned (.plain (OpenSpec.ofChange addrFormsSpec)) addrFormsCard

/-- THE TIED CARD OF 'conciergelaw15.ResolvLimits'. -/
def resolvLimitsCard : Claim7 := { stood := { row := resolvLimitsRow, standIns := [], harness := (true, "8619323bfed21fea389a85ee2edf894a062bd90207f532283514dc4c50c95c44"), looks := true }, kinds := [], alts := [], laidByText := true, laidKinds := [.data, .data, .data, .data, .sentinel, .sentinel, .pinned], laidTests := true, laidLooks := .later }
def ResolvLimitsCardSaid : Prop := Claim7.holds Tryd.pinned (.plain (OpenSpec.ofChange resolvLimitsSpec)) resolvLimitsCard

/-- THE SECOND FORM's CARD OF 'conciergelaw3.AddrForms'. -/
def addrFormsUptoCard : Claim7 := { stood := { row := addrFormsUptoRow, standIns := [], harness := (true, "8619323bfed21fea389a85ee2edf894a062bd90207f532283514dc4c50c95c44"), looks := true }, kinds := [], alts := [], laidByText := true, laidKinds := [.data, .data, .data, .data, .sentinel, .sentinel, .pinned], laidTests := true, laidLooks := .later }
def AddrFormsUptoCardSaid : Prop := Claim7.holds Tryd.pinned (.plain (OpenSpec.upto addrFormsSpec)) addrFormsUptoCard

/-- THE SECOND FORM's CARD OF 'conciergelaw15.ResolvLimits'. -/
def resolvLimitsUptoCard : Claim7 := { stood := { row := resolvLimitsUptoRow, standIns := [], harness := (true, "8619323bfed21fea389a85ee2edf894a062bd90207f532283514dc4c50c95c44"), looks := true }, kinds := [], alts := [], laidByText := true, laidKinds := [.data, .data, .data, .data, .sentinel, .sentinel, .pinned], laidTests := true, laidLooks := .later }
def ResolvLimitsUptoCardSaid : Prop := Claim7.holds Tryd.pinned (.plain (OpenSpec.upto resolvLimitsSpec)) resolvLimitsUptoCard
end Rows
end Go.Proofs.YtlkjmeobpbpgbaaDoor
