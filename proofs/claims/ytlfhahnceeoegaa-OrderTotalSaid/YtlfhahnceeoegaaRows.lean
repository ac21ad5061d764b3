/-
  No cell of these rows narrows 'for every input' (looked for: loops, veiled, ifaces, maps, wideKeys, modest, calm, conditions, laid).
  DERIVED. THE GIVEN ROWS OF THIS SEAT. 4 by the template 'for every input the law returns true; each argument reads behind the call as it read before'; 0 by the template 'total and deterministic' (their statements: YtlfhahnceeoegaaTotals.lean).
  GIVEN WITH THE SEED: the statements are not yours to turn. If you find one false, say at which input.
  Laid BY PROGRAM, IN A SANDBOX (cutbox-rows.mjs): the forced cells as the released guide's own fill.sh prints them over the translation fc722576dc660103… (all of the seat's roots in one cut). By AI agents, Wed Nov 11 2026. No macro, syntax, notation, axiom, sorry.
-/
import Derived.Test.YtlfhahnceeoegaaChecked
import GoSem.Claim
import GoSem.ClaimJoined
import GoSem.ClaimMapViews
import Derived.JoinedTies
import Derived.KernelRfl
namespace Go.Proofs.Ytlfhahnceeoegaa
/- THE CELL 'sum', in the pinned program and in every row, IS THE sha256 OF THE DUMP (.gsa) THAT YtlfhahnceeoegaaProg.lean LOADS. Nothing in Lean hashes anything: it is a label: what it is worth is what the hold of that sum in a sandbox is worth. -/
noncomputable def Try.pinned : Pinned := { name := "ytlfhahnceeoegaa", sum := "fc722576dc6601039bfc0e03b062d2ec22038caecfb77fc91b55bacc81a18ba4", checked := Try.checked }
namespace Rows
def none {H : Type} : Left H := { results := [], args := [] }

/-- 'conciergelaw20.OrderSort': WHATEVER THE INPUT: true; the input reads as it did. -/
def orderSortSpec : ChangeSpec := { name := "orderSort", fn := fun _ => fun
  | [d1, d2] => { results := [.lit (.bool true)], args := [d1, d2] }
  | _ => none }
def orderSortRow : OpenClaim := { program := "ytlfhahnceeoegaa", sum := "fc722576dc6601039bfc0e03b062d2ec22038caecfb77fc91b55bacc81a18ba4", func := "concierge/conciergelaw20.OrderSort", spec := "orderSort", unfollowed := true, recurses := true, apart := false }
def OrderSortSaid : Prop := orderSortRow.holds Try.pinned (OpenSpec.ofChange orderSortSpec)

/-- ITS FALSE NEIGHBOUR: 'it returns false'. Refute it at one input. -/
def orderSortWrong : ChangeSpec := { name := "orderSort", fn := fun _ => fun
  | [d1, d2] => { results := [.lit (.bool false)], args := [d1, d2] }
  | _ => none }
def OrderSortWrongFalsely : Prop := orderSortRow.holds Try.pinned (OpenSpec.ofChange orderSortWrong)

/-- 'conciergelaw20.OrderAddrs': WHATEVER THE INPUT: true; the input reads as it did. -/
def orderAddrsSpec : ChangeSpec := { name := "orderAddrs", fn := fun _ => fun
  | [d1, d2] => { results := [.lit (.bool true)], args := [d1, d2] }
  | _ => none }
def orderAddrsRow : OpenClaim := { program := "ytlfhahnceeoegaa", sum := "fc722576dc6601039bfc0e03b062d2ec22038caecfb77fc91b55bacc81a18ba4", func := "concierge/conciergelaw20.OrderAddrs", spec := "orderAddrs", unfollowed := true, recurses := true, apart := false }
def OrderAddrsSaid : Prop := orderAddrsRow.holds Try.pinned (OpenSpec.ofChange orderAddrsSpec)

/-- ITS FALSE NEIGHBOUR: 'it returns false'. Refute it at one input. -/
def orderAddrsWrong : ChangeSpec := { name := "orderAddrs", fn := fun _ => fun
  | [d1, d2] => { results := [.lit (.bool false)], args := [d1, d2] }
  | _ => none }
def OrderAddrsWrongFalsely : Prop := orderAddrsRow.holds Try.pinned (OpenSpec.ofChange orderAddrsWrong)

/-- 'conciergelaw20.OrderTwice': WHATEVER THE INPUT: true; the input reads as it did. -/
def orderTwiceSpec : ChangeSpec := { name := "orderTwice", fn := fun _ => fun
  | [d] => { results := [.lit (.bool true)], args := [d] }
  | _ => none }
def orderTwiceRow : OpenClaim := { program := "ytlfhahnceeoegaa", sum := "fc722576dc6601039bfc0e03b062d2ec22038caecfb77fc91b55bacc81a18ba4", func := "concierge/conciergelaw20.OrderTwice", spec := "orderTwice", unfollowed := true, recurses := true, apart := false }
def OrderTwiceSaid : Prop := orderTwiceRow.holds Try.pinned (OpenSpec.ofChange orderTwiceSpec)

/-- ITS FALSE NEIGHBOUR: 'it returns false'. Refute it at one input. -/
def orderTwiceWrong : ChangeSpec := { name := "orderTwice", fn := fun _ => fun
  | [d] => { results := [.lit (.bool false)], args := [d] }
  | _ => none }
def OrderTwiceWrongFalsely : Prop := orderTwiceRow.holds Try.pinned (OpenSpec.ofChange orderTwiceWrong)

/-- 'conciergelaw20.OrderTotal': WHATEVER THE INPUT: true; the input reads as it did. -/
def orderTotalSpec : ChangeSpec := { name := "orderTotal", fn := fun _ => fun
  | [d1, d2] => { results := [.lit (.bool true)], args := [d1, d2] }
  | _ => none }
def orderTotalRow : OpenClaim := { program := "ytlfhahnceeoegaa", sum := "fc722576dc6601039bfc0e03b062d2ec22038caecfb77fc91b55bacc81a18ba4", func := "concierge/conciergelaw20.OrderTotal", spec := "orderTotal", unfollowed := true, recurses := true, apart := false }
def OrderTotalSaid : Prop := orderTotalRow.holds Try.pinned (OpenSpec.ofChange orderTotalSpec)

/-- ITS FALSE NEIGHBOUR: 'it returns false'. Refute it at one input. -/
def orderTotalWrong : ChangeSpec := { name := "orderTotal", fn := fun _ => fun
  | [d1, d2] => { results := [.lit (.bool false)], args := [d1, d2] }
  | _ => none }
def OrderTotalWrongFalsely : Prop := orderTotalRow.holds Try.pinned (OpenSpec.ofChange orderTotalWrong)

/- THE SECOND FORM. 'bulk': how many values and letters a reading holds, each counted each time it is reached (what is shared counts as often as it is met; a slice's spare places count too). A statement '..UptoSaid' is the law's where the arguments, and the package variables that the reading takes, are together of bulk at most 1048576: NARROWER than '..Said'. Prove '..Said' where nothing that the law and all that it calls make is longer than what came in: it says more and counts as full. Else prove '..UptoSaid'. A law counts once. -/
mutual
def uptoBulk {H : Type} : DataW H → Nat
  | .lit (.string bytes) => bytes.length + 1
  | .lit _ => 1
  | .nil => 1
  | .ptr d => uptoBulk d + 1
  | .slice elems spare => uptoBulkAll elems + uptoBulkAll spare + 1
  | .agg parts => uptoBulkAll parts + 1
  | .iface _ d => uptoBulk d + 1
  | .map entries => uptoBulkEntries entries + 1
  | .held _ => 1
def uptoBulkAll {H : Type} : List (DataW H) → Nat
  | [] => 0
  | d :: r => uptoBulk d + uptoBulkAll r
def uptoBulkEntries {H : Type} : List (Lit × DataW H) → Nat
  | [] => 0
  | x :: r => uptoBulkEntry x + uptoBulkEntries r
def uptoBulkEntry {H : Type} : Lit × DataW H → Nat
  | (.string bytes, d) => bytes.length + uptoBulk d + 1
  | (_, d) => uptoBulk d + 1
 end
def uptoSmall : (H : Type) → List (DataW H) → Bool := fun _ ds => decide (uptoBulkAll ds ≤ 1048576)
def OpenSpec.upto (s : _root_.Go.ChangeSpec) : _root_.Go.OpenSpec := { _root_.Go.OpenSpec.ofChange s with cond := some uptoSmall }

/-- 'conciergelaw20.OrderSort', WHERE WHAT IT READS IS OF BULK AT MOST 1048576: true; the input reads as it did. -/
def orderSortUptoRow : OpenClaim := { program := "ytlfhahnceeoegaa", sum := "fc722576dc6601039bfc0e03b062d2ec22038caecfb77fc91b55bacc81a18ba4", func := "concierge/conciergelaw20.OrderSort", spec := "orderSort", unfollowed := true, recurses := true, apart := false, narrowed := true }
def OrderSortUptoSaid : Prop := orderSortUptoRow.holds Try.pinned (OpenSpec.upto orderSortSpec)

/-- 'conciergelaw20.OrderAddrs', WHERE WHAT IT READS IS OF BULK AT MOST 1048576: true; the input reads as it did. -/
def orderAddrsUptoRow : OpenClaim := { program := "ytlfhahnceeoegaa", sum := "fc722576dc6601039bfc0e03b062d2ec22038caecfb77fc91b55bacc81a18ba4", func := "concierge/conciergelaw20.OrderAddrs", spec := "orderAddrs", unfollowed := true, recurses := true, apart := false, narrowed := true }
def OrderAddrsUptoSaid : Prop := orderAddrsUptoRow.holds Try.pinned (OpenSpec.upto orderAddrsSpec)

/-- 'conciergelaw20.OrderTwice', WHERE WHAT IT READS IS OF BULK AT MOST 1048576: true; the input reads as it did. -/
def orderTwiceUptoRow : OpenClaim := { program := "ytlfhahnceeoegaa", sum := "fc722576dc6601039bfc0e03b062d2ec22038caecfb77fc91b55bacc81a18ba4", func := "concierge/conciergelaw20.OrderTwice", spec := "orderTwice", unfollowed := true, recurses := true, apart := false, narrowed := true }
def OrderTwiceUptoSaid : Prop := orderTwiceUptoRow.holds Try.pinned (OpenSpec.upto orderTwiceSpec)

/-- 'conciergelaw20.OrderTotal', WHERE WHAT IT READS IS OF BULK AT MOST 1048576: true; the input reads as it did. -/
def orderTotalUptoRow : OpenClaim := { program := "ytlfhahnceeoegaa", sum := "fc722576dc6601039bfc0e03b062d2ec22038caecfb77fc91b55bacc81a18ba4", func := "concierge/conciergelaw20.OrderTotal", spec := "orderTotal", unfollowed := true, recurses := true, apart := false, narrowed := true }
def OrderTotalUptoSaid : Prop := orderTotalUptoRow.holds Try.pinned (OpenSpec.upto orderTotalSpec)

end Rows
end Go.Proofs.Ytlfhahnceeoegaa
