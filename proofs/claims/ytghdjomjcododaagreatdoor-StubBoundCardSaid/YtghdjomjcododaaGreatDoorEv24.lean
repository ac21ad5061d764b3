/- An evaluator for the program's own code: many pieces, found by the memory's next number. (text 24) -/
import Derived.Test.YtghdjomjcododaaGreatDoorEv23
set_option linter.unusedVariables false
namespace Go.YtghdjomjcododaaGreatDoorEv
open Go Go.RowKit
set_option linter.unusedSectionVars false
variable [Lane]

/-- Oracles by a number. -/
inductive OT where
  | leaf
  | node (k : Nat) (os : List Orc) (l r : OT)
noncomputable def firstOf (os : List Orc) : Orc :=
  List.rec (motive := fun _ => Orc) Orc.none (fun o _ ih => o.or ih) os
noncomputable def OT.find (t : OT) : Nat → List Orc :=
  OT.rec (motive := fun _ => Nat → List Orc) (fun _ => []) (fun k os _ _ fl fr n => Bool.rec (motive := fun _ => List Orc) (Bool.rec (motive := fun _ => List Orc) (fr n) (fl n) (Nat.blt n k)) os (Nat.beq n k)) t
noncomputable def orcTree (t : OT) : Orc := fun σ f args => firstOf (t.find σ.next) σ f args
section
variable {P : Program}
def OksL (P : Program) : List Orc → Prop
  | [] => True
  | o :: l => OrcOk P o ∧ OksL P l
def OT.Oks (P : Program) : OT → Prop
  | .leaf => True
  | .node _ os l r => OksL P os ∧ OT.Oks P l ∧ OT.Oks P r
theorem firstOf_ok : ∀ {os : List Orc}, OksL P os → OrcOk P (firstOf os)
  | [], _ => OrcOk.none P
  | _ :: _, h => OrcOk.or h.1 (firstOf_ok h.2)
theorem OT.find_ok : ∀ {t : OT}, OT.Oks P t → ∀ n, OksL P (t.find n)
  | .leaf, _, _ => trivial
  | .node k os l r, h, n => by
    show OksL P (Bool.rec (motive := fun _ => List Orc) (Bool.rec (motive := fun _ => List Orc) (r.find n) (l.find n) (Nat.blt n k)) os (Nat.beq n k))
    cases Nat.beq n k with
    | true => exact h.1
    | false =>
      cases Nat.blt n k with
      | true => exact OT.find_ok h.2.1 n
      | false => exact OT.find_ok h.2.2 n
theorem orcTree_ok {t : OT} (h : OT.Oks P t) : OrcOk P (orcTree t) :=
  fun m σ w f args args' v σ' hw hl he => firstOf_ok (OT.find_ok h σ.next) m σ w f args args' v σ' hw hl he
end
end Go.YtghdjomjcododaaGreatDoorEv
