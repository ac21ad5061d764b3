/- PersistNone: the evaluator's run. -/
import Derived.Test.YtmjhcnkngaglmaaGreatDoorEv20
import Derived.Test.YtmjhcnkngaglmaaGreatDoorRows
import Derived.KernelRfl
namespace Go.Proofs.YtmjhcnkngaglmaaGreatDoor.persistNone
open Go.YtmjhcnkngaglmaaGreatDoorEv
set_option maxRecDepth 100000
def isTrue : Res → Bool
  | .done (.bool true) _ => true
  | _ => false
theorem isTrue_done {r : Res} (h : isTrue r = true) : ∃ σ, r = .done (.bool true) σ := by
  unfold isTrue at h
  split at h
  · exact ⟨_, rfl⟩
  · cases h
noncomputable def tst (ar : List SV) : Bool := isTrue (runQ Tryz.prog Orc.none 1000000 (.call 5 ar) ⟨.nil, []⟩ ⟨Tryz.prog.globals.size, .nil, none⟩)
noncomputable def tsts : List (List SV) → Bool
  | [] => true
  | a :: l => tst a && tsts l
theorem tsts_cons {a : List SV} {l : List (List SV)} (h : tsts (a :: l) = true) : tst a = true ∧ tsts l = true := by
  unfold tsts at h
  exact Bool.and_eq_true_iff.1 h
end Go.Proofs.YtmjhcnkngaglmaaGreatDoor.persistNone
