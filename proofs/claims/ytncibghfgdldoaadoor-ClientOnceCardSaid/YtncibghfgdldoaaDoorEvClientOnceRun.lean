/- ClientOnce: the evaluator's run. -/
import Derived.Test.YtncibghfgdldoaaDoorEvClientOnceTree
import Derived.Test.YtncibghfgdldoaaDoorEv20
import Derived.Test.YtncibghfgdldoaaDoorRows
import Derived.KernelRfl
namespace Go.Proofs.YtncibghfgdldoaaDoor.clientOnce
open Go.YtncibghfgdldoaaDoorEv
set_option maxRecDepth 100000
def isTrue : Res → Bool
  | .done (.bool true) _ => true
  | _ => false
theorem isTrue_done {r : Res} (h : isTrue r = true) : ∃ σ, r = .done (.bool true) σ := by
  unfold isTrue at h
  split at h
  · exact ⟨_, rfl⟩
  · cases h
noncomputable def tst (ar : List SV) : Bool := isTrue (runQ Tryd.prog ((orcTree tr_).or Orc.none) 1000000 (.call 3 ar) ⟨.nil, []⟩ ⟨Tryd.prog.globals.size, .nil, none⟩)
noncomputable def tsts : List (List SV) → Bool
  | [] => true
  | a :: l => tst a && tsts l
theorem tsts_cons {a : List SV} {l : List (List SV)} (h : tsts (a :: l) = true) : tst a = true ∧ tsts l = true := by
  unfold tsts at h
  exact Bool.and_eq_true_iff.1 h
end Go.Proofs.YtncibghfgdldoaaDoor.clientOnce
