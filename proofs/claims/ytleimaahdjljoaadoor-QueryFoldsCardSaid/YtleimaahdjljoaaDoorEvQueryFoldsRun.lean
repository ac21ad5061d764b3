/- QueryFolds: the evaluator's answer, by the kernel. -/
import Derived.Test.YtleimaahdjljoaaDoorEv19
import Derived.Test.YtleimaahdjljoaaDoorRows
import Derived.KernelRfl
namespace Go.Proofs.YtleimaahdjljoaaDoor.queryFolds
open Go.YtleimaahdjljoaaDoorEv
set_option maxRecDepth 100000
def isTrue : Res → Bool
  | .done (.bool true) _ => true
  | _ => false
theorem isTrue_done {r : Res} (h : isTrue r = true) : ∃ σ, r = .done (.bool true) σ := by
  unfold isTrue at h
  split at h
  · exact ⟨_, rfl⟩
  · cases h
theorem runs : isTrue (run Tryd.prog 1000000 (.call 8 []) ⟨.nil, []⟩ ⟨Tryd.prog.globals.size, .nil⟩) = true := by kernel_rfl
end Go.Proofs.YtleimaahdjljoaaDoor.queryFolds
