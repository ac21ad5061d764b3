/- ResolvLimits: the evaluator's answer, by the kernel. -/
import Derived.Test.YtlkjmeobpbpgbaaDoorEvOrc
import Derived.Test.YtlkjmeobpbpgbaaDoorRows
import Derived.KernelRfl
namespace Go.Proofs.YtlkjmeobpbpgbaaDoor.resolvLimits
open Go.YtlkjmeobpbpgbaaDoorEv
set_option maxRecDepth 100000
def isTrue : Res → Bool
  | .done (.bool true) _ => true
  | _ => false
theorem isTrue_done {r : Res} (h : isTrue r = true) : ∃ σ, r = .done (.bool true) σ := by
  unfold isTrue at h
  split at h
  · exact ⟨_, rfl⟩
  · cases h
theorem runs (W : World) : isTrue (runQ Tryd.prog evOrc.orc 1000000 (.call 4 []) ⟨.nil, []⟩ ⟨Tryd.prog.globals.size, .nil, some (W, [2, 3])⟩) = true := by kernel_rfl
end Go.Proofs.YtlkjmeobpbpgbaaDoor.resolvLimits
