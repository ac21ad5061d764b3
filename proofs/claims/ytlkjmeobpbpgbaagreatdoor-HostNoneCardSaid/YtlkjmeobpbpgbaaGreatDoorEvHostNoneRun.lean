/- HostNone: the evaluator's answer, by the kernel. -/
import Derived.Test.YtlkjmeobpbpgbaaGreatDoorEvOrc
import Derived.Test.YtlkjmeobpbpgbaaGreatDoorRows
import Derived.KernelRfl
namespace Go.Proofs.YtlkjmeobpbpgbaaGreatDoor.hostNone
open Go.YtlkjmeobpbpgbaaGreatDoorEv
set_option maxRecDepth 100000
def isTrue : Res → Bool
  | .done (.bool true) _ => true
  | _ => false
theorem isTrue_done {r : Res} (h : isTrue r = true) : ∃ σ, r = .done (.bool true) σ := by
  unfold isTrue at h
  split at h
  · exact ⟨_, rfl⟩
  · cases h
theorem runs (W : World) : isTrue (runQ Tryz.prog evOrc.orc 1000000 (.call 3 []) ⟨.nil, []⟩ ⟨Tryz.prog.globals.size, .nil, some (W, [1, 2])⟩) = true := by kernel_rfl
end Go.Proofs.YtlkjmeobpbpgbaaGreatDoor.hostNone
