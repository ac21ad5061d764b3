/- ClientNone: the evaluator's answer, by the kernel. -/
import Derived.Test.YtkgkmmdlpnbloaaGreatDoorEv20
import Derived.Test.YtkgkmmdlpnbloaaGreatDoorRows
import Derived.KernelRfl
namespace Go.Proofs.YtkgkmmdlpnbloaaGreatDoor.clientNone
open Go.YtkgkmmdlpnbloaaGreatDoorEv
set_option maxRecDepth 100000
def isTrue : Res → Bool
  | .done (.bool true) _ => true
  | _ => false
theorem isTrue_done {r : Res} (h : isTrue r = true) : ∃ σ, r = .done (.bool true) σ := by
  unfold isTrue at h
  split at h
  · exact ⟨_, rfl⟩
  · cases h
theorem runs : isTrue (runQ Tryz.prog Orc.none 1000000 (.call 4 []) ⟨.nil, []⟩ ⟨Tryz.prog.globals.size, .nil, none⟩) = true := by kernel_rfl
end Go.Proofs.YtkgkmmdlpnbloaaGreatDoor.clientNone
