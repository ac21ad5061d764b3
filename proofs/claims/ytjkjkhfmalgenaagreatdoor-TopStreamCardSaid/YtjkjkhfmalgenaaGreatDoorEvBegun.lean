/- conciergelaw27.begun answers true: its run, by the kernel. -/
import Derived.Test.YtjkjkhfmalgenaaGreatDoorEv21
import Derived.Test.YtjkjkhfmalgenaaGreatDoorRows
import Derived.KernelRfl
namespace Go.Proofs.YtjkjkhfmalgenaaGreatDoor.evBegun
open Go.YtjkjkhfmalgenaaGreatDoorEv
set_option maxRecDepth 100000
def isTrue : Res → Bool
  | .done (.bool true) _ => true
  | _ => false
theorem isTrue_done {r : Res} (h : isTrue r = true) : ∃ σ, r = .done (.bool true) σ := by
  unfold isTrue at h
  split at h
  · exact ⟨_, rfl⟩
  · cases h
theorem runs : isTrue (runQ Tryz.prog Orc.none 1000000 (.call 16 []) ⟨.nil, []⟩ ⟨Tryz.prog.globals.size, .nil, none⟩) = true := by kernel_rfl
variable [Lane]
theorem ok : OrcOk Tryz.prog (orcTrue 16) := by
  obtain ⟨σ, hσ⟩ := isTrue_done runs
  exact orcTrue_run (by kernel_rfl) (OrcOk.none _) hσ
end Go.Proofs.YtjkjkhfmalgenaaGreatDoor.evBegun
