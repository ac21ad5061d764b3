/- conciergelaw25.begun answers true: its run, by the kernel. -/
import Derived.Test.YtalicejiohfmfaaGreatDoorEv21
import Derived.Test.YtalicejiohfmfaaGreatDoorRows
import Derived.KernelRfl
namespace Go.Proofs.YtalicejiohfmfaaGreatDoor.evBegun
open Go.YtalicejiohfmfaaGreatDoorEv
set_option maxRecDepth 100000
def isTrue : Res → Bool
  | .done (.bool true) _ => true
  | _ => false
theorem isTrue_done {r : Res} (h : isTrue r = true) : ∃ σ, r = .done (.bool true) σ := by
  unfold isTrue at h
  split at h
  · exact ⟨_, rfl⟩
  · cases h
theorem runs : isTrue (runQ Tryz.prog Orc.none 1000000 (.call 4 []) ⟨.nil, []⟩ ⟨Tryz.prog.globals.size, .nil, none⟩) = true := by kernel_rfl
variable [Lane]
theorem ok : OrcOk Tryz.prog (orcTrue 4) := by
  obtain ⟨σ, hσ⟩ := isTrue_done runs
  exact orcTrue_run (by kernel_rfl) (OrcOk.none _) hσ
end Go.Proofs.YtalicejiohfmfaaGreatDoor.evBegun
