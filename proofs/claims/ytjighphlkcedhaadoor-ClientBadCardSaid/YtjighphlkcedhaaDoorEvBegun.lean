/- conciergelaw26.begun answers true: its run, by the kernel. -/
import Derived.Test.YtjighphlkcedhaaDoorEv21
import Derived.Test.YtjighphlkcedhaaDoorRows
import Derived.KernelRfl
namespace Go.Proofs.YtjighphlkcedhaaDoor.evBegun
open Go.YtjighphlkcedhaaDoorEv
set_option maxRecDepth 100000
def isTrue : Res → Bool
  | .done (.bool true) _ => true
  | _ => false
theorem isTrue_done {r : Res} (h : isTrue r = true) : ∃ σ, r = .done (.bool true) σ := by
  unfold isTrue at h
  split at h
  · exact ⟨_, rfl⟩
  · cases h
theorem runs : isTrue (runQ Tryd.prog Orc.none 1000000 (.call 4 []) ⟨.nil, []⟩ ⟨Tryd.prog.globals.size, .nil, none⟩) = true := by kernel_rfl
variable [Lane]
theorem ok : OrcOk Tryd.prog (orcTrue 4) := by
  obtain ⟨σ, hσ⟩ := isTrue_done runs
  exact orcTrue_run (by kernel_rfl) (OrcOk.none _) hσ
end Go.Proofs.YtjighphlkcedhaaDoor.evBegun
