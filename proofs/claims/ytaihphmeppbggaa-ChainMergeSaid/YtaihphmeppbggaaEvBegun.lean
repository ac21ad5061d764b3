/- conciergelaw13.begun answers true: its run, by the kernel. -/
import Derived.Test.YtaihphmeppbggaaEv21
import Derived.Test.YtaihphmeppbggaaRows
import Derived.KernelRfl
namespace Go.Proofs.Ytaihphmeppbggaa.evBegun
open Go.YtaihphmeppbggaaEv
set_option maxRecDepth 100000
def isTrue : Res → Bool
  | .done (.bool true) _ => true
  | _ => false
theorem isTrue_done {r : Res} (h : isTrue r = true) : ∃ σ, r = .done (.bool true) σ := by
  unfold isTrue at h
  split at h
  · exact ⟨_, rfl⟩
  · cases h
theorem runs : isTrue (runQ Try.prog Orc.none 1000000 (.call 5 []) ⟨.nil, []⟩ ⟨Try.prog.globals.size, .nil, none⟩) = true := by kernel_rfl
theorem ok : OrcOk Try.prog (orcTrue 5) := by
  obtain ⟨σ, hσ⟩ := isTrue_done runs
  exact orcTrue_run (by kernel_rfl) (OrcOk.none _) hσ
end Go.Proofs.Ytaihphmeppbggaa.evBegun
