/- ChainNone: the evaluator's answer, by the kernel. -/
import Derived.Test.YtofmpjkdfgofaaaEv20
import Derived.Test.YtofmpjkdfgofaaaRows
import Derived.KernelRfl
namespace Go.Proofs.Ytofmpjkdfgofaaa.chainNone
open Go.YtofmpjkdfgofaaaEv
set_option maxRecDepth 100000
def isTrue : Res → Bool
  | .done (.bool true) _ => true
  | _ => false
theorem isTrue_done {r : Res} (h : isTrue r = true) : ∃ σ, r = .done (.bool true) σ := by
  unfold isTrue at h
  split at h
  · exact ⟨_, rfl⟩
  · cases h
theorem runs : isTrue (runQ Try.prog Orc.none 1000000 (.call 3 []) ⟨.nil, []⟩ ⟨Try.prog.globals.size, .nil, none⟩) = true := by kernel_rfl
end Go.Proofs.Ytofmpjkdfgofaaa.chainNone
