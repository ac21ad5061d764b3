/- TopSearch: the evaluator's answers, by the kernel. -/
import Derived.Test.YtphahhnenmipeaaGreatDoorEvTopSearchRun
import Derived.KernelRfl
namespace Go.Proofs.YtphahhnenmipeaaGreatDoor.topSearch
open Go.YtphahhnenmipeaaGreatDoorEv
set_option maxRecDepth 100000
theorem s2 (W : World) (a0 : Int) (h0 : ((a0.tmod (.ofNat 3)).natAbs : Int) = .ofNat 2) : tst W [.res a0 (.ofNat 3) (.ofNat 2) h0] = true := by kernel_rfl
end Go.Proofs.YtphahhnenmipeaaGreatDoor.topSearch
