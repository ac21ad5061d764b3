/- TopSearch: the evaluator's answers, by the kernel. -/
import Derived.Test.YtphahhnenmipeaaGreatDoorEvTopSearchRun
import Derived.KernelRfl
namespace Go.Proofs.YtphahhnenmipeaaGreatDoor.topSearch
open Go.YtphahhnenmipeaaGreatDoorEv
set_option maxRecDepth 100000
theorem s0 (W : World) (a0 : Int) (h0 : ((a0.tmod (.ofNat 3)).natAbs : Int) = .ofNat 0) : tst W [.res a0 (.ofNat 3) (.ofNat 0) h0] = true := by kernel_rfl
theorem s1 (W : World) (a0 : Int) (h0 : ((a0.tmod (.ofNat 3)).natAbs : Int) = .ofNat 1) : tst W [.res a0 (.ofNat 3) (.ofNat 1) h0] = true := by kernel_rfl
end Go.Proofs.YtphahhnenmipeaaGreatDoor.topSearch
