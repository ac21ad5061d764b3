/- TopInvalidate: the evaluator's answers, by the kernel. -/
import Derived.Test.YtphahhnenmipeaaGreatDoorEvTopInvalidateRun
import Derived.KernelRfl
namespace Go.Proofs.YtphahhnenmipeaaGreatDoor.topInvalidate
open Go.YtphahhnenmipeaaGreatDoorEv
set_option maxRecDepth 100000
theorem s8 (W : World) (a0 : Int) (h0 : ((a0.tmod (.ofNat 5)).natAbs : Int) = .ofNat 4) : tst W [.res a0 (.ofNat 5) (.ofNat 4) h0, .bool true] = true := by kernel_rfl
theorem s9 (W : World) (a0 : Int) (h0 : ((a0.tmod (.ofNat 5)).natAbs : Int) = .ofNat 4) : tst W [.res a0 (.ofNat 5) (.ofNat 4) h0, .bool false] = true := by kernel_rfl
end Go.Proofs.YtphahhnenmipeaaGreatDoor.topInvalidate
