/- TopRotate: the evaluator's answers, by the kernel. -/
import Derived.Test.YtphahhnenmipeaaGreatDoorEvTopRotateRun
import Derived.KernelRfl
namespace Go.Proofs.YtphahhnenmipeaaGreatDoor.topRotate
open Go.YtphahhnenmipeaaGreatDoorEv
set_option maxRecDepth 100000
theorem s6 (W : World) (a1 : Int) (h1 : ((a1.tmod (.ofNat 5)).natAbs : Int) = .ofNat 1) : tst W [.bool false, .res a1 (.ofNat 5) (.ofNat 1) h1] = true := by kernel_rfl
theorem s7 (W : World) (a1 : Int) (h1 : ((a1.tmod (.ofNat 5)).natAbs : Int) = .ofNat 2) : tst W [.bool false, .res a1 (.ofNat 5) (.ofNat 2) h1] = true := by kernel_rfl
end Go.Proofs.YtphahhnenmipeaaGreatDoor.topRotate
