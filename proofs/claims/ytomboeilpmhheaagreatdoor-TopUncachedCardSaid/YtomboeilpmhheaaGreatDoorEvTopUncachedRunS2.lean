/- TopUncached: the evaluator's answers, by the kernel. -/
import Derived.Test.YtomboeilpmhheaaGreatDoorEvTopUncachedRun
import Derived.KernelRfl
namespace Go.Proofs.YtomboeilpmhheaaGreatDoor.topUncached
open Go.YtomboeilpmhheaaGreatDoorEv
set_option maxRecDepth 100000
theorem s6 (a0 : Int) (h0 : ((a0.tmod (.ofNat 3)).natAbs : Int) = .ofNat 1) (a1 : Int) (h1 : ((a1.tmod (.ofNat 6)).natAbs : Int) = .ofNat 0) : tst [.res a0 (.ofNat 3) (.ofNat 1) h0, .res a1 (.ofNat 6) (.ofNat 0) h1] = true := by kernel_rfl
theorem s7 (a0 : Int) (h0 : ((a0.tmod (.ofNat 3)).natAbs : Int) = .ofNat 1) (a1 : Int) (h1 : ((a1.tmod (.ofNat 6)).natAbs : Int) = .ofNat 1) : tst [.res a0 (.ofNat 3) (.ofNat 1) h0, .res a1 (.ofNat 6) (.ofNat 1) h1] = true := by kernel_rfl
theorem s8 (a0 : Int) (h0 : ((a0.tmod (.ofNat 3)).natAbs : Int) = .ofNat 1) (a1 : Int) (h1 : ((a1.tmod (.ofNat 6)).natAbs : Int) = .ofNat 2) : tst [.res a0 (.ofNat 3) (.ofNat 1) h0, .res a1 (.ofNat 6) (.ofNat 2) h1] = true := by kernel_rfl
end Go.Proofs.YtomboeilpmhheaaGreatDoor.topUncached
