/- TopUncached: the evaluator's answers, by the kernel. -/
import Derived.Test.YtomboeilpmhheaaGreatDoorEvTopUncachedRun
import Derived.KernelRfl
namespace Go.Proofs.YtomboeilpmhheaaGreatDoor.topUncached
open Go.YtomboeilpmhheaaGreatDoorEv
set_option maxRecDepth 100000
theorem s3 (a0 : Int) (h0 : ((a0.tmod (.ofNat 3)).natAbs : Int) = .ofNat 0) (a1 : Int) (h1 : ((a1.tmod (.ofNat 6)).natAbs : Int) = .ofNat 3) : tst [.res a0 (.ofNat 3) (.ofNat 0) h0, .res a1 (.ofNat 6) (.ofNat 3) h1] = true := by kernel_rfl
theorem s4 (a0 : Int) (h0 : ((a0.tmod (.ofNat 3)).natAbs : Int) = .ofNat 0) (a1 : Int) (h1 : ((a1.tmod (.ofNat 6)).natAbs : Int) = .ofNat 4) : tst [.res a0 (.ofNat 3) (.ofNat 0) h0, .res a1 (.ofNat 6) (.ofNat 4) h1] = true := by kernel_rfl
theorem s5 (a0 : Int) (h0 : ((a0.tmod (.ofNat 3)).natAbs : Int) = .ofNat 0) (a1 : Int) (h1 : ((a1.tmod (.ofNat 6)).natAbs : Int) = .ofNat 5) : tst [.res a0 (.ofNat 3) (.ofNat 0) h0, .res a1 (.ofNat 6) (.ofNat 5) h1] = true := by kernel_rfl
end Go.Proofs.YtomboeilpmhheaaGreatDoor.topUncached
