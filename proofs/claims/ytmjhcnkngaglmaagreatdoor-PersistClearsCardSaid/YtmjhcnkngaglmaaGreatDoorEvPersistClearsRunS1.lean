/- PersistClears: the evaluator's answers, by the kernel. -/
import Derived.Test.YtmjhcnkngaglmaaGreatDoorEvPersistClearsRun
import Derived.KernelRfl
namespace Go.Proofs.YtmjhcnkngaglmaaGreatDoor.persistClears
open Go.YtmjhcnkngaglmaaGreatDoorEv
set_option maxRecDepth 100000
theorem s26 (m1 : Nat) (a2 : Bool) : tst [.int .i64 (.ofNat 12), .int .i64 (.ofNat (m1 + 5)), .bool a2] = true := by kernel_rfl
theorem s27 (m0 : Nat) (a1 : Int) (a2 : Bool) : tst [.int .i64 (.ofNat (m0 + 13)), .int .i64 a1, .bool a2] = true := by kernel_rfl
end Go.Proofs.YtmjhcnkngaglmaaGreatDoor.persistClears
