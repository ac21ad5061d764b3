/- PersistTimes: the evaluator's answers, by the kernel. -/
import Derived.Test.YtakckpjalmmemaaGreatDoorEvPersistTimesRun
import Derived.KernelRfl
namespace Go.Proofs.YtakckpjalmmemaaGreatDoor.persistTimes
open Go.YtakckpjalmmemaaGreatDoorEv
set_option maxRecDepth 100000
set_option linter.unusedVariables false
theorem o0 (n : Nat) (a1 a2 : Int) : tst [.int .i64 (.negSucc n), .int .i64 a1, .int .i64 a2] = true := by kernel_rfl
theorem o1 (a1 a2 : Int) : tst [.int .i64 (.ofNat 0), .int .i64 a1, .int .i64 a2] = true := by kernel_rfl
theorem o2 (n : Nat) (a1 a2 : Int) : tst [.int .i64 (.ofNat (n + 101)), .int .i64 a1, .int .i64 a2] = true := by kernel_rfl
theorem o3 (n : Nat) (a2 : Int) : tst [.rng [(.ofNat 1, .ofNat 100)], .int .i64 (.negSucc n), .int .i64 a2] = true := by kernel_rfl
theorem o4 (n : Nat) (a2 : Int) : tst [.rng [(.ofNat 1, .ofNat 100)], .int .i64 (.ofNat (n + 101)), .int .i64 a2] = true := by kernel_rfl
theorem o5 (n : Nat) : tst [.rng [(.ofNat 1, .ofNat 100)], .rng [(.ofNat 0, .ofNat 100)], .int .i64 (.negSucc n)] = true := by kernel_rfl
theorem o6 (n : Nat) : tst [.rng [(.ofNat 1, .ofNat 100)], .rng [(.ofNat 0, .ofNat 100)], .int .i64 (.ofNat (n + 101))] = true := by kernel_rfl
end Go.Proofs.YtakckpjalmmemaaGreatDoor.persistTimes
