/- LinkEnds: the evaluator's answers, by the kernel. -/
import Derived.Test.YtofmpjkdfgofaaaDoorEvLinkEndsRun
import Derived.KernelRfl
namespace Go.Proofs.YtofmpjkdfgofaaaDoor.linkEnds
open Go.YtofmpjkdfgofaaaDoorEv
set_option maxRecDepth 100000
theorem g0 : tsts [[.int .i64 (.ofNat 0)], [.int .i64 (.ofNat 1)], [.int .i64 (.ofNat 2)], [.int .i64 (.ofNat 3)]] = true := by kernel_rfl
theorem g0_0 : tst [.int .i64 (.ofNat 0)] = true := (tsts_cons g0).1
theorem g0_1 : tst [.int .i64 (.ofNat 1)] = true := (tsts_cons (tsts_cons g0).2).1
theorem g0_2 : tst [.int .i64 (.ofNat 2)] = true := (tsts_cons (tsts_cons (tsts_cons g0).2).2).1
theorem g0_3 : tst [.int .i64 (.ofNat 3)] = true := (tsts_cons (tsts_cons (tsts_cons (tsts_cons g0).2).2).2).1
theorem g1 : tsts [[.int .i64 (.ofNat 4)], [.int .i64 (.ofNat 5)], [.int .i64 (.ofNat 6)], [.int .i64 (.ofNat 7)]] = true := by kernel_rfl
theorem g1_0 : tst [.int .i64 (.ofNat 4)] = true := (tsts_cons g1).1
theorem g1_1 : tst [.int .i64 (.ofNat 5)] = true := (tsts_cons (tsts_cons g1).2).1
theorem g1_2 : tst [.int .i64 (.ofNat 6)] = true := (tsts_cons (tsts_cons (tsts_cons g1).2).2).1
theorem g1_3 : tst [.int .i64 (.ofNat 7)] = true := (tsts_cons (tsts_cons (tsts_cons (tsts_cons g1).2).2).2).1
theorem g2 : tsts [[.int .i64 (.ofNat 8)], [.int .i64 (.ofNat 9)], [.int .i64 (.ofNat 10)]] = true := by kernel_rfl
theorem g2_0 : tst [.int .i64 (.ofNat 8)] = true := (tsts_cons g2).1
theorem g2_1 : tst [.int .i64 (.ofNat 9)] = true := (tsts_cons (tsts_cons g2).2).1
theorem g2_2 : tst [.int .i64 (.ofNat 10)] = true := (tsts_cons (tsts_cons (tsts_cons g2).2).2).1
end Go.Proofs.YtofmpjkdfgofaaaDoor.linkEnds
