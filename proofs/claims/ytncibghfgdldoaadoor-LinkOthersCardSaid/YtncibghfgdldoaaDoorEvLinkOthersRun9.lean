/- LinkOthers: the evaluator's answers, by the kernel. -/
import Derived.Test.YtncibghfgdldoaaDoorEvLinkOthersRun
import Derived.KernelRfl
namespace Go.Proofs.YtncibghfgdldoaaDoor.linkOthers
open Go.YtncibghfgdldoaaDoorEv
set_option maxRecDepth 100000
theorem g135 (W : World) : tsts W [[.int .i64 (.ofNat 33), .int .i64 (.ofNat 3)]] = true := by kernel_rfl
theorem g135_0 (W : World) : tst W [.int .i64 (.ofNat 33), .int .i64 (.ofNat 3)] = true := (tsts_cons (g135 W)).1
theorem g136 (W : World) : tsts W [[.int .i64 (.ofNat 34), .int .i64 (.ofNat 0)]] = true := by kernel_rfl
theorem g136_0 (W : World) : tst W [.int .i64 (.ofNat 34), .int .i64 (.ofNat 0)] = true := (tsts_cons (g136 W)).1
theorem g137 (W : World) : tsts W [[.int .i64 (.ofNat 34), .int .i64 (.ofNat 1)]] = true := by kernel_rfl
theorem g137_0 (W : World) : tst W [.int .i64 (.ofNat 34), .int .i64 (.ofNat 1)] = true := (tsts_cons (g137 W)).1
theorem g138 (W : World) : tsts W [[.int .i64 (.ofNat 34), .int .i64 (.ofNat 2)]] = true := by kernel_rfl
theorem g138_0 (W : World) : tst W [.int .i64 (.ofNat 34), .int .i64 (.ofNat 2)] = true := (tsts_cons (g138 W)).1
theorem g139 (W : World) : tsts W [[.int .i64 (.ofNat 34), .int .i64 (.ofNat 3)]] = true := by kernel_rfl
theorem g139_0 (W : World) : tst W [.int .i64 (.ofNat 34), .int .i64 (.ofNat 3)] = true := (tsts_cons (g139 W)).1
theorem g140 (W : World) : tsts W [[.int .i64 (.ofNat 35), .int .i64 (.ofNat 0)]] = true := by kernel_rfl
theorem g140_0 (W : World) : tst W [.int .i64 (.ofNat 35), .int .i64 (.ofNat 0)] = true := (tsts_cons (g140 W)).1
theorem g141 (W : World) : tsts W [[.int .i64 (.ofNat 35), .int .i64 (.ofNat 1)]] = true := by kernel_rfl
theorem g141_0 (W : World) : tst W [.int .i64 (.ofNat 35), .int .i64 (.ofNat 1)] = true := (tsts_cons (g141 W)).1
theorem g142 (W : World) : tsts W [[.int .i64 (.ofNat 35), .int .i64 (.ofNat 2)]] = true := by kernel_rfl
theorem g142_0 (W : World) : tst W [.int .i64 (.ofNat 35), .int .i64 (.ofNat 2)] = true := (tsts_cons (g142 W)).1
theorem g143 (W : World) : tsts W [[.int .i64 (.ofNat 35), .int .i64 (.ofNat 3)]] = true := by kernel_rfl
theorem g143_0 (W : World) : tst W [.int .i64 (.ofNat 35), .int .i64 (.ofNat 3)] = true := (tsts_cons (g143 W)).1
theorem g144 (W : World) : tsts W [[.int .i64 (.ofNat 36), .int .i64 (.ofNat 0)]] = true := by kernel_rfl
theorem g144_0 (W : World) : tst W [.int .i64 (.ofNat 36), .int .i64 (.ofNat 0)] = true := (tsts_cons (g144 W)).1
theorem g145 (W : World) : tsts W [[.int .i64 (.ofNat 36), .int .i64 (.ofNat 1)]] = true := by kernel_rfl
theorem g145_0 (W : World) : tst W [.int .i64 (.ofNat 36), .int .i64 (.ofNat 1)] = true := (tsts_cons (g145 W)).1
theorem g146 (W : World) : tsts W [[.int .i64 (.ofNat 36), .int .i64 (.ofNat 2)]] = true := by kernel_rfl
theorem g146_0 (W : World) : tst W [.int .i64 (.ofNat 36), .int .i64 (.ofNat 2)] = true := (tsts_cons (g146 W)).1
theorem g147 (W : World) : tsts W [[.int .i64 (.ofNat 36), .int .i64 (.ofNat 3)]] = true := by kernel_rfl
theorem g147_0 (W : World) : tst W [.int .i64 (.ofNat 36), .int .i64 (.ofNat 3)] = true := (tsts_cons (g147 W)).1
theorem g148 (W : World) : tsts W [[.int .i64 (.ofNat 37), .int .i64 (.ofNat 0)]] = true := by kernel_rfl
theorem g148_0 (W : World) : tst W [.int .i64 (.ofNat 37), .int .i64 (.ofNat 0)] = true := (tsts_cons (g148 W)).1
theorem g149 (W : World) : tsts W [[.int .i64 (.ofNat 37), .int .i64 (.ofNat 1)]] = true := by kernel_rfl
theorem g149_0 (W : World) : tst W [.int .i64 (.ofNat 37), .int .i64 (.ofNat 1)] = true := (tsts_cons (g149 W)).1
end Go.Proofs.YtncibghfgdldoaaDoor.linkOthers
