/- LinkOthers: the evaluator's answers, by the kernel. -/
import Derived.Test.YtncibghfgdldoaaDoorEvLinkOthersRun
import Derived.KernelRfl
namespace Go.Proofs.YtncibghfgdldoaaDoor.linkOthers
open Go.YtncibghfgdldoaaDoorEv
set_option maxRecDepth 100000
theorem g15 (W : World) : tsts W [[.int .i64 (.ofNat 3), .int .i64 (.ofNat 3)]] = true := by kernel_rfl
theorem g15_0 (W : World) : tst W [.int .i64 (.ofNat 3), .int .i64 (.ofNat 3)] = true := (tsts_cons (g15 W)).1
theorem g16 (W : World) : tsts W [[.int .i64 (.ofNat 4), .int .i64 (.ofNat 0)]] = true := by kernel_rfl
theorem g16_0 (W : World) : tst W [.int .i64 (.ofNat 4), .int .i64 (.ofNat 0)] = true := (tsts_cons (g16 W)).1
theorem g17 (W : World) : tsts W [[.int .i64 (.ofNat 4), .int .i64 (.ofNat 1)]] = true := by kernel_rfl
theorem g17_0 (W : World) : tst W [.int .i64 (.ofNat 4), .int .i64 (.ofNat 1)] = true := (tsts_cons (g17 W)).1
theorem g18 (W : World) : tsts W [[.int .i64 (.ofNat 4), .int .i64 (.ofNat 2)]] = true := by kernel_rfl
theorem g18_0 (W : World) : tst W [.int .i64 (.ofNat 4), .int .i64 (.ofNat 2)] = true := (tsts_cons (g18 W)).1
theorem g19 (W : World) : tsts W [[.int .i64 (.ofNat 4), .int .i64 (.ofNat 3)]] = true := by kernel_rfl
theorem g19_0 (W : World) : tst W [.int .i64 (.ofNat 4), .int .i64 (.ofNat 3)] = true := (tsts_cons (g19 W)).1
theorem g20 (W : World) : tsts W [[.int .i64 (.ofNat 5), .int .i64 (.ofNat 0)]] = true := by kernel_rfl
theorem g20_0 (W : World) : tst W [.int .i64 (.ofNat 5), .int .i64 (.ofNat 0)] = true := (tsts_cons (g20 W)).1
theorem g21 (W : World) : tsts W [[.int .i64 (.ofNat 5), .int .i64 (.ofNat 1)]] = true := by kernel_rfl
theorem g21_0 (W : World) : tst W [.int .i64 (.ofNat 5), .int .i64 (.ofNat 1)] = true := (tsts_cons (g21 W)).1
theorem g22 (W : World) : tsts W [[.int .i64 (.ofNat 5), .int .i64 (.ofNat 2)]] = true := by kernel_rfl
theorem g22_0 (W : World) : tst W [.int .i64 (.ofNat 5), .int .i64 (.ofNat 2)] = true := (tsts_cons (g22 W)).1
theorem g23 (W : World) : tsts W [[.int .i64 (.ofNat 5), .int .i64 (.ofNat 3)]] = true := by kernel_rfl
theorem g23_0 (W : World) : tst W [.int .i64 (.ofNat 5), .int .i64 (.ofNat 3)] = true := (tsts_cons (g23 W)).1
theorem g24 (W : World) : tsts W [[.int .i64 (.ofNat 6), .int .i64 (.ofNat 0)]] = true := by kernel_rfl
theorem g24_0 (W : World) : tst W [.int .i64 (.ofNat 6), .int .i64 (.ofNat 0)] = true := (tsts_cons (g24 W)).1
theorem g25 (W : World) : tsts W [[.int .i64 (.ofNat 6), .int .i64 (.ofNat 1)]] = true := by kernel_rfl
theorem g25_0 (W : World) : tst W [.int .i64 (.ofNat 6), .int .i64 (.ofNat 1)] = true := (tsts_cons (g25 W)).1
theorem g26 (W : World) : tsts W [[.int .i64 (.ofNat 6), .int .i64 (.ofNat 2)]] = true := by kernel_rfl
theorem g26_0 (W : World) : tst W [.int .i64 (.ofNat 6), .int .i64 (.ofNat 2)] = true := (tsts_cons (g26 W)).1
theorem g27 (W : World) : tsts W [[.int .i64 (.ofNat 6), .int .i64 (.ofNat 3)]] = true := by kernel_rfl
theorem g27_0 (W : World) : tst W [.int .i64 (.ofNat 6), .int .i64 (.ofNat 3)] = true := (tsts_cons (g27 W)).1
theorem g28 (W : World) : tsts W [[.int .i64 (.ofNat 7), .int .i64 (.ofNat 0)]] = true := by kernel_rfl
theorem g28_0 (W : World) : tst W [.int .i64 (.ofNat 7), .int .i64 (.ofNat 0)] = true := (tsts_cons (g28 W)).1
theorem g29 (W : World) : tsts W [[.int .i64 (.ofNat 7), .int .i64 (.ofNat 1)]] = true := by kernel_rfl
theorem g29_0 (W : World) : tst W [.int .i64 (.ofNat 7), .int .i64 (.ofNat 1)] = true := (tsts_cons (g29 W)).1
end Go.Proofs.YtncibghfgdldoaaDoor.linkOthers
