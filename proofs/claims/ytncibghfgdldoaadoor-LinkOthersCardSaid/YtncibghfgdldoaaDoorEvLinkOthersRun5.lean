/- LinkOthers: the evaluator's answers, by the kernel. -/
import Derived.Test.YtncibghfgdldoaaDoorEvLinkOthersRun
import Derived.KernelRfl
namespace Go.Proofs.YtncibghfgdldoaaDoor.linkOthers
open Go.YtncibghfgdldoaaDoorEv
set_option maxRecDepth 100000
theorem g75 (W : World) : tsts W [[.int .i64 (.ofNat 18), .int .i64 (.ofNat 3)]] = true := by kernel_rfl
theorem g75_0 (W : World) : tst W [.int .i64 (.ofNat 18), .int .i64 (.ofNat 3)] = true := (tsts_cons (g75 W)).1
theorem g76 (W : World) : tsts W [[.int .i64 (.ofNat 19), .int .i64 (.ofNat 0)]] = true := by kernel_rfl
theorem g76_0 (W : World) : tst W [.int .i64 (.ofNat 19), .int .i64 (.ofNat 0)] = true := (tsts_cons (g76 W)).1
theorem g77 (W : World) : tsts W [[.int .i64 (.ofNat 19), .int .i64 (.ofNat 1)]] = true := by kernel_rfl
theorem g77_0 (W : World) : tst W [.int .i64 (.ofNat 19), .int .i64 (.ofNat 1)] = true := (tsts_cons (g77 W)).1
theorem g78 (W : World) : tsts W [[.int .i64 (.ofNat 19), .int .i64 (.ofNat 2)]] = true := by kernel_rfl
theorem g78_0 (W : World) : tst W [.int .i64 (.ofNat 19), .int .i64 (.ofNat 2)] = true := (tsts_cons (g78 W)).1
theorem g79 (W : World) : tsts W [[.int .i64 (.ofNat 19), .int .i64 (.ofNat 3)]] = true := by kernel_rfl
theorem g79_0 (W : World) : tst W [.int .i64 (.ofNat 19), .int .i64 (.ofNat 3)] = true := (tsts_cons (g79 W)).1
theorem g80 (W : World) : tsts W [[.int .i64 (.ofNat 20), .int .i64 (.ofNat 0)]] = true := by kernel_rfl
theorem g80_0 (W : World) : tst W [.int .i64 (.ofNat 20), .int .i64 (.ofNat 0)] = true := (tsts_cons (g80 W)).1
theorem g81 (W : World) : tsts W [[.int .i64 (.ofNat 20), .int .i64 (.ofNat 1)]] = true := by kernel_rfl
theorem g81_0 (W : World) : tst W [.int .i64 (.ofNat 20), .int .i64 (.ofNat 1)] = true := (tsts_cons (g81 W)).1
theorem g82 (W : World) : tsts W [[.int .i64 (.ofNat 20), .int .i64 (.ofNat 2)]] = true := by kernel_rfl
theorem g82_0 (W : World) : tst W [.int .i64 (.ofNat 20), .int .i64 (.ofNat 2)] = true := (tsts_cons (g82 W)).1
theorem g83 (W : World) : tsts W [[.int .i64 (.ofNat 20), .int .i64 (.ofNat 3)]] = true := by kernel_rfl
theorem g83_0 (W : World) : tst W [.int .i64 (.ofNat 20), .int .i64 (.ofNat 3)] = true := (tsts_cons (g83 W)).1
theorem g84 (W : World) : tsts W [[.int .i64 (.ofNat 21), .int .i64 (.ofNat 0)]] = true := by kernel_rfl
theorem g84_0 (W : World) : tst W [.int .i64 (.ofNat 21), .int .i64 (.ofNat 0)] = true := (tsts_cons (g84 W)).1
theorem g85 (W : World) : tsts W [[.int .i64 (.ofNat 21), .int .i64 (.ofNat 1)]] = true := by kernel_rfl
theorem g85_0 (W : World) : tst W [.int .i64 (.ofNat 21), .int .i64 (.ofNat 1)] = true := (tsts_cons (g85 W)).1
theorem g86 (W : World) : tsts W [[.int .i64 (.ofNat 21), .int .i64 (.ofNat 2)]] = true := by kernel_rfl
theorem g86_0 (W : World) : tst W [.int .i64 (.ofNat 21), .int .i64 (.ofNat 2)] = true := (tsts_cons (g86 W)).1
theorem g87 (W : World) : tsts W [[.int .i64 (.ofNat 21), .int .i64 (.ofNat 3)]] = true := by kernel_rfl
theorem g87_0 (W : World) : tst W [.int .i64 (.ofNat 21), .int .i64 (.ofNat 3)] = true := (tsts_cons (g87 W)).1
theorem g88 (W : World) : tsts W [[.int .i64 (.ofNat 22), .int .i64 (.ofNat 0)]] = true := by kernel_rfl
theorem g88_0 (W : World) : tst W [.int .i64 (.ofNat 22), .int .i64 (.ofNat 0)] = true := (tsts_cons (g88 W)).1
theorem g89 (W : World) : tsts W [[.int .i64 (.ofNat 22), .int .i64 (.ofNat 1)]] = true := by kernel_rfl
theorem g89_0 (W : World) : tst W [.int .i64 (.ofNat 22), .int .i64 (.ofNat 1)] = true := (tsts_cons (g89 W)).1
end Go.Proofs.YtncibghfgdldoaaDoor.linkOthers
