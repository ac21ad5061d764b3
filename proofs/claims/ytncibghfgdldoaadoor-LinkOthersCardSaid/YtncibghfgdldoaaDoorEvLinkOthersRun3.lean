/- LinkOthers: the evaluator's answers, by the kernel. -/
import Derived.Test.YtncibghfgdldoaaDoorEvLinkOthersRun
import Derived.KernelRfl
namespace Go.Proofs.YtncibghfgdldoaaDoor.linkOthers
open Go.YtncibghfgdldoaaDoorEv
set_option maxRecDepth 100000
theorem g45 (W : World) : tsts W [[.int .i64 (.ofNat 11), .int .i64 (.ofNat 1)]] = true := by kernel_rfl
theorem g45_0 (W : World) : tst W [.int .i64 (.ofNat 11), .int .i64 (.ofNat 1)] = true := (tsts_cons (g45 W)).1
theorem g46 (W : World) : tsts W [[.int .i64 (.ofNat 11), .int .i64 (.ofNat 2)]] = true := by kernel_rfl
theorem g46_0 (W : World) : tst W [.int .i64 (.ofNat 11), .int .i64 (.ofNat 2)] = true := (tsts_cons (g46 W)).1
theorem g47 (W : World) : tsts W [[.int .i64 (.ofNat 11), .int .i64 (.ofNat 3)]] = true := by kernel_rfl
theorem g47_0 (W : World) : tst W [.int .i64 (.ofNat 11), .int .i64 (.ofNat 3)] = true := (tsts_cons (g47 W)).1
theorem g48 (W : World) : tsts W [[.int .i64 (.ofNat 12), .int .i64 (.ofNat 0)]] = true := by kernel_rfl
theorem g48_0 (W : World) : tst W [.int .i64 (.ofNat 12), .int .i64 (.ofNat 0)] = true := (tsts_cons (g48 W)).1
theorem g49 (W : World) : tsts W [[.int .i64 (.ofNat 12), .int .i64 (.ofNat 1)]] = true := by kernel_rfl
theorem g49_0 (W : World) : tst W [.int .i64 (.ofNat 12), .int .i64 (.ofNat 1)] = true := (tsts_cons (g49 W)).1
theorem g50 (W : World) : tsts W [[.int .i64 (.ofNat 12), .int .i64 (.ofNat 2)]] = true := by kernel_rfl
theorem g50_0 (W : World) : tst W [.int .i64 (.ofNat 12), .int .i64 (.ofNat 2)] = true := (tsts_cons (g50 W)).1
theorem g51 (W : World) : tsts W [[.int .i64 (.ofNat 12), .int .i64 (.ofNat 3)]] = true := by kernel_rfl
theorem g51_0 (W : World) : tst W [.int .i64 (.ofNat 12), .int .i64 (.ofNat 3)] = true := (tsts_cons (g51 W)).1
theorem g52 (W : World) : tsts W [[.int .i64 (.ofNat 13), .int .i64 (.ofNat 0)]] = true := by kernel_rfl
theorem g52_0 (W : World) : tst W [.int .i64 (.ofNat 13), .int .i64 (.ofNat 0)] = true := (tsts_cons (g52 W)).1
theorem g53 (W : World) : tsts W [[.int .i64 (.ofNat 13), .int .i64 (.ofNat 1)]] = true := by kernel_rfl
theorem g53_0 (W : World) : tst W [.int .i64 (.ofNat 13), .int .i64 (.ofNat 1)] = true := (tsts_cons (g53 W)).1
theorem g54 (W : World) : tsts W [[.int .i64 (.ofNat 13), .int .i64 (.ofNat 2)]] = true := by kernel_rfl
theorem g54_0 (W : World) : tst W [.int .i64 (.ofNat 13), .int .i64 (.ofNat 2)] = true := (tsts_cons (g54 W)).1
theorem g55 (W : World) : tsts W [[.int .i64 (.ofNat 13), .int .i64 (.ofNat 3)]] = true := by kernel_rfl
theorem g55_0 (W : World) : tst W [.int .i64 (.ofNat 13), .int .i64 (.ofNat 3)] = true := (tsts_cons (g55 W)).1
theorem g56 (W : World) : tsts W [[.int .i64 (.ofNat 14), .int .i64 (.ofNat 0)]] = true := by kernel_rfl
theorem g56_0 (W : World) : tst W [.int .i64 (.ofNat 14), .int .i64 (.ofNat 0)] = true := (tsts_cons (g56 W)).1
theorem g57 (W : World) : tsts W [[.int .i64 (.ofNat 14), .int .i64 (.ofNat 1)]] = true := by kernel_rfl
theorem g57_0 (W : World) : tst W [.int .i64 (.ofNat 14), .int .i64 (.ofNat 1)] = true := (tsts_cons (g57 W)).1
theorem g58 (W : World) : tsts W [[.int .i64 (.ofNat 14), .int .i64 (.ofNat 2)]] = true := by kernel_rfl
theorem g58_0 (W : World) : tst W [.int .i64 (.ofNat 14), .int .i64 (.ofNat 2)] = true := (tsts_cons (g58 W)).1
theorem g59 (W : World) : tsts W [[.int .i64 (.ofNat 14), .int .i64 (.ofNat 3)]] = true := by kernel_rfl
theorem g59_0 (W : World) : tst W [.int .i64 (.ofNat 14), .int .i64 (.ofNat 3)] = true := (tsts_cons (g59 W)).1
end Go.Proofs.YtncibghfgdldoaaDoor.linkOthers
