/- LinkOthers: the evaluator's answers, by the kernel. -/
import Derived.Test.YtncibghfgdldoaaDoorEvLinkOthersRun
import Derived.KernelRfl
namespace Go.Proofs.YtncibghfgdldoaaDoor.linkOthers
open Go.YtncibghfgdldoaaDoorEv
set_option maxRecDepth 100000
theorem g30 (W : World) : tsts W [[.int .i64 (.ofNat 7), .int .i64 (.ofNat 2)]] = true := by kernel_rfl
theorem g30_0 (W : World) : tst W [.int .i64 (.ofNat 7), .int .i64 (.ofNat 2)] = true := (tsts_cons (g30 W)).1
theorem g31 (W : World) : tsts W [[.int .i64 (.ofNat 7), .int .i64 (.ofNat 3)]] = true := by kernel_rfl
theorem g31_0 (W : World) : tst W [.int .i64 (.ofNat 7), .int .i64 (.ofNat 3)] = true := (tsts_cons (g31 W)).1
theorem g32 (W : World) : tsts W [[.int .i64 (.ofNat 8), .int .i64 (.ofNat 0)]] = true := by kernel_rfl
theorem g32_0 (W : World) : tst W [.int .i64 (.ofNat 8), .int .i64 (.ofNat 0)] = true := (tsts_cons (g32 W)).1
theorem g33 (W : World) : tsts W [[.int .i64 (.ofNat 8), .int .i64 (.ofNat 1)]] = true := by kernel_rfl
theorem g33_0 (W : World) : tst W [.int .i64 (.ofNat 8), .int .i64 (.ofNat 1)] = true := (tsts_cons (g33 W)).1
theorem g34 (W : World) : tsts W [[.int .i64 (.ofNat 8), .int .i64 (.ofNat 2)]] = true := by kernel_rfl
theorem g34_0 (W : World) : tst W [.int .i64 (.ofNat 8), .int .i64 (.ofNat 2)] = true := (tsts_cons (g34 W)).1
theorem g35 (W : World) : tsts W [[.int .i64 (.ofNat 8), .int .i64 (.ofNat 3)]] = true := by kernel_rfl
theorem g35_0 (W : World) : tst W [.int .i64 (.ofNat 8), .int .i64 (.ofNat 3)] = true := (tsts_cons (g35 W)).1
theorem g36 (W : World) : tsts W [[.int .i64 (.ofNat 9), .int .i64 (.ofNat 0)]] = true := by kernel_rfl
theorem g36_0 (W : World) : tst W [.int .i64 (.ofNat 9), .int .i64 (.ofNat 0)] = true := (tsts_cons (g36 W)).1
theorem g37 (W : World) : tsts W [[.int .i64 (.ofNat 9), .int .i64 (.ofNat 1)]] = true := by kernel_rfl
theorem g37_0 (W : World) : tst W [.int .i64 (.ofNat 9), .int .i64 (.ofNat 1)] = true := (tsts_cons (g37 W)).1
theorem g38 (W : World) : tsts W [[.int .i64 (.ofNat 9), .int .i64 (.ofNat 2)]] = true := by kernel_rfl
theorem g38_0 (W : World) : tst W [.int .i64 (.ofNat 9), .int .i64 (.ofNat 2)] = true := (tsts_cons (g38 W)).1
theorem g39 (W : World) : tsts W [[.int .i64 (.ofNat 9), .int .i64 (.ofNat 3)]] = true := by kernel_rfl
theorem g39_0 (W : World) : tst W [.int .i64 (.ofNat 9), .int .i64 (.ofNat 3)] = true := (tsts_cons (g39 W)).1
theorem g40 (W : World) : tsts W [[.int .i64 (.ofNat 10), .int .i64 (.ofNat 0)]] = true := by kernel_rfl
theorem g40_0 (W : World) : tst W [.int .i64 (.ofNat 10), .int .i64 (.ofNat 0)] = true := (tsts_cons (g40 W)).1
theorem g41 (W : World) : tsts W [[.int .i64 (.ofNat 10), .int .i64 (.ofNat 1)]] = true := by kernel_rfl
theorem g41_0 (W : World) : tst W [.int .i64 (.ofNat 10), .int .i64 (.ofNat 1)] = true := (tsts_cons (g41 W)).1
theorem g42 (W : World) : tsts W [[.int .i64 (.ofNat 10), .int .i64 (.ofNat 2)]] = true := by kernel_rfl
theorem g42_0 (W : World) : tst W [.int .i64 (.ofNat 10), .int .i64 (.ofNat 2)] = true := (tsts_cons (g42 W)).1
theorem g43 (W : World) : tsts W [[.int .i64 (.ofNat 10), .int .i64 (.ofNat 3)]] = true := by kernel_rfl
theorem g43_0 (W : World) : tst W [.int .i64 (.ofNat 10), .int .i64 (.ofNat 3)] = true := (tsts_cons (g43 W)).1
theorem g44 (W : World) : tsts W [[.int .i64 (.ofNat 11), .int .i64 (.ofNat 0)]] = true := by kernel_rfl
theorem g44_0 (W : World) : tst W [.int .i64 (.ofNat 11), .int .i64 (.ofNat 0)] = true := (tsts_cons (g44 W)).1
end Go.Proofs.YtncibghfgdldoaaDoor.linkOthers
