/- LinkOthers: the evaluator's answers, by the kernel. -/
import Derived.Test.YtncibghfgdldoaaDoorEvLinkOthersRun
import Derived.KernelRfl
namespace Go.Proofs.YtncibghfgdldoaaDoor.linkOthers
open Go.YtncibghfgdldoaaDoorEv
set_option maxRecDepth 100000
theorem g120 (W : World) : tsts W [[.int .i64 (.ofNat 30), .int .i64 (.ofNat 0)]] = true := by kernel_rfl
theorem g120_0 (W : World) : tst W [.int .i64 (.ofNat 30), .int .i64 (.ofNat 0)] = true := (tsts_cons (g120 W)).1
theorem g121 (W : World) : tsts W [[.int .i64 (.ofNat 30), .int .i64 (.ofNat 1)]] = true := by kernel_rfl
theorem g121_0 (W : World) : tst W [.int .i64 (.ofNat 30), .int .i64 (.ofNat 1)] = true := (tsts_cons (g121 W)).1
theorem g122 (W : World) : tsts W [[.int .i64 (.ofNat 30), .int .i64 (.ofNat 2)]] = true := by kernel_rfl
theorem g122_0 (W : World) : tst W [.int .i64 (.ofNat 30), .int .i64 (.ofNat 2)] = true := (tsts_cons (g122 W)).1
theorem g123 (W : World) : tsts W [[.int .i64 (.ofNat 30), .int .i64 (.ofNat 3)]] = true := by kernel_rfl
theorem g123_0 (W : World) : tst W [.int .i64 (.ofNat 30), .int .i64 (.ofNat 3)] = true := (tsts_cons (g123 W)).1
theorem g124 (W : World) : tsts W [[.int .i64 (.ofNat 31), .int .i64 (.ofNat 0)]] = true := by kernel_rfl
theorem g124_0 (W : World) : tst W [.int .i64 (.ofNat 31), .int .i64 (.ofNat 0)] = true := (tsts_cons (g124 W)).1
theorem g125 (W : World) : tsts W [[.int .i64 (.ofNat 31), .int .i64 (.ofNat 1)]] = true := by kernel_rfl
theorem g125_0 (W : World) : tst W [.int .i64 (.ofNat 31), .int .i64 (.ofNat 1)] = true := (tsts_cons (g125 W)).1
theorem g126 (W : World) : tsts W [[.int .i64 (.ofNat 31), .int .i64 (.ofNat 2)]] = true := by kernel_rfl
theorem g126_0 (W : World) : tst W [.int .i64 (.ofNat 31), .int .i64 (.ofNat 2)] = true := (tsts_cons (g126 W)).1
theorem g127 (W : World) : tsts W [[.int .i64 (.ofNat 31), .int .i64 (.ofNat 3)]] = true := by kernel_rfl
theorem g127_0 (W : World) : tst W [.int .i64 (.ofNat 31), .int .i64 (.ofNat 3)] = true := (tsts_cons (g127 W)).1
theorem g128 (W : World) : tsts W [[.int .i64 (.ofNat 32), .int .i64 (.ofNat 0)]] = true := by kernel_rfl
theorem g128_0 (W : World) : tst W [.int .i64 (.ofNat 32), .int .i64 (.ofNat 0)] = true := (tsts_cons (g128 W)).1
theorem g129 (W : World) : tsts W [[.int .i64 (.ofNat 32), .int .i64 (.ofNat 1)]] = true := by kernel_rfl
theorem g129_0 (W : World) : tst W [.int .i64 (.ofNat 32), .int .i64 (.ofNat 1)] = true := (tsts_cons (g129 W)).1
theorem g130 (W : World) : tsts W [[.int .i64 (.ofNat 32), .int .i64 (.ofNat 2)]] = true := by kernel_rfl
theorem g130_0 (W : World) : tst W [.int .i64 (.ofNat 32), .int .i64 (.ofNat 2)] = true := (tsts_cons (g130 W)).1
theorem g131 (W : World) : tsts W [[.int .i64 (.ofNat 32), .int .i64 (.ofNat 3)]] = true := by kernel_rfl
theorem g131_0 (W : World) : tst W [.int .i64 (.ofNat 32), .int .i64 (.ofNat 3)] = true := (tsts_cons (g131 W)).1
theorem g132 (W : World) : tsts W [[.int .i64 (.ofNat 33), .int .i64 (.ofNat 0)]] = true := by kernel_rfl
theorem g132_0 (W : World) : tst W [.int .i64 (.ofNat 33), .int .i64 (.ofNat 0)] = true := (tsts_cons (g132 W)).1
theorem g133 (W : World) : tsts W [[.int .i64 (.ofNat 33), .int .i64 (.ofNat 1)]] = true := by kernel_rfl
theorem g133_0 (W : World) : tst W [.int .i64 (.ofNat 33), .int .i64 (.ofNat 1)] = true := (tsts_cons (g133 W)).1
theorem g134 (W : World) : tsts W [[.int .i64 (.ofNat 33), .int .i64 (.ofNat 2)]] = true := by kernel_rfl
theorem g134_0 (W : World) : tst W [.int .i64 (.ofNat 33), .int .i64 (.ofNat 2)] = true := (tsts_cons (g134 W)).1
end Go.Proofs.YtncibghfgdldoaaDoor.linkOthers
