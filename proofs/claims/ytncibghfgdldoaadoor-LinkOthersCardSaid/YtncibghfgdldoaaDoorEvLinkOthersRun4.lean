/- LinkOthers: the evaluator's answers, by the kernel. -/
import Derived.Test.YtncibghfgdldoaaDoorEvLinkOthersRun
import Derived.KernelRfl
namespace Go.Proofs.YtncibghfgdldoaaDoor.linkOthers
open Go.YtncibghfgdldoaaDoorEv
set_option maxRecDepth 100000
theorem g60 (W : World) : tsts W [[.int .i64 (.ofNat 15), .int .i64 (.ofNat 0)]] = true := by kernel_rfl
theorem g60_0 (W : World) : tst W [.int .i64 (.ofNat 15), .int .i64 (.ofNat 0)] = true := (tsts_cons (g60 W)).1
theorem g61 (W : World) : tsts W [[.int .i64 (.ofNat 15), .int .i64 (.ofNat 1)]] = true := by kernel_rfl
theorem g61_0 (W : World) : tst W [.int .i64 (.ofNat 15), .int .i64 (.ofNat 1)] = true := (tsts_cons (g61 W)).1
theorem g62 (W : World) : tsts W [[.int .i64 (.ofNat 15), .int .i64 (.ofNat 2)]] = true := by kernel_rfl
theorem g62_0 (W : World) : tst W [.int .i64 (.ofNat 15), .int .i64 (.ofNat 2)] = true := (tsts_cons (g62 W)).1
theorem g63 (W : World) : tsts W [[.int .i64 (.ofNat 15), .int .i64 (.ofNat 3)]] = true := by kernel_rfl
theorem g63_0 (W : World) : tst W [.int .i64 (.ofNat 15), .int .i64 (.ofNat 3)] = true := (tsts_cons (g63 W)).1
theorem g64 (W : World) : tsts W [[.int .i64 (.ofNat 16), .int .i64 (.ofNat 0)]] = true := by kernel_rfl
theorem g64_0 (W : World) : tst W [.int .i64 (.ofNat 16), .int .i64 (.ofNat 0)] = true := (tsts_cons (g64 W)).1
theorem g65 (W : World) : tsts W [[.int .i64 (.ofNat 16), .int .i64 (.ofNat 1)]] = true := by kernel_rfl
theorem g65_0 (W : World) : tst W [.int .i64 (.ofNat 16), .int .i64 (.ofNat 1)] = true := (tsts_cons (g65 W)).1
theorem g66 (W : World) : tsts W [[.int .i64 (.ofNat 16), .int .i64 (.ofNat 2)]] = true := by kernel_rfl
theorem g66_0 (W : World) : tst W [.int .i64 (.ofNat 16), .int .i64 (.ofNat 2)] = true := (tsts_cons (g66 W)).1
theorem g67 (W : World) : tsts W [[.int .i64 (.ofNat 16), .int .i64 (.ofNat 3)]] = true := by kernel_rfl
theorem g67_0 (W : World) : tst W [.int .i64 (.ofNat 16), .int .i64 (.ofNat 3)] = true := (tsts_cons (g67 W)).1
theorem g68 (W : World) : tsts W [[.int .i64 (.ofNat 17), .int .i64 (.ofNat 0)]] = true := by kernel_rfl
theorem g68_0 (W : World) : tst W [.int .i64 (.ofNat 17), .int .i64 (.ofNat 0)] = true := (tsts_cons (g68 W)).1
theorem g69 (W : World) : tsts W [[.int .i64 (.ofNat 17), .int .i64 (.ofNat 1)]] = true := by kernel_rfl
theorem g69_0 (W : World) : tst W [.int .i64 (.ofNat 17), .int .i64 (.ofNat 1)] = true := (tsts_cons (g69 W)).1
theorem g70 (W : World) : tsts W [[.int .i64 (.ofNat 17), .int .i64 (.ofNat 2)]] = true := by kernel_rfl
theorem g70_0 (W : World) : tst W [.int .i64 (.ofNat 17), .int .i64 (.ofNat 2)] = true := (tsts_cons (g70 W)).1
theorem g71 (W : World) : tsts W [[.int .i64 (.ofNat 17), .int .i64 (.ofNat 3)]] = true := by kernel_rfl
theorem g71_0 (W : World) : tst W [.int .i64 (.ofNat 17), .int .i64 (.ofNat 3)] = true := (tsts_cons (g71 W)).1
theorem g72 (W : World) : tsts W [[.int .i64 (.ofNat 18), .int .i64 (.ofNat 0)]] = true := by kernel_rfl
theorem g72_0 (W : World) : tst W [.int .i64 (.ofNat 18), .int .i64 (.ofNat 0)] = true := (tsts_cons (g72 W)).1
theorem g73 (W : World) : tsts W [[.int .i64 (.ofNat 18), .int .i64 (.ofNat 1)]] = true := by kernel_rfl
theorem g73_0 (W : World) : tst W [.int .i64 (.ofNat 18), .int .i64 (.ofNat 1)] = true := (tsts_cons (g73 W)).1
theorem g74 (W : World) : tsts W [[.int .i64 (.ofNat 18), .int .i64 (.ofNat 2)]] = true := by kernel_rfl
theorem g74_0 (W : World) : tst W [.int .i64 (.ofNat 18), .int .i64 (.ofNat 2)] = true := (tsts_cons (g74 W)).1
end Go.Proofs.YtncibghfgdldoaaDoor.linkOthers
