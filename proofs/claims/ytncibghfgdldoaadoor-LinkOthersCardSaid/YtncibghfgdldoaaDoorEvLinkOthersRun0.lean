/- LinkOthers: the evaluator's answers, by the kernel. -/
import Derived.Test.YtncibghfgdldoaaDoorEvLinkOthersRun
import Derived.KernelRfl
namespace Go.Proofs.YtncibghfgdldoaaDoor.linkOthers
open Go.YtncibghfgdldoaaDoorEv
set_option maxRecDepth 100000
theorem g0 (W : World) : tsts W [[.int .i64 (.ofNat 0), .int .i64 (.ofNat 0)]] = true := by kernel_rfl
theorem g0_0 (W : World) : tst W [.int .i64 (.ofNat 0), .int .i64 (.ofNat 0)] = true := (tsts_cons (g0 W)).1
theorem g1 (W : World) : tsts W [[.int .i64 (.ofNat 0), .int .i64 (.ofNat 1)]] = true := by kernel_rfl
theorem g1_0 (W : World) : tst W [.int .i64 (.ofNat 0), .int .i64 (.ofNat 1)] = true := (tsts_cons (g1 W)).1
theorem g2 (W : World) : tsts W [[.int .i64 (.ofNat 0), .int .i64 (.ofNat 2)]] = true := by kernel_rfl
theorem g2_0 (W : World) : tst W [.int .i64 (.ofNat 0), .int .i64 (.ofNat 2)] = true := (tsts_cons (g2 W)).1
theorem g3 (W : World) : tsts W [[.int .i64 (.ofNat 0), .int .i64 (.ofNat 3)]] = true := by kernel_rfl
theorem g3_0 (W : World) : tst W [.int .i64 (.ofNat 0), .int .i64 (.ofNat 3)] = true := (tsts_cons (g3 W)).1
theorem g4 (W : World) : tsts W [[.int .i64 (.ofNat 1), .int .i64 (.ofNat 0)]] = true := by kernel_rfl
theorem g4_0 (W : World) : tst W [.int .i64 (.ofNat 1), .int .i64 (.ofNat 0)] = true := (tsts_cons (g4 W)).1
theorem g5 (W : World) : tsts W [[.int .i64 (.ofNat 1), .int .i64 (.ofNat 1)]] = true := by kernel_rfl
theorem g5_0 (W : World) : tst W [.int .i64 (.ofNat 1), .int .i64 (.ofNat 1)] = true := (tsts_cons (g5 W)).1
theorem g6 (W : World) : tsts W [[.int .i64 (.ofNat 1), .int .i64 (.ofNat 2)]] = true := by kernel_rfl
theorem g6_0 (W : World) : tst W [.int .i64 (.ofNat 1), .int .i64 (.ofNat 2)] = true := (tsts_cons (g6 W)).1
theorem g7 (W : World) : tsts W [[.int .i64 (.ofNat 1), .int .i64 (.ofNat 3)]] = true := by kernel_rfl
theorem g7_0 (W : World) : tst W [.int .i64 (.ofNat 1), .int .i64 (.ofNat 3)] = true := (tsts_cons (g7 W)).1
theorem g8 (W : World) : tsts W [[.int .i64 (.ofNat 2), .int .i64 (.ofNat 0)]] = true := by kernel_rfl
theorem g8_0 (W : World) : tst W [.int .i64 (.ofNat 2), .int .i64 (.ofNat 0)] = true := (tsts_cons (g8 W)).1
theorem g9 (W : World) : tsts W [[.int .i64 (.ofNat 2), .int .i64 (.ofNat 1)]] = true := by kernel_rfl
theorem g9_0 (W : World) : tst W [.int .i64 (.ofNat 2), .int .i64 (.ofNat 1)] = true := (tsts_cons (g9 W)).1
theorem g10 (W : World) : tsts W [[.int .i64 (.ofNat 2), .int .i64 (.ofNat 2)]] = true := by kernel_rfl
theorem g10_0 (W : World) : tst W [.int .i64 (.ofNat 2), .int .i64 (.ofNat 2)] = true := (tsts_cons (g10 W)).1
theorem g11 (W : World) : tsts W [[.int .i64 (.ofNat 2), .int .i64 (.ofNat 3)]] = true := by kernel_rfl
theorem g11_0 (W : World) : tst W [.int .i64 (.ofNat 2), .int .i64 (.ofNat 3)] = true := (tsts_cons (g11 W)).1
theorem g12 (W : World) : tsts W [[.int .i64 (.ofNat 3), .int .i64 (.ofNat 0)]] = true := by kernel_rfl
theorem g12_0 (W : World) : tst W [.int .i64 (.ofNat 3), .int .i64 (.ofNat 0)] = true := (tsts_cons (g12 W)).1
theorem g13 (W : World) : tsts W [[.int .i64 (.ofNat 3), .int .i64 (.ofNat 1)]] = true := by kernel_rfl
theorem g13_0 (W : World) : tst W [.int .i64 (.ofNat 3), .int .i64 (.ofNat 1)] = true := (tsts_cons (g13 W)).1
theorem g14 (W : World) : tsts W [[.int .i64 (.ofNat 3), .int .i64 (.ofNat 2)]] = true := by kernel_rfl
theorem g14_0 (W : World) : tst W [.int .i64 (.ofNat 3), .int .i64 (.ofNat 2)] = true := (tsts_cons (g14 W)).1
end Go.Proofs.YtncibghfgdldoaaDoor.linkOthers
