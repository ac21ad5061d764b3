/- LinkOthers: the evaluator's answers, by the kernel. -/
import Derived.Test.YtncibghfgdldoaaDoorEvLinkOthersRun
import Derived.KernelRfl
namespace Go.Proofs.YtncibghfgdldoaaDoor.linkOthers
open Go.YtncibghfgdldoaaDoorEv
set_option maxRecDepth 100000
theorem g105 (W : World) : tsts W [[.int .i64 (.ofNat 26), .int .i64 (.ofNat 1)]] = true := by kernel_rfl
theorem g105_0 (W : World) : tst W [.int .i64 (.ofNat 26), .int .i64 (.ofNat 1)] = true := (tsts_cons (g105 W)).1
theorem g106 (W : World) : tsts W [[.int .i64 (.ofNat 26), .int .i64 (.ofNat 2)]] = true := by kernel_rfl
theorem g106_0 (W : World) : tst W [.int .i64 (.ofNat 26), .int .i64 (.ofNat 2)] = true := (tsts_cons (g106 W)).1
theorem g107 (W : World) : tsts W [[.int .i64 (.ofNat 26), .int .i64 (.ofNat 3)]] = true := by kernel_rfl
theorem g107_0 (W : World) : tst W [.int .i64 (.ofNat 26), .int .i64 (.ofNat 3)] = true := (tsts_cons (g107 W)).1
theorem g108 (W : World) : tsts W [[.int .i64 (.ofNat 27), .int .i64 (.ofNat 0)]] = true := by kernel_rfl
theorem g108_0 (W : World) : tst W [.int .i64 (.ofNat 27), .int .i64 (.ofNat 0)] = true := (tsts_cons (g108 W)).1
theorem g109 (W : World) : tsts W [[.int .i64 (.ofNat 27), .int .i64 (.ofNat 1)]] = true := by kernel_rfl
theorem g109_0 (W : World) : tst W [.int .i64 (.ofNat 27), .int .i64 (.ofNat 1)] = true := (tsts_cons (g109 W)).1
theorem g110 (W : World) : tsts W [[.int .i64 (.ofNat 27), .int .i64 (.ofNat 2)]] = true := by kernel_rfl
theorem g110_0 (W : World) : tst W [.int .i64 (.ofNat 27), .int .i64 (.ofNat 2)] = true := (tsts_cons (g110 W)).1
theorem g111 (W : World) : tsts W [[.int .i64 (.ofNat 27), .int .i64 (.ofNat 3)]] = true := by kernel_rfl
theorem g111_0 (W : World) : tst W [.int .i64 (.ofNat 27), .int .i64 (.ofNat 3)] = true := (tsts_cons (g111 W)).1
theorem g112 (W : World) : tsts W [[.int .i64 (.ofNat 28), .int .i64 (.ofNat 0)]] = true := by kernel_rfl
theorem g112_0 (W : World) : tst W [.int .i64 (.ofNat 28), .int .i64 (.ofNat 0)] = true := (tsts_cons (g112 W)).1
theorem g113 (W : World) : tsts W [[.int .i64 (.ofNat 28), .int .i64 (.ofNat 1)]] = true := by kernel_rfl
theorem g113_0 (W : World) : tst W [.int .i64 (.ofNat 28), .int .i64 (.ofNat 1)] = true := (tsts_cons (g113 W)).1
theorem g114 (W : World) : tsts W [[.int .i64 (.ofNat 28), .int .i64 (.ofNat 2)]] = true := by kernel_rfl
theorem g114_0 (W : World) : tst W [.int .i64 (.ofNat 28), .int .i64 (.ofNat 2)] = true := (tsts_cons (g114 W)).1
theorem g115 (W : World) : tsts W [[.int .i64 (.ofNat 28), .int .i64 (.ofNat 3)]] = true := by kernel_rfl
theorem g115_0 (W : World) : tst W [.int .i64 (.ofNat 28), .int .i64 (.ofNat 3)] = true := (tsts_cons (g115 W)).1
theorem g116 (W : World) : tsts W [[.int .i64 (.ofNat 29), .int .i64 (.ofNat 0)]] = true := by kernel_rfl
theorem g116_0 (W : World) : tst W [.int .i64 (.ofNat 29), .int .i64 (.ofNat 0)] = true := (tsts_cons (g116 W)).1
theorem g117 (W : World) : tsts W [[.int .i64 (.ofNat 29), .int .i64 (.ofNat 1)]] = true := by kernel_rfl
theorem g117_0 (W : World) : tst W [.int .i64 (.ofNat 29), .int .i64 (.ofNat 1)] = true := (tsts_cons (g117 W)).1
theorem g118 (W : World) : tsts W [[.int .i64 (.ofNat 29), .int .i64 (.ofNat 2)]] = true := by kernel_rfl
theorem g118_0 (W : World) : tst W [.int .i64 (.ofNat 29), .int .i64 (.ofNat 2)] = true := (tsts_cons (g118 W)).1
theorem g119 (W : World) : tsts W [[.int .i64 (.ofNat 29), .int .i64 (.ofNat 3)]] = true := by kernel_rfl
theorem g119_0 (W : World) : tst W [.int .i64 (.ofNat 29), .int .i64 (.ofNat 3)] = true := (tsts_cons (g119 W)).1
end Go.Proofs.YtncibghfgdldoaaDoor.linkOthers
