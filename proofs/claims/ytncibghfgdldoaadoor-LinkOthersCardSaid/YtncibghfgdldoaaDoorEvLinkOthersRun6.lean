/- LinkOthers: the evaluator's answers, by the kernel. -/
import Derived.Test.YtncibghfgdldoaaDoorEvLinkOthersRun
import Derived.KernelRfl
namespace Go.Proofs.YtncibghfgdldoaaDoor.linkOthers
open Go.YtncibghfgdldoaaDoorEv
set_option maxRecDepth 100000
theorem g90 (W : World) : tsts W [[.int .i64 (.ofNat 22), .int .i64 (.ofNat 2)]] = true := by kernel_rfl
theorem g90_0 (W : World) : tst W [.int .i64 (.ofNat 22), .int .i64 (.ofNat 2)] = true := (tsts_cons (g90 W)).1
theorem g91 (W : World) : tsts W [[.int .i64 (.ofNat 22), .int .i64 (.ofNat 3)]] = true := by kernel_rfl
theorem g91_0 (W : World) : tst W [.int .i64 (.ofNat 22), .int .i64 (.ofNat 3)] = true := (tsts_cons (g91 W)).1
theorem g92 (W : World) : tsts W [[.int .i64 (.ofNat 23), .int .i64 (.ofNat 0)]] = true := by kernel_rfl
theorem g92_0 (W : World) : tst W [.int .i64 (.ofNat 23), .int .i64 (.ofNat 0)] = true := (tsts_cons (g92 W)).1
theorem g93 (W : World) : tsts W [[.int .i64 (.ofNat 23), .int .i64 (.ofNat 1)]] = true := by kernel_rfl
theorem g93_0 (W : World) : tst W [.int .i64 (.ofNat 23), .int .i64 (.ofNat 1)] = true := (tsts_cons (g93 W)).1
theorem g94 (W : World) : tsts W [[.int .i64 (.ofNat 23), .int .i64 (.ofNat 2)]] = true := by kernel_rfl
theorem g94_0 (W : World) : tst W [.int .i64 (.ofNat 23), .int .i64 (.ofNat 2)] = true := (tsts_cons (g94 W)).1
theorem g95 (W : World) : tsts W [[.int .i64 (.ofNat 23), .int .i64 (.ofNat 3)]] = true := by kernel_rfl
theorem g95_0 (W : World) : tst W [.int .i64 (.ofNat 23), .int .i64 (.ofNat 3)] = true := (tsts_cons (g95 W)).1
theorem g96 (W : World) : tsts W [[.int .i64 (.ofNat 24), .int .i64 (.ofNat 0)]] = true := by kernel_rfl
theorem g96_0 (W : World) : tst W [.int .i64 (.ofNat 24), .int .i64 (.ofNat 0)] = true := (tsts_cons (g96 W)).1
theorem g97 (W : World) : tsts W [[.int .i64 (.ofNat 24), .int .i64 (.ofNat 1)]] = true := by kernel_rfl
theorem g97_0 (W : World) : tst W [.int .i64 (.ofNat 24), .int .i64 (.ofNat 1)] = true := (tsts_cons (g97 W)).1
theorem g98 (W : World) : tsts W [[.int .i64 (.ofNat 24), .int .i64 (.ofNat 2)]] = true := by kernel_rfl
theorem g98_0 (W : World) : tst W [.int .i64 (.ofNat 24), .int .i64 (.ofNat 2)] = true := (tsts_cons (g98 W)).1
theorem g99 (W : World) : tsts W [[.int .i64 (.ofNat 24), .int .i64 (.ofNat 3)]] = true := by kernel_rfl
theorem g99_0 (W : World) : tst W [.int .i64 (.ofNat 24), .int .i64 (.ofNat 3)] = true := (tsts_cons (g99 W)).1
theorem g100 (W : World) : tsts W [[.int .i64 (.ofNat 25), .int .i64 (.ofNat 0)]] = true := by kernel_rfl
theorem g100_0 (W : World) : tst W [.int .i64 (.ofNat 25), .int .i64 (.ofNat 0)] = true := (tsts_cons (g100 W)).1
theorem g101 (W : World) : tsts W [[.int .i64 (.ofNat 25), .int .i64 (.ofNat 1)]] = true := by kernel_rfl
theorem g101_0 (W : World) : tst W [.int .i64 (.ofNat 25), .int .i64 (.ofNat 1)] = true := (tsts_cons (g101 W)).1
theorem g102 (W : World) : tsts W [[.int .i64 (.ofNat 25), .int .i64 (.ofNat 2)]] = true := by kernel_rfl
theorem g102_0 (W : World) : tst W [.int .i64 (.ofNat 25), .int .i64 (.ofNat 2)] = true := (tsts_cons (g102 W)).1
theorem g103 (W : World) : tsts W [[.int .i64 (.ofNat 25), .int .i64 (.ofNat 3)]] = true := by kernel_rfl
theorem g103_0 (W : World) : tst W [.int .i64 (.ofNat 25), .int .i64 (.ofNat 3)] = true := (tsts_cons (g103 W)).1
theorem g104 (W : World) : tsts W [[.int .i64 (.ofNat 26), .int .i64 (.ofNat 0)]] = true := by kernel_rfl
theorem g104_0 (W : World) : tst W [.int .i64 (.ofNat 26), .int .i64 (.ofNat 0)] = true := (tsts_cons (g104 W)).1
end Go.Proofs.YtncibghfgdldoaaDoor.linkOthers
