/- LinkOthers: the evaluator's answers, by the kernel. -/
import Derived.Test.YtncibghfgdldoaaDoorEvLinkOthersRun
import Derived.KernelRfl
namespace Go.Proofs.YtncibghfgdldoaaDoor.linkOthers
open Go.YtncibghfgdldoaaDoorEv
set_option maxRecDepth 100000
theorem g150 (W : World) : tsts W [[.int .i64 (.ofNat 37), .int .i64 (.ofNat 2)]] = true := by kernel_rfl
theorem g150_0 (W : World) : tst W [.int .i64 (.ofNat 37), .int .i64 (.ofNat 2)] = true := (tsts_cons (g150 W)).1
theorem g151 (W : World) : tsts W [[.int .i64 (.ofNat 37), .int .i64 (.ofNat 3)]] = true := by kernel_rfl
theorem g151_0 (W : World) : tst W [.int .i64 (.ofNat 37), .int .i64 (.ofNat 3)] = true := (tsts_cons (g151 W)).1
theorem g152 (W : World) : tsts W [[.int .i64 (.ofNat 38), .int .i64 (.ofNat 0)]] = true := by kernel_rfl
theorem g152_0 (W : World) : tst W [.int .i64 (.ofNat 38), .int .i64 (.ofNat 0)] = true := (tsts_cons (g152 W)).1
theorem g153 (W : World) : tsts W [[.int .i64 (.ofNat 38), .int .i64 (.ofNat 1)]] = true := by kernel_rfl
theorem g153_0 (W : World) : tst W [.int .i64 (.ofNat 38), .int .i64 (.ofNat 1)] = true := (tsts_cons (g153 W)).1
theorem g154 (W : World) : tsts W [[.int .i64 (.ofNat 38), .int .i64 (.ofNat 2)]] = true := by kernel_rfl
theorem g154_0 (W : World) : tst W [.int .i64 (.ofNat 38), .int .i64 (.ofNat 2)] = true := (tsts_cons (g154 W)).1
theorem g155 (W : World) : tsts W [[.int .i64 (.ofNat 38), .int .i64 (.ofNat 3)]] = true := by kernel_rfl
theorem g155_0 (W : World) : tst W [.int .i64 (.ofNat 38), .int .i64 (.ofNat 3)] = true := (tsts_cons (g155 W)).1
theorem g156 (W : World) : tsts W [[.int .i64 (.ofNat 39), .int .i64 (.ofNat 0)]] = true := by kernel_rfl
theorem g156_0 (W : World) : tst W [.int .i64 (.ofNat 39), .int .i64 (.ofNat 0)] = true := (tsts_cons (g156 W)).1
theorem g157 (W : World) : tsts W [[.int .i64 (.ofNat 39), .int .i64 (.ofNat 1)]] = true := by kernel_rfl
theorem g157_0 (W : World) : tst W [.int .i64 (.ofNat 39), .int .i64 (.ofNat 1)] = true := (tsts_cons (g157 W)).1
theorem g158 (W : World) : tsts W [[.int .i64 (.ofNat 39), .int .i64 (.ofNat 2)]] = true := by kernel_rfl
theorem g158_0 (W : World) : tst W [.int .i64 (.ofNat 39), .int .i64 (.ofNat 2)] = true := (tsts_cons (g158 W)).1
theorem g159 (W : World) : tsts W [[.int .i64 (.ofNat 39), .int .i64 (.ofNat 3)]] = true := by kernel_rfl
theorem g159_0 (W : World) : tst W [.int .i64 (.ofNat 39), .int .i64 (.ofNat 3)] = true := (tsts_cons (g159 W)).1
theorem g160 (W : World) : tsts W [[.int .i64 (.ofNat 40), .int .i64 (.ofNat 0)]] = true := by kernel_rfl
theorem g160_0 (W : World) : tst W [.int .i64 (.ofNat 40), .int .i64 (.ofNat 0)] = true := (tsts_cons (g160 W)).1
theorem g161 (W : World) : tsts W [[.int .i64 (.ofNat 40), .int .i64 (.ofNat 1)]] = true := by kernel_rfl
theorem g161_0 (W : World) : tst W [.int .i64 (.ofNat 40), .int .i64 (.ofNat 1)] = true := (tsts_cons (g161 W)).1
theorem g162 (W : World) : tsts W [[.int .i64 (.ofNat 40), .int .i64 (.ofNat 2)]] = true := by kernel_rfl
theorem g162_0 (W : World) : tst W [.int .i64 (.ofNat 40), .int .i64 (.ofNat 2)] = true := (tsts_cons (g162 W)).1
theorem g163 (W : World) : tsts W [[.int .i64 (.ofNat 40), .int .i64 (.ofNat 3)]] = true := by kernel_rfl
theorem g163_0 (W : World) : tst W [.int .i64 (.ofNat 40), .int .i64 (.ofNat 3)] = true := (tsts_cons (g163 W)).1
end Go.Proofs.YtncibghfgdldoaaDoor.linkOthers
