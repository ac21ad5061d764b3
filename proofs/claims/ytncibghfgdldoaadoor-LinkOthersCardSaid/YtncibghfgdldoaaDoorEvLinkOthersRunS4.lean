/- LinkOthers: the evaluator's answers, by the kernel. -/
import Derived.Test.YtncibghfgdldoaaDoorEvLinkOthersRun
import Derived.KernelRfl
namespace Go.Proofs.YtncibghfgdldoaaDoor.linkOthers
open Go.YtncibghfgdldoaaDoorEv
set_option maxRecDepth 100000
theorem s60 (W : World) (m1 : Nat) : tst W [.int .i64 (.ofNat 29), .int .i64 (.ofNat (m1 + 4))] = true := by kernel_rfl
theorem s61 (W : World) (m1 : Nat) : tst W [.int .i64 (.ofNat 30), .int .i64 (.negSucc m1)] = true := by kernel_rfl
theorem s62 (W : World) (m1 : Nat) : tst W [.int .i64 (.ofNat 30), .int .i64 (.ofNat (m1 + 4))] = true := by kernel_rfl
theorem s63 (W : World) (m1 : Nat) : tst W [.int .i64 (.ofNat 31), .int .i64 (.negSucc m1)] = true := by kernel_rfl
theorem s64 (W : World) (m1 : Nat) : tst W [.int .i64 (.ofNat 31), .int .i64 (.ofNat (m1 + 4))] = true := by kernel_rfl
theorem s65 (W : World) (m1 : Nat) : tst W [.int .i64 (.ofNat 32), .int .i64 (.negSucc m1)] = true := by kernel_rfl
theorem s66 (W : World) (m1 : Nat) : tst W [.int .i64 (.ofNat 32), .int .i64 (.ofNat (m1 + 4))] = true := by kernel_rfl
theorem s67 (W : World) (m1 : Nat) : tst W [.int .i64 (.ofNat 33), .int .i64 (.negSucc m1)] = true := by kernel_rfl
theorem s68 (W : World) (m1 : Nat) : tst W [.int .i64 (.ofNat 33), .int .i64 (.ofNat (m1 + 4))] = true := by kernel_rfl
theorem s69 (W : World) (m1 : Nat) : tst W [.int .i64 (.ofNat 34), .int .i64 (.negSucc m1)] = true := by kernel_rfl
theorem s70 (W : World) (m1 : Nat) : tst W [.int .i64 (.ofNat 34), .int .i64 (.ofNat (m1 + 4))] = true := by kernel_rfl
theorem s71 (W : World) (m1 : Nat) : tst W [.int .i64 (.ofNat 35), .int .i64 (.negSucc m1)] = true := by kernel_rfl
theorem s72 (W : World) (m1 : Nat) : tst W [.int .i64 (.ofNat 35), .int .i64 (.ofNat (m1 + 4))] = true := by kernel_rfl
theorem s73 (W : World) (m1 : Nat) : tst W [.int .i64 (.ofNat 36), .int .i64 (.negSucc m1)] = true := by kernel_rfl
theorem s74 (W : World) (m1 : Nat) : tst W [.int .i64 (.ofNat 36), .int .i64 (.ofNat (m1 + 4))] = true := by kernel_rfl
end Go.Proofs.YtncibghfgdldoaaDoor.linkOthers
