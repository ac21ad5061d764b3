/- LinkOthers: the evaluator's answers, by the kernel. -/
import Derived.Test.YtncibghfgdldoaaDoorEvLinkOthersRun
import Derived.KernelRfl
namespace Go.Proofs.YtncibghfgdldoaaDoor.linkOthers
open Go.YtncibghfgdldoaaDoorEv
set_option maxRecDepth 100000
theorem s30 (W : World) (m1 : Nat) : tst W [.int .i64 (.ofNat 14), .int .i64 (.ofNat (m1 + 4))] = true := by kernel_rfl
theorem s31 (W : World) (m1 : Nat) : tst W [.int .i64 (.ofNat 15), .int .i64 (.negSucc m1)] = true := by kernel_rfl
theorem s32 (W : World) (m1 : Nat) : tst W [.int .i64 (.ofNat 15), .int .i64 (.ofNat (m1 + 4))] = true := by kernel_rfl
theorem s33 (W : World) (m1 : Nat) : tst W [.int .i64 (.ofNat 16), .int .i64 (.negSucc m1)] = true := by kernel_rfl
theorem s34 (W : World) (m1 : Nat) : tst W [.int .i64 (.ofNat 16), .int .i64 (.ofNat (m1 + 4))] = true := by kernel_rfl
theorem s35 (W : World) (m1 : Nat) : tst W [.int .i64 (.ofNat 17), .int .i64 (.negSucc m1)] = true := by kernel_rfl
theorem s36 (W : World) (m1 : Nat) : tst W [.int .i64 (.ofNat 17), .int .i64 (.ofNat (m1 + 4))] = true := by kernel_rfl
theorem s37 (W : World) (m1 : Nat) : tst W [.int .i64 (.ofNat 18), .int .i64 (.negSucc m1)] = true := by kernel_rfl
theorem s38 (W : World) (m1 : Nat) : tst W [.int .i64 (.ofNat 18), .int .i64 (.ofNat (m1 + 4))] = true := by kernel_rfl
theorem s39 (W : World) (m1 : Nat) : tst W [.int .i64 (.ofNat 19), .int .i64 (.negSucc m1)] = true := by kernel_rfl
theorem s40 (W : World) (m1 : Nat) : tst W [.int .i64 (.ofNat 19), .int .i64 (.ofNat (m1 + 4))] = true := by kernel_rfl
theorem s41 (W : World) (m1 : Nat) : tst W [.int .i64 (.ofNat 20), .int .i64 (.negSucc m1)] = true := by kernel_rfl
theorem s42 (W : World) (m1 : Nat) : tst W [.int .i64 (.ofNat 20), .int .i64 (.ofNat (m1 + 4))] = true := by kernel_rfl
theorem s43 (W : World) (m1 : Nat) : tst W [.int .i64 (.ofNat 21), .int .i64 (.negSucc m1)] = true := by kernel_rfl
theorem s44 (W : World) (m1 : Nat) : tst W [.int .i64 (.ofNat 21), .int .i64 (.ofNat (m1 + 4))] = true := by kernel_rfl
end Go.Proofs.YtncibghfgdldoaaDoor.linkOthers
