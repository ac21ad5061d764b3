/- LinkOthers: the evaluator's answers, by the kernel. -/
import Derived.Test.YtncibghfgdldoaaDoorEvLinkOthersRun
import Derived.KernelRfl
namespace Go.Proofs.YtncibghfgdldoaaDoor.linkOthers
open Go.YtncibghfgdldoaaDoorEv
set_option maxRecDepth 100000
theorem s15 (W : World) (m1 : Nat) : tst W [.int .i64 (.ofNat 7), .int .i64 (.negSucc m1)] = true := by kernel_rfl
theorem s16 (W : World) (m1 : Nat) : tst W [.int .i64 (.ofNat 7), .int .i64 (.ofNat (m1 + 4))] = true := by kernel_rfl
theorem s17 (W : World) (m1 : Nat) : tst W [.int .i64 (.ofNat 8), .int .i64 (.negSucc m1)] = true := by kernel_rfl
theorem s18 (W : World) (m1 : Nat) : tst W [.int .i64 (.ofNat 8), .int .i64 (.ofNat (m1 + 4))] = true := by kernel_rfl
theorem s19 (W : World) (m1 : Nat) : tst W [.int .i64 (.ofNat 9), .int .i64 (.negSucc m1)] = true := by kernel_rfl
theorem s20 (W : World) (m1 : Nat) : tst W [.int .i64 (.ofNat 9), .int .i64 (.ofNat (m1 + 4))] = true := by kernel_rfl
theorem s21 (W : World) (m1 : Nat) : tst W [.int .i64 (.ofNat 10), .int .i64 (.negSucc m1)] = true := by kernel_rfl
theorem s22 (W : World) (m1 : Nat) : tst W [.int .i64 (.ofNat 10), .int .i64 (.ofNat (m1 + 4))] = true := by kernel_rfl
theorem s23 (W : World) (m1 : Nat) : tst W [.int .i64 (.ofNat 11), .int .i64 (.negSucc m1)] = true := by kernel_rfl
theorem s24 (W : World) (m1 : Nat) : tst W [.int .i64 (.ofNat 11), .int .i64 (.ofNat (m1 + 4))] = true := by kernel_rfl
theorem s25 (W : World) (m1 : Nat) : tst W [.int .i64 (.ofNat 12), .int .i64 (.negSucc m1)] = true := by kernel_rfl
theorem s26 (W : World) (m1 : Nat) : tst W [.int .i64 (.ofNat 12), .int .i64 (.ofNat (m1 + 4))] = true := by kernel_rfl
theorem s27 (W : World) (m1 : Nat) : tst W [.int .i64 (.ofNat 13), .int .i64 (.negSucc m1)] = true := by kernel_rfl
theorem s28 (W : World) (m1 : Nat) : tst W [.int .i64 (.ofNat 13), .int .i64 (.ofNat (m1 + 4))] = true := by kernel_rfl
theorem s29 (W : World) (m1 : Nat) : tst W [.int .i64 (.ofNat 14), .int .i64 (.negSucc m1)] = true := by kernel_rfl
end Go.Proofs.YtncibghfgdldoaaDoor.linkOthers
