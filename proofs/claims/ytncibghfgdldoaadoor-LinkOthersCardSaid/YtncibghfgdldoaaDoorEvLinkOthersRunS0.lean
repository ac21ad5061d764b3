/- LinkOthers: the evaluator's answers, by the kernel. -/
import Derived.Test.YtncibghfgdldoaaDoorEvLinkOthersRun
import Derived.KernelRfl
namespace Go.Proofs.YtncibghfgdldoaaDoor.linkOthers
open Go.YtncibghfgdldoaaDoorEv
set_option maxRecDepth 100000
theorem s0 (W : World) (m0 : Nat) (a1 : Int) : tst W [.int .i64 (.negSucc m0), .int .i64 a1] = true := by kernel_rfl
theorem s1 (W : World) (m1 : Nat) : tst W [.int .i64 (.ofNat 0), .int .i64 (.negSucc m1)] = true := by kernel_rfl
theorem s2 (W : World) (m1 : Nat) : tst W [.int .i64 (.ofNat 0), .int .i64 (.ofNat (m1 + 4))] = true := by kernel_rfl
theorem s3 (W : World) (m1 : Nat) : tst W [.int .i64 (.ofNat 1), .int .i64 (.negSucc m1)] = true := by kernel_rfl
theorem s4 (W : World) (m1 : Nat) : tst W [.int .i64 (.ofNat 1), .int .i64 (.ofNat (m1 + 4))] = true := by kernel_rfl
theorem s5 (W : World) (m1 : Nat) : tst W [.int .i64 (.ofNat 2), .int .i64 (.negSucc m1)] = true := by kernel_rfl
theorem s6 (W : World) (m1 : Nat) : tst W [.int .i64 (.ofNat 2), .int .i64 (.ofNat (m1 + 4))] = true := by kernel_rfl
theorem s7 (W : World) (m1 : Nat) : tst W [.int .i64 (.ofNat 3), .int .i64 (.negSucc m1)] = true := by kernel_rfl
theorem s8 (W : World) (m1 : Nat) : tst W [.int .i64 (.ofNat 3), .int .i64 (.ofNat (m1 + 4))] = true := by kernel_rfl
theorem s9 (W : World) (m1 : Nat) : tst W [.int .i64 (.ofNat 4), .int .i64 (.negSucc m1)] = true := by kernel_rfl
theorem s10 (W : World) (m1 : Nat) : tst W [.int .i64 (.ofNat 4), .int .i64 (.ofNat (m1 + 4))] = true := by kernel_rfl
theorem s11 (W : World) (m1 : Nat) : tst W [.int .i64 (.ofNat 5), .int .i64 (.negSucc m1)] = true := by kernel_rfl
theorem s12 (W : World) (m1 : Nat) : tst W [.int .i64 (.ofNat 5), .int .i64 (.ofNat (m1 + 4))] = true := by kernel_rfl
theorem s13 (W : World) (m1 : Nat) : tst W [.int .i64 (.ofNat 6), .int .i64 (.negSucc m1)] = true := by kernel_rfl
theorem s14 (W : World) (m1 : Nat) : tst W [.int .i64 (.ofNat 6), .int .i64 (.ofNat (m1 + 4))] = true := by kernel_rfl
end Go.Proofs.YtncibghfgdldoaaDoor.linkOthers
