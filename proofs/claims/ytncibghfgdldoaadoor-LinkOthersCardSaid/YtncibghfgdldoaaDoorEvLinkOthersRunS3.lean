/- LinkOthers: the evaluator's answers, by the kernel. -/
import Derived.Test.YtncibghfgdldoaaDoorEvLinkOthersRun
import Derived.KernelRfl
namespace Go.Proofs.YtncibghfgdldoaaDoor.linkOthers
open Go.YtncibghfgdldoaaDoorEv
set_option maxRecDepth 100000
theorem s45 (W : World) (m1 : Nat) : tst W [.int .i64 (.ofNat 22), .int .i64 (.negSucc m1)] = true := by kernel_rfl
theorem s46 (W : World) (m1 : Nat) : tst W [.int .i64 (.ofNat 22), .int .i64 (.ofNat (m1 + 4))] = true := by kernel_rfl
theorem s47 (W : World) (m1 : Nat) : tst W [.int .i64 (.ofNat 23), .int .i64 (.negSucc m1)] = true := by kernel_rfl
theorem s48 (W : World) (m1 : Nat) : tst W [.int .i64 (.ofNat 23), .int .i64 (.ofNat (m1 + 4))] = true := by kernel_rfl
theorem s49 (W : World) (m1 : Nat) : tst W [.int .i64 (.ofNat 24), .int .i64 (.negSucc m1)] = true := by kernel_rfl
theorem s50 (W : World) (m1 : Nat) : tst W [.int .i64 (.ofNat 24), .int .i64 (.ofNat (m1 + 4))] = true := by kernel_rfl
theorem s51 (W : World) (m1 : Nat) : tst W [.int .i64 (.ofNat 25), .int .i64 (.negSucc m1)] = true := by kernel_rfl
theorem s52 (W : World) (m1 : Nat) : tst W [.int .i64 (.ofNat 25), .int .i64 (.ofNat (m1 + 4))] = true := by kernel_rfl
theorem s53 (W : World) (m1 : Nat) : tst W [.int .i64 (.ofNat 26), .int .i64 (.negSucc m1)] = true := by kernel_rfl
theorem s54 (W : World) (m1 : Nat) : tst W [.int .i64 (.ofNat 26), .int .i64 (.ofNat (m1 + 4))] = true := by kernel_rfl
theorem s55 (W : World) (m1 : Nat) : tst W [.int .i64 (.ofNat 27), .int .i64 (.negSucc m1)] = true := by kernel_rfl
theorem s56 (W : World) (m1 : Nat) : tst W [.int .i64 (.ofNat 27), .int .i64 (.ofNat (m1 + 4))] = true := by kernel_rfl
theorem s57 (W : World) (m1 : Nat) : tst W [.int .i64 (.ofNat 28), .int .i64 (.negSucc m1)] = true := by kernel_rfl
theorem s58 (W : World) (m1 : Nat) : tst W [.int .i64 (.ofNat 28), .int .i64 (.ofNat (m1 + 4))] = true := by kernel_rfl
theorem s59 (W : World) (m1 : Nat) : tst W [.int .i64 (.ofNat 29), .int .i64 (.negSucc m1)] = true := by kernel_rfl
end Go.Proofs.YtncibghfgdldoaaDoor.linkOthers
