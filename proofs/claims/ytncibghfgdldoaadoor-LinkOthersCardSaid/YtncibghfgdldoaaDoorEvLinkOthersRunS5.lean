/- LinkOthers: the evaluator's answers, by the kernel. -/
import Derived.Test.YtncibghfgdldoaaDoorEvLinkOthersRun
import Derived.KernelRfl
namespace Go.Proofs.YtncibghfgdldoaaDoor.linkOthers
open Go.YtncibghfgdldoaaDoorEv
set_option maxRecDepth 100000
theorem s75 (W : World) (m1 : Nat) : tst W [.int .i64 (.ofNat 37), .int .i64 (.negSucc m1)] = true := by kernel_rfl
theorem s76 (W : World) (m1 : Nat) : tst W [.int .i64 (.ofNat 37), .int .i64 (.ofNat (m1 + 4))] = true := by kernel_rfl
theorem s77 (W : World) (m1 : Nat) : tst W [.int .i64 (.ofNat 38), .int .i64 (.negSucc m1)] = true := by kernel_rfl
theorem s78 (W : World) (m1 : Nat) : tst W [.int .i64 (.ofNat 38), .int .i64 (.ofNat (m1 + 4))] = true := by kernel_rfl
theorem s79 (W : World) (m1 : Nat) : tst W [.int .i64 (.ofNat 39), .int .i64 (.negSucc m1)] = true := by kernel_rfl
theorem s80 (W : World) (m1 : Nat) : tst W [.int .i64 (.ofNat 39), .int .i64 (.ofNat (m1 + 4))] = true := by kernel_rfl
theorem s81 (W : World) (m1 : Nat) : tst W [.int .i64 (.ofNat 40), .int .i64 (.negSucc m1)] = true := by kernel_rfl
theorem s82 (W : World) (m1 : Nat) : tst W [.int .i64 (.ofNat 40), .int .i64 (.ofNat (m1 + 4))] = true := by kernel_rfl
theorem s83 (W : World) (m0 : Nat) (a1 : Int) : tst W [.int .i64 (.ofNat (m0 + 41)), .int .i64 a1] = true := by kernel_rfl
end Go.Proofs.YtncibghfgdldoaaDoor.linkOthers
