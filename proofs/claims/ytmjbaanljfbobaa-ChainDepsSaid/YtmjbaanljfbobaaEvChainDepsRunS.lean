/- ChainDeps: the evaluator's answers, by the kernel. -/
import Derived.Test.YtmjbaanljfbobaaEvChainDepsRun
import Derived.KernelRfl
namespace Go.Proofs.Ytmjbaanljfbobaa.chainDeps
open Go.YtmjbaanljfbobaaEv
set_option maxRecDepth 100000
theorem s0 (m0 : Nat) (a1 : Int) : tst [.int .i64 (.negSucc m0), .int .i64 a1] = true := by kernel_rfl
theorem s1 (a1 : Int) : tst [.int .i64 (.ofNat 0), .int .i64 a1] = true := by kernel_rfl
theorem s2 (m1 : Nat) : tst [.int .i64 (.ofNat 1), .int .i64 (.negSucc m1)] = true := by kernel_rfl
theorem s3 (m1 : Nat) : tst [.int .i64 (.ofNat 1), .int .i64 (.ofNat (m1 + 8))] = true := by kernel_rfl
theorem s4 (m1 : Nat) : tst [.int .i64 (.ofNat 2), .int .i64 (.negSucc m1)] = true := by kernel_rfl
theorem s5 (m1 : Nat) : tst [.int .i64 (.ofNat 2), .int .i64 (.ofNat (m1 + 8))] = true := by kernel_rfl
theorem s6 (m1 : Nat) : tst [.int .i64 (.ofNat 3), .int .i64 (.negSucc m1)] = true := by kernel_rfl
theorem s7 (m1 : Nat) : tst [.int .i64 (.ofNat 3), .int .i64 (.ofNat (m1 + 8))] = true := by kernel_rfl
theorem s8 (m1 : Nat) : tst [.int .i64 (.ofNat 4), .int .i64 (.negSucc m1)] = true := by kernel_rfl
theorem s9 (m1 : Nat) : tst [.int .i64 (.ofNat 4), .int .i64 (.ofNat (m1 + 8))] = true := by kernel_rfl
theorem s10 (m1 : Nat) : tst [.int .i64 (.ofNat 5), .int .i64 (.negSucc m1)] = true := by kernel_rfl
theorem s11 (m1 : Nat) : tst [.int .i64 (.ofNat 5), .int .i64 (.ofNat (m1 + 8))] = true := by kernel_rfl
theorem s12 (m1 : Nat) : tst [.int .i64 (.ofNat 6), .int .i64 (.negSucc m1)] = true := by kernel_rfl
theorem s13 (m1 : Nat) : tst [.int .i64 (.ofNat 6), .int .i64 (.ofNat (m1 + 8))] = true := by kernel_rfl
theorem s14 (m1 : Nat) : tst [.int .i64 (.ofNat 7), .int .i64 (.negSucc m1)] = true := by kernel_rfl
theorem s15 (m1 : Nat) : tst [.int .i64 (.ofNat 7), .int .i64 (.ofNat (m1 + 8))] = true := by kernel_rfl
theorem s16 (m1 : Nat) : tst [.int .i64 (.ofNat 8), .int .i64 (.negSucc m1)] = true := by kernel_rfl
theorem s17 (m1 : Nat) : tst [.int .i64 (.ofNat 8), .int .i64 (.ofNat (m1 + 8))] = true := by kernel_rfl
theorem s18 (m0 : Nat) (a1 : Int) : tst [.int .i64 (.ofNat (m0 + 9)), .int .i64 a1] = true := by kernel_rfl
end Go.Proofs.Ytmjbaanljfbobaa.chainDeps
