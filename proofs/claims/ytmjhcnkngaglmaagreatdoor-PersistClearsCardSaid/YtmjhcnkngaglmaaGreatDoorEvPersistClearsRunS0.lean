/- PersistClears: the evaluator's answers, by the kernel. -/
import Derived.Test.YtmjhcnkngaglmaaGreatDoorEvPersistClearsRun
import Derived.KernelRfl
namespace Go.Proofs.YtmjhcnkngaglmaaGreatDoor.persistClears
open Go.YtmjhcnkngaglmaaGreatDoorEv
set_option maxRecDepth 100000
theorem s0 (m0 : Nat) (a1 : Int) (a2 : Bool) : tst [.int .i64 (.negSucc m0), .int .i64 a1, .bool a2] = true := by kernel_rfl
theorem s1 (m1 : Nat) (a2 : Bool) : tst [.int .i64 (.ofNat 0), .int .i64 (.negSucc m1), .bool a2] = true := by kernel_rfl
theorem s2 (m1 : Nat) (a2 : Bool) : tst [.int .i64 (.ofNat 0), .int .i64 (.ofNat (m1 + 5)), .bool a2] = true := by kernel_rfl
theorem s3 (m1 : Nat) (a2 : Bool) : tst [.int .i64 (.ofNat 1), .int .i64 (.negSucc m1), .bool a2] = true := by kernel_rfl
theorem s4 (m1 : Nat) (a2 : Bool) : tst [.int .i64 (.ofNat 1), .int .i64 (.ofNat (m1 + 5)), .bool a2] = true := by kernel_rfl
theorem s5 (m1 : Nat) (a2 : Bool) : tst [.int .i64 (.ofNat 2), .int .i64 (.negSucc m1), .bool a2] = true := by kernel_rfl
theorem s6 (m1 : Nat) (a2 : Bool) : tst [.int .i64 (.ofNat 2), .int .i64 (.ofNat (m1 + 5)), .bool a2] = true := by kernel_rfl
theorem s7 (m1 : Nat) (a2 : Bool) : tst [.int .i64 (.ofNat 3), .int .i64 (.negSucc m1), .bool a2] = true := by kernel_rfl
theorem s8 (m1 : Nat) (a2 : Bool) : tst [.int .i64 (.ofNat 3), .int .i64 (.ofNat (m1 + 5)), .bool a2] = true := by kernel_rfl
theorem s9 (m1 : Nat) (a2 : Bool) : tst [.int .i64 (.ofNat 4), .int .i64 (.negSucc m1), .bool a2] = true := by kernel_rfl
theorem s10 (m1 : Nat) (a2 : Bool) : tst [.int .i64 (.ofNat 4), .int .i64 (.ofNat (m1 + 5)), .bool a2] = true := by kernel_rfl
theorem s11 (m1 : Nat) (a2 : Bool) : tst [.int .i64 (.ofNat 5), .int .i64 (.negSucc m1), .bool a2] = true := by kernel_rfl
theorem s12 (m1 : Nat) (a2 : Bool) : tst [.int .i64 (.ofNat 5), .int .i64 (.ofNat (m1 + 5)), .bool a2] = true := by kernel_rfl
theorem s13 (m1 : Nat) (a2 : Bool) : tst [.int .i64 (.ofNat 6), .int .i64 (.negSucc m1), .bool a2] = true := by kernel_rfl
theorem s14 (m1 : Nat) (a2 : Bool) : tst [.int .i64 (.ofNat 6), .int .i64 (.ofNat (m1 + 5)), .bool a2] = true := by kernel_rfl
theorem s15 (m1 : Nat) (a2 : Bool) : tst [.int .i64 (.ofNat 7), .int .i64 (.negSucc m1), .bool a2] = true := by kernel_rfl
theorem s16 (m1 : Nat) (a2 : Bool) : tst [.int .i64 (.ofNat 7), .int .i64 (.ofNat (m1 + 5)), .bool a2] = true := by kernel_rfl
theorem s17 (m1 : Nat) (a2 : Bool) : tst [.int .i64 (.ofNat 8), .int .i64 (.negSucc m1), .bool a2] = true := by kernel_rfl
theorem s18 (m1 : Nat) (a2 : Bool) : tst [.int .i64 (.ofNat 8), .int .i64 (.ofNat (m1 + 5)), .bool a2] = true := by kernel_rfl
theorem s19 (m1 : Nat) (a2 : Bool) : tst [.int .i64 (.ofNat 9), .int .i64 (.negSucc m1), .bool a2] = true := by kernel_rfl
theorem s20 (m1 : Nat) (a2 : Bool) : tst [.int .i64 (.ofNat 9), .int .i64 (.ofNat (m1 + 5)), .bool a2] = true := by kernel_rfl
theorem s21 (m1 : Nat) (a2 : Bool) : tst [.int .i64 (.ofNat 10), .int .i64 (.negSucc m1), .bool a2] = true := by kernel_rfl
theorem s22 (m1 : Nat) (a2 : Bool) : tst [.int .i64 (.ofNat 10), .int .i64 (.ofNat (m1 + 5)), .bool a2] = true := by kernel_rfl
theorem s23 (m1 : Nat) (a2 : Bool) : tst [.int .i64 (.ofNat 11), .int .i64 (.negSucc m1), .bool a2] = true := by kernel_rfl
theorem s24 (m1 : Nat) (a2 : Bool) : tst [.int .i64 (.ofNat 11), .int .i64 (.ofNat (m1 + 5)), .bool a2] = true := by kernel_rfl
theorem s25 (m1 : Nat) (a2 : Bool) : tst [.int .i64 (.ofNat 12), .int .i64 (.negSucc m1), .bool a2] = true := by kernel_rfl
end Go.Proofs.YtmjhcnkngaglmaaGreatDoor.persistClears
