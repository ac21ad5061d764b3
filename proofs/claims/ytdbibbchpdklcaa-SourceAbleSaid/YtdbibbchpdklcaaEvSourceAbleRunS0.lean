/- SourceAble: the evaluator's answers, by the kernel. -/
import Derived.Test.YtdbibbchpdklcaaEvSourceAbleRun
import Derived.KernelRfl
namespace Go.Proofs.Ytdbibbchpdklcaa.sourceAble
open Go.YtdbibbchpdklcaaEv
set_option maxRecDepth 100000
theorem s0 (m1 : Nat) (a0 : Int) : tst [.int .i64 a0, .int .i64 (.negSucc m1)] = true := by kernel_rfl
theorem s1 (x0 : Nat) (h0 : x0 % 2 ^ 5 = 0) : tst [.low x0 5 0 h0, .int .i64 (.ofNat 0)] = true := by kernel_rfl
theorem s2 (x0 : Nat) (h0 : x0 % 2 ^ 5 = 1) : tst [.low x0 5 1 h0, .int .i64 (.ofNat 0)] = true := by kernel_rfl
theorem s3 (x0 : Nat) (h0 : x0 % 2 ^ 5 = 2) : tst [.low x0 5 2 h0, .int .i64 (.ofNat 0)] = true := by kernel_rfl
theorem s4 (x0 : Nat) (h0 : x0 % 2 ^ 5 = 3) : tst [.low x0 5 3 h0, .int .i64 (.ofNat 0)] = true := by kernel_rfl
theorem s5 (x0 : Nat) (h0 : x0 % 2 ^ 5 = 4) : tst [.low x0 5 4 h0, .int .i64 (.ofNat 0)] = true := by kernel_rfl
theorem s6 (x0 : Nat) (h0 : x0 % 2 ^ 5 = 5) : tst [.low x0 5 5 h0, .int .i64 (.ofNat 0)] = true := by kernel_rfl
theorem s7 (x0 : Nat) (h0 : x0 % 2 ^ 5 = 6) : tst [.low x0 5 6 h0, .int .i64 (.ofNat 0)] = true := by kernel_rfl
theorem s8 (x0 : Nat) (h0 : x0 % 2 ^ 5 = 7) : tst [.low x0 5 7 h0, .int .i64 (.ofNat 0)] = true := by kernel_rfl
theorem s9 (x0 : Nat) (h0 : x0 % 2 ^ 5 = 8) : tst [.low x0 5 8 h0, .int .i64 (.ofNat 0)] = true := by kernel_rfl
theorem s10 (x0 : Nat) (h0 : x0 % 2 ^ 5 = 9) : tst [.low x0 5 9 h0, .int .i64 (.ofNat 0)] = true := by kernel_rfl
theorem s11 (x0 : Nat) (h0 : x0 % 2 ^ 5 = 10) : tst [.low x0 5 10 h0, .int .i64 (.ofNat 0)] = true := by kernel_rfl
theorem s12 (x0 : Nat) (h0 : x0 % 2 ^ 5 = 11) : tst [.low x0 5 11 h0, .int .i64 (.ofNat 0)] = true := by kernel_rfl
theorem s13 (x0 : Nat) (h0 : x0 % 2 ^ 5 = 12) : tst [.low x0 5 12 h0, .int .i64 (.ofNat 0)] = true := by kernel_rfl
theorem s14 (x0 : Nat) (h0 : x0 % 2 ^ 5 = 13) : tst [.low x0 5 13 h0, .int .i64 (.ofNat 0)] = true := by kernel_rfl
theorem s15 (x0 : Nat) (h0 : x0 % 2 ^ 5 = 14) : tst [.low x0 5 14 h0, .int .i64 (.ofNat 0)] = true := by kernel_rfl
theorem s16 (x0 : Nat) (h0 : x0 % 2 ^ 5 = 15) : tst [.low x0 5 15 h0, .int .i64 (.ofNat 0)] = true := by kernel_rfl
theorem s17 (x0 : Nat) (h0 : x0 % 2 ^ 5 = 16) : tst [.low x0 5 16 h0, .int .i64 (.ofNat 0)] = true := by kernel_rfl
theorem s18 (x0 : Nat) (h0 : x0 % 2 ^ 5 = 17) : tst [.low x0 5 17 h0, .int .i64 (.ofNat 0)] = true := by kernel_rfl
theorem s19 (x0 : Nat) (h0 : x0 % 2 ^ 5 = 18) : tst [.low x0 5 18 h0, .int .i64 (.ofNat 0)] = true := by kernel_rfl
theorem s20 (x0 : Nat) (h0 : x0 % 2 ^ 5 = 19) : tst [.low x0 5 19 h0, .int .i64 (.ofNat 0)] = true := by kernel_rfl
theorem s21 (x0 : Nat) (h0 : x0 % 2 ^ 5 = 20) : tst [.low x0 5 20 h0, .int .i64 (.ofNat 0)] = true := by kernel_rfl
theorem s22 (x0 : Nat) (h0 : x0 % 2 ^ 5 = 21) : tst [.low x0 5 21 h0, .int .i64 (.ofNat 0)] = true := by kernel_rfl
theorem s23 (x0 : Nat) (h0 : x0 % 2 ^ 5 = 22) : tst [.low x0 5 22 h0, .int .i64 (.ofNat 0)] = true := by kernel_rfl
theorem s24 (x0 : Nat) (h0 : x0 % 2 ^ 5 = 23) : tst [.low x0 5 23 h0, .int .i64 (.ofNat 0)] = true := by kernel_rfl
theorem s25 (x0 : Nat) (h0 : x0 % 2 ^ 5 = 24) : tst [.low x0 5 24 h0, .int .i64 (.ofNat 0)] = true := by kernel_rfl
theorem s26 (x0 : Nat) (h0 : x0 % 2 ^ 5 = 25) : tst [.low x0 5 25 h0, .int .i64 (.ofNat 0)] = true := by kernel_rfl
theorem s27 (x0 : Nat) (h0 : x0 % 2 ^ 5 = 26) : tst [.low x0 5 26 h0, .int .i64 (.ofNat 0)] = true := by kernel_rfl
theorem s28 (x0 : Nat) (h0 : x0 % 2 ^ 5 = 27) : tst [.low x0 5 27 h0, .int .i64 (.ofNat 0)] = true := by kernel_rfl
theorem s29 (x0 : Nat) (h0 : x0 % 2 ^ 5 = 28) : tst [.low x0 5 28 h0, .int .i64 (.ofNat 0)] = true := by kernel_rfl
theorem s30 (x0 : Nat) (h0 : x0 % 2 ^ 5 = 29) : tst [.low x0 5 29 h0, .int .i64 (.ofNat 0)] = true := by kernel_rfl
theorem s31 (x0 : Nat) (h0 : x0 % 2 ^ 5 = 30) : tst [.low x0 5 30 h0, .int .i64 (.ofNat 0)] = true := by kernel_rfl
theorem s32 (x0 : Nat) (h0 : x0 % 2 ^ 5 = 31) : tst [.low x0 5 31 h0, .int .i64 (.ofNat 0)] = true := by kernel_rfl
theorem s33 (m0 : Nat) : tst [.int .i64 (.negSucc m0), .int .i64 (.ofNat 0)] = true := by kernel_rfl
theorem s34 (x0 : Nat) (h0 : x0 % 2 ^ 5 = 0) : tst [.low x0 5 0 h0, .int .i64 (.ofNat 1)] = true := by kernel_rfl
theorem s35 (x0 : Nat) (h0 : x0 % 2 ^ 5 = 1) : tst [.low x0 5 1 h0, .int .i64 (.ofNat 1)] = true := by kernel_rfl
theorem s36 (x0 : Nat) (h0 : x0 % 2 ^ 5 = 2) : tst [.low x0 5 2 h0, .int .i64 (.ofNat 1)] = true := by kernel_rfl
theorem s37 (x0 : Nat) (h0 : x0 % 2 ^ 5 = 3) : tst [.low x0 5 3 h0, .int .i64 (.ofNat 1)] = true := by kernel_rfl
theorem s38 (x0 : Nat) (h0 : x0 % 2 ^ 5 = 4) : tst [.low x0 5 4 h0, .int .i64 (.ofNat 1)] = true := by kernel_rfl
theorem s39 (x0 : Nat) (h0 : x0 % 2 ^ 5 = 5) : tst [.low x0 5 5 h0, .int .i64 (.ofNat 1)] = true := by kernel_rfl
theorem s40 (x0 : Nat) (h0 : x0 % 2 ^ 5 = 6) : tst [.low x0 5 6 h0, .int .i64 (.ofNat 1)] = true := by kernel_rfl
theorem s41 (x0 : Nat) (h0 : x0 % 2 ^ 5 = 7) : tst [.low x0 5 7 h0, .int .i64 (.ofNat 1)] = true := by kernel_rfl
theorem s42 (x0 : Nat) (h0 : x0 % 2 ^ 5 = 8) : tst [.low x0 5 8 h0, .int .i64 (.ofNat 1)] = true := by kernel_rfl
theorem s43 (x0 : Nat) (h0 : x0 % 2 ^ 5 = 9) : tst [.low x0 5 9 h0, .int .i64 (.ofNat 1)] = true := by kernel_rfl
theorem s44 (x0 : Nat) (h0 : x0 % 2 ^ 5 = 10) : tst [.low x0 5 10 h0, .int .i64 (.ofNat 1)] = true := by kernel_rfl
theorem s45 (x0 : Nat) (h0 : x0 % 2 ^ 5 = 11) : tst [.low x0 5 11 h0, .int .i64 (.ofNat 1)] = true := by kernel_rfl
theorem s46 (x0 : Nat) (h0 : x0 % 2 ^ 5 = 12) : tst [.low x0 5 12 h0, .int .i64 (.ofNat 1)] = true := by kernel_rfl
theorem s47 (x0 : Nat) (h0 : x0 % 2 ^ 5 = 13) : tst [.low x0 5 13 h0, .int .i64 (.ofNat 1)] = true := by kernel_rfl
theorem s48 (x0 : Nat) (h0 : x0 % 2 ^ 5 = 14) : tst [.low x0 5 14 h0, .int .i64 (.ofNat 1)] = true := by kernel_rfl
theorem s49 (x0 : Nat) (h0 : x0 % 2 ^ 5 = 15) : tst [.low x0 5 15 h0, .int .i64 (.ofNat 1)] = true := by kernel_rfl
theorem s50 (x0 : Nat) (h0 : x0 % 2 ^ 5 = 16) : tst [.low x0 5 16 h0, .int .i64 (.ofNat 1)] = true := by kernel_rfl
theorem s51 (x0 : Nat) (h0 : x0 % 2 ^ 5 = 17) : tst [.low x0 5 17 h0, .int .i64 (.ofNat 1)] = true := by kernel_rfl
theorem s52 (x0 : Nat) (h0 : x0 % 2 ^ 5 = 18) : tst [.low x0 5 18 h0, .int .i64 (.ofNat 1)] = true := by kernel_rfl
theorem s53 (x0 : Nat) (h0 : x0 % 2 ^ 5 = 19) : tst [.low x0 5 19 h0, .int .i64 (.ofNat 1)] = true := by kernel_rfl
theorem s54 (x0 : Nat) (h0 : x0 % 2 ^ 5 = 20) : tst [.low x0 5 20 h0, .int .i64 (.ofNat 1)] = true := by kernel_rfl
theorem s55 (x0 : Nat) (h0 : x0 % 2 ^ 5 = 21) : tst [.low x0 5 21 h0, .int .i64 (.ofNat 1)] = true := by kernel_rfl
theorem s56 (x0 : Nat) (h0 : x0 % 2 ^ 5 = 22) : tst [.low x0 5 22 h0, .int .i64 (.ofNat 1)] = true := by kernel_rfl
theorem s57 (x0 : Nat) (h0 : x0 % 2 ^ 5 = 23) : tst [.low x0 5 23 h0, .int .i64 (.ofNat 1)] = true := by kernel_rfl
theorem s58 (x0 : Nat) (h0 : x0 % 2 ^ 5 = 24) : tst [.low x0 5 24 h0, .int .i64 (.ofNat 1)] = true := by kernel_rfl
theorem s59 (x0 : Nat) (h0 : x0 % 2 ^ 5 = 25) : tst [.low x0 5 25 h0, .int .i64 (.ofNat 1)] = true := by kernel_rfl
end Go.Proofs.Ytdbibbchpdklcaa.sourceAble
