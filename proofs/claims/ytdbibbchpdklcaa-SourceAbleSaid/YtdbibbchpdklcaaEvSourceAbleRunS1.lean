/- SourceAble: the evaluator's answers, by the kernel. -/
import Derived.Test.YtdbibbchpdklcaaEvSourceAbleRun
import Derived.KernelRfl
namespace Go.Proofs.Ytdbibbchpdklcaa.sourceAble
open Go.YtdbibbchpdklcaaEv
set_option maxRecDepth 100000
theorem s60 (x0 : Nat) (h0 : x0 % 2 ^ 5 = 26) : tst [.low x0 5 26 h0, .int .i64 (.ofNat 1)] = true := by kernel_rfl
theorem s61 (x0 : Nat) (h0 : x0 % 2 ^ 5 = 27) : tst [.low x0 5 27 h0, .int .i64 (.ofNat 1)] = true := by kernel_rfl
theorem s62 (x0 : Nat) (h0 : x0 % 2 ^ 5 = 28) : tst [.low x0 5 28 h0, .int .i64 (.ofNat 1)] = true := by kernel_rfl
theorem s63 (x0 : Nat) (h0 : x0 % 2 ^ 5 = 29) : tst [.low x0 5 29 h0, .int .i64 (.ofNat 1)] = true := by kernel_rfl
theorem s64 (x0 : Nat) (h0 : x0 % 2 ^ 5 = 30) : tst [.low x0 5 30 h0, .int .i64 (.ofNat 1)] = true := by kernel_rfl
theorem s65 (x0 : Nat) (h0 : x0 % 2 ^ 5 = 31) : tst [.low x0 5 31 h0, .int .i64 (.ofNat 1)] = true := by kernel_rfl
theorem s66 (m0 : Nat) : tst [.int .i64 (.negSucc m0), .int .i64 (.ofNat 1)] = true := by kernel_rfl
theorem s67 (x0 : Nat) (h0 : x0 % 2 ^ 5 = 0) : tst [.low x0 5 0 h0, .int .i64 (.ofNat 2)] = true := by kernel_rfl
theorem s68 (x0 : Nat) (h0 : x0 % 2 ^ 5 = 1) : tst [.low x0 5 1 h0, .int .i64 (.ofNat 2)] = true := by kernel_rfl
theorem s69 (x0 : Nat) (h0 : x0 % 2 ^ 5 = 2) : tst [.low x0 5 2 h0, .int .i64 (.ofNat 2)] = true := by kernel_rfl
theorem s70 (x0 : Nat) (h0 : x0 % 2 ^ 5 = 3) : tst [.low x0 5 3 h0, .int .i64 (.ofNat 2)] = true := by kernel_rfl
theorem s71 (x0 : Nat) (h0 : x0 % 2 ^ 5 = 4) : tst [.low x0 5 4 h0, .int .i64 (.ofNat 2)] = true := by kernel_rfl
theorem s72 (x0 : Nat) (h0 : x0 % 2 ^ 5 = 5) : tst [.low x0 5 5 h0, .int .i64 (.ofNat 2)] = true := by kernel_rfl
theorem s73 (x0 : Nat) (h0 : x0 % 2 ^ 5 = 6) : tst [.low x0 5 6 h0, .int .i64 (.ofNat 2)] = true := by kernel_rfl
theorem s74 (x0 : Nat) (h0 : x0 % 2 ^ 5 = 7) : tst [.low x0 5 7 h0, .int .i64 (.ofNat 2)] = true := by kernel_rfl
theorem s75 (x0 : Nat) (h0 : x0 % 2 ^ 5 = 8) : tst [.low x0 5 8 h0, .int .i64 (.ofNat 2)] = true := by kernel_rfl
theorem s76 (x0 : Nat) (h0 : x0 % 2 ^ 5 = 9) : tst [.low x0 5 9 h0, .int .i64 (.ofNat 2)] = true := by kernel_rfl
theorem s77 (x0 : Nat) (h0 : x0 % 2 ^ 5 = 10) : tst [.low x0 5 10 h0, .int .i64 (.ofNat 2)] = true := by kernel_rfl
theorem s78 (x0 : Nat) (h0 : x0 % 2 ^ 5 = 11) : tst [.low x0 5 11 h0, .int .i64 (.ofNat 2)] = true := by kernel_rfl
theorem s79 (x0 : Nat) (h0 : x0 % 2 ^ 5 = 12) : tst [.low x0 5 12 h0, .int .i64 (.ofNat 2)] = true := by kernel_rfl
theorem s80 (x0 : Nat) (h0 : x0 % 2 ^ 5 = 13) : tst [.low x0 5 13 h0, .int .i64 (.ofNat 2)] = true := by kernel_rfl
theorem s81 (x0 : Nat) (h0 : x0 % 2 ^ 5 = 14) : tst [.low x0 5 14 h0, .int .i64 (.ofNat 2)] = true := by kernel_rfl
theorem s82 (x0 : Nat) (h0 : x0 % 2 ^ 5 = 15) : tst [.low x0 5 15 h0, .int .i64 (.ofNat 2)] = true := by kernel_rfl
theorem s83 (x0 : Nat) (h0 : x0 % 2 ^ 5 = 16) : tst [.low x0 5 16 h0, .int .i64 (.ofNat 2)] = true := by kernel_rfl
theorem s84 (x0 : Nat) (h0 : x0 % 2 ^ 5 = 17) : tst [.low x0 5 17 h0, .int .i64 (.ofNat 2)] = true := by kernel_rfl
theorem s85 (x0 : Nat) (h0 : x0 % 2 ^ 5 = 18) : tst [.low x0 5 18 h0, .int .i64 (.ofNat 2)] = true := by kernel_rfl
theorem s86 (x0 : Nat) (h0 : x0 % 2 ^ 5 = 19) : tst [.low x0 5 19 h0, .int .i64 (.ofNat 2)] = true := by kernel_rfl
theorem s87 (x0 : Nat) (h0 : x0 % 2 ^ 5 = 20) : tst [.low x0 5 20 h0, .int .i64 (.ofNat 2)] = true := by kernel_rfl
theorem s88 (x0 : Nat) (h0 : x0 % 2 ^ 5 = 21) : tst [.low x0 5 21 h0, .int .i64 (.ofNat 2)] = true := by kernel_rfl
theorem s89 (x0 : Nat) (h0 : x0 % 2 ^ 5 = 22) : tst [.low x0 5 22 h0, .int .i64 (.ofNat 2)] = true := by kernel_rfl
theorem s90 (x0 : Nat) (h0 : x0 % 2 ^ 5 = 23) : tst [.low x0 5 23 h0, .int .i64 (.ofNat 2)] = true := by kernel_rfl
theorem s91 (x0 : Nat) (h0 : x0 % 2 ^ 5 = 24) : tst [.low x0 5 24 h0, .int .i64 (.ofNat 2)] = true := by kernel_rfl
theorem s92 (x0 : Nat) (h0 : x0 % 2 ^ 5 = 25) : tst [.low x0 5 25 h0, .int .i64 (.ofNat 2)] = true := by kernel_rfl
theorem s93 (x0 : Nat) (h0 : x0 % 2 ^ 5 = 26) : tst [.low x0 5 26 h0, .int .i64 (.ofNat 2)] = true := by kernel_rfl
theorem s94 (x0 : Nat) (h0 : x0 % 2 ^ 5 = 27) : tst [.low x0 5 27 h0, .int .i64 (.ofNat 2)] = true := by kernel_rfl
theorem s95 (x0 : Nat) (h0 : x0 % 2 ^ 5 = 28) : tst [.low x0 5 28 h0, .int .i64 (.ofNat 2)] = true := by kernel_rfl
theorem s96 (x0 : Nat) (h0 : x0 % 2 ^ 5 = 29) : tst [.low x0 5 29 h0, .int .i64 (.ofNat 2)] = true := by kernel_rfl
theorem s97 (x0 : Nat) (h0 : x0 % 2 ^ 5 = 30) : tst [.low x0 5 30 h0, .int .i64 (.ofNat 2)] = true := by kernel_rfl
theorem s98 (x0 : Nat) (h0 : x0 % 2 ^ 5 = 31) : tst [.low x0 5 31 h0, .int .i64 (.ofNat 2)] = true := by kernel_rfl
theorem s99 (m0 : Nat) : tst [.int .i64 (.negSucc m0), .int .i64 (.ofNat 2)] = true := by kernel_rfl
theorem s100 (x0 : Nat) (h0 : x0 % 2 ^ 5 = 0) : tst [.low x0 5 0 h0, .int .i64 (.ofNat 3)] = true := by kernel_rfl
theorem s101 (x0 : Nat) (h0 : x0 % 2 ^ 5 = 1) : tst [.low x0 5 1 h0, .int .i64 (.ofNat 3)] = true := by kernel_rfl
theorem s102 (x0 : Nat) (h0 : x0 % 2 ^ 5 = 2) : tst [.low x0 5 2 h0, .int .i64 (.ofNat 3)] = true := by kernel_rfl
theorem s103 (x0 : Nat) (h0 : x0 % 2 ^ 5 = 3) : tst [.low x0 5 3 h0, .int .i64 (.ofNat 3)] = true := by kernel_rfl
theorem s104 (x0 : Nat) (h0 : x0 % 2 ^ 5 = 4) : tst [.low x0 5 4 h0, .int .i64 (.ofNat 3)] = true := by kernel_rfl
theorem s105 (x0 : Nat) (h0 : x0 % 2 ^ 5 = 5) : tst [.low x0 5 5 h0, .int .i64 (.ofNat 3)] = true := by kernel_rfl
theorem s106 (x0 : Nat) (h0 : x0 % 2 ^ 5 = 6) : tst [.low x0 5 6 h0, .int .i64 (.ofNat 3)] = true := by kernel_rfl
theorem s107 (x0 : Nat) (h0 : x0 % 2 ^ 5 = 7) : tst [.low x0 5 7 h0, .int .i64 (.ofNat 3)] = true := by kernel_rfl
theorem s108 (x0 : Nat) (h0 : x0 % 2 ^ 5 = 8) : tst [.low x0 5 8 h0, .int .i64 (.ofNat 3)] = true := by kernel_rfl
theorem s109 (x0 : Nat) (h0 : x0 % 2 ^ 5 = 9) : tst [.low x0 5 9 h0, .int .i64 (.ofNat 3)] = true := by kernel_rfl
theorem s110 (x0 : Nat) (h0 : x0 % 2 ^ 5 = 10) : tst [.low x0 5 10 h0, .int .i64 (.ofNat 3)] = true := by kernel_rfl
theorem s111 (x0 : Nat) (h0 : x0 % 2 ^ 5 = 11) : tst [.low x0 5 11 h0, .int .i64 (.ofNat 3)] = true := by kernel_rfl
theorem s112 (x0 : Nat) (h0 : x0 % 2 ^ 5 = 12) : tst [.low x0 5 12 h0, .int .i64 (.ofNat 3)] = true := by kernel_rfl
theorem s113 (x0 : Nat) (h0 : x0 % 2 ^ 5 = 13) : tst [.low x0 5 13 h0, .int .i64 (.ofNat 3)] = true := by kernel_rfl
theorem s114 (x0 : Nat) (h0 : x0 % 2 ^ 5 = 14) : tst [.low x0 5 14 h0, .int .i64 (.ofNat 3)] = true := by kernel_rfl
theorem s115 (x0 : Nat) (h0 : x0 % 2 ^ 5 = 15) : tst [.low x0 5 15 h0, .int .i64 (.ofNat 3)] = true := by kernel_rfl
theorem s116 (x0 : Nat) (h0 : x0 % 2 ^ 5 = 16) : tst [.low x0 5 16 h0, .int .i64 (.ofNat 3)] = true := by kernel_rfl
theorem s117 (x0 : Nat) (h0 : x0 % 2 ^ 5 = 17) : tst [.low x0 5 17 h0, .int .i64 (.ofNat 3)] = true := by kernel_rfl
theorem s118 (x0 : Nat) (h0 : x0 % 2 ^ 5 = 18) : tst [.low x0 5 18 h0, .int .i64 (.ofNat 3)] = true := by kernel_rfl
theorem s119 (x0 : Nat) (h0 : x0 % 2 ^ 5 = 19) : tst [.low x0 5 19 h0, .int .i64 (.ofNat 3)] = true := by kernel_rfl
end Go.Proofs.Ytdbibbchpdklcaa.sourceAble
