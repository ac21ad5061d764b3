/- SourceAble: the evaluator's answers, by the kernel. -/
import Derived.Test.YtdbibbchpdklcaaEvSourceAbleRun
import Derived.KernelRfl
namespace Go.Proofs.Ytdbibbchpdklcaa.sourceAble
open Go.YtdbibbchpdklcaaEv
set_option maxRecDepth 100000
theorem s120 (x0 : Nat) (h0 : x0 % 2 ^ 5 = 20) : tst [.low x0 5 20 h0, .int .i64 (.ofNat 3)] = true := by kernel_rfl
theorem s121 (x0 : Nat) (h0 : x0 % 2 ^ 5 = 21) : tst [.low x0 5 21 h0, .int .i64 (.ofNat 3)] = true := by kernel_rfl
theorem s122 (x0 : Nat) (h0 : x0 % 2 ^ 5 = 22) : tst [.low x0 5 22 h0, .int .i64 (.ofNat 3)] = true := by kernel_rfl
theorem s123 (x0 : Nat) (h0 : x0 % 2 ^ 5 = 23) : tst [.low x0 5 23 h0, .int .i64 (.ofNat 3)] = true := by kernel_rfl
theorem s124 (x0 : Nat) (h0 : x0 % 2 ^ 5 = 24) : tst [.low x0 5 24 h0, .int .i64 (.ofNat 3)] = true := by kernel_rfl
theorem s125 (x0 : Nat) (h0 : x0 % 2 ^ 5 = 25) : tst [.low x0 5 25 h0, .int .i64 (.ofNat 3)] = true := by kernel_rfl
theorem s126 (x0 : Nat) (h0 : x0 % 2 ^ 5 = 26) : tst [.low x0 5 26 h0, .int .i64 (.ofNat 3)] = true := by kernel_rfl
theorem s127 (x0 : Nat) (h0 : x0 % 2 ^ 5 = 27) : tst [.low x0 5 27 h0, .int .i64 (.ofNat 3)] = true := by kernel_rfl
theorem s128 (x0 : Nat) (h0 : x0 % 2 ^ 5 = 28) : tst [.low x0 5 28 h0, .int .i64 (.ofNat 3)] = true := by kernel_rfl
theorem s129 (x0 : Nat) (h0 : x0 % 2 ^ 5 = 29) : tst [.low x0 5 29 h0, .int .i64 (.ofNat 3)] = true := by kernel_rfl
theorem s130 (x0 : Nat) (h0 : x0 % 2 ^ 5 = 30) : tst [.low x0 5 30 h0, .int .i64 (.ofNat 3)] = true := by kernel_rfl
theorem s131 (x0 : Nat) (h0 : x0 % 2 ^ 5 = 31) : tst [.low x0 5 31 h0, .int .i64 (.ofNat 3)] = true := by kernel_rfl
theorem s132 (m0 : Nat) : tst [.int .i64 (.negSucc m0), .int .i64 (.ofNat 3)] = true := by kernel_rfl
theorem s133 (x0 : Nat) (h0 : x0 % 2 ^ 5 = 0) : tst [.low x0 5 0 h0, .int .i64 (.ofNat 4)] = true := by kernel_rfl
theorem s134 (x0 : Nat) (h0 : x0 % 2 ^ 5 = 1) : tst [.low x0 5 1 h0, .int .i64 (.ofNat 4)] = true := by kernel_rfl
theorem s135 (x0 : Nat) (h0 : x0 % 2 ^ 5 = 2) : tst [.low x0 5 2 h0, .int .i64 (.ofNat 4)] = true := by kernel_rfl
theorem s136 (x0 : Nat) (h0 : x0 % 2 ^ 5 = 3) : tst [.low x0 5 3 h0, .int .i64 (.ofNat 4)] = true := by kernel_rfl
theorem s137 (x0 : Nat) (h0 : x0 % 2 ^ 5 = 4) : tst [.low x0 5 4 h0, .int .i64 (.ofNat 4)] = true := by kernel_rfl
theorem s138 (x0 : Nat) (h0 : x0 % 2 ^ 5 = 5) : tst [.low x0 5 5 h0, .int .i64 (.ofNat 4)] = true := by kernel_rfl
theorem s139 (x0 : Nat) (h0 : x0 % 2 ^ 5 = 6) : tst [.low x0 5 6 h0, .int .i64 (.ofNat 4)] = true := by kernel_rfl
theorem s140 (x0 : Nat) (h0 : x0 % 2 ^ 5 = 7) : tst [.low x0 5 7 h0, .int .i64 (.ofNat 4)] = true := by kernel_rfl
theorem s141 (x0 : Nat) (h0 : x0 % 2 ^ 5 = 8) : tst [.low x0 5 8 h0, .int .i64 (.ofNat 4)] = true := by kernel_rfl
theorem s142 (x0 : Nat) (h0 : x0 % 2 ^ 5 = 9) : tst [.low x0 5 9 h0, .int .i64 (.ofNat 4)] = true := by kernel_rfl
theorem s143 (x0 : Nat) (h0 : x0 % 2 ^ 5 = 10) : tst [.low x0 5 10 h0, .int .i64 (.ofNat 4)] = true := by kernel_rfl
theorem s144 (x0 : Nat) (h0 : x0 % 2 ^ 5 = 11) : tst [.low x0 5 11 h0, .int .i64 (.ofNat 4)] = true := by kernel_rfl
theorem s145 (x0 : Nat) (h0 : x0 % 2 ^ 5 = 12) : tst [.low x0 5 12 h0, .int .i64 (.ofNat 4)] = true := by kernel_rfl
theorem s146 (x0 : Nat) (h0 : x0 % 2 ^ 5 = 13) : tst [.low x0 5 13 h0, .int .i64 (.ofNat 4)] = true := by kernel_rfl
theorem s147 (x0 : Nat) (h0 : x0 % 2 ^ 5 = 14) : tst [.low x0 5 14 h0, .int .i64 (.ofNat 4)] = true := by kernel_rfl
theorem s148 (x0 : Nat) (h0 : x0 % 2 ^ 5 = 15) : tst [.low x0 5 15 h0, .int .i64 (.ofNat 4)] = true := by kernel_rfl
theorem s149 (x0 : Nat) (h0 : x0 % 2 ^ 5 = 16) : tst [.low x0 5 16 h0, .int .i64 (.ofNat 4)] = true := by kernel_rfl
theorem s150 (x0 : Nat) (h0 : x0 % 2 ^ 5 = 17) : tst [.low x0 5 17 h0, .int .i64 (.ofNat 4)] = true := by kernel_rfl
theorem s151 (x0 : Nat) (h0 : x0 % 2 ^ 5 = 18) : tst [.low x0 5 18 h0, .int .i64 (.ofNat 4)] = true := by kernel_rfl
theorem s152 (x0 : Nat) (h0 : x0 % 2 ^ 5 = 19) : tst [.low x0 5 19 h0, .int .i64 (.ofNat 4)] = true := by kernel_rfl
theorem s153 (x0 : Nat) (h0 : x0 % 2 ^ 5 = 20) : tst [.low x0 5 20 h0, .int .i64 (.ofNat 4)] = true := by kernel_rfl
theorem s154 (x0 : Nat) (h0 : x0 % 2 ^ 5 = 21) : tst [.low x0 5 21 h0, .int .i64 (.ofNat 4)] = true := by kernel_rfl
theorem s155 (x0 : Nat) (h0 : x0 % 2 ^ 5 = 22) : tst [.low x0 5 22 h0, .int .i64 (.ofNat 4)] = true := by kernel_rfl
theorem s156 (x0 : Nat) (h0 : x0 % 2 ^ 5 = 23) : tst [.low x0 5 23 h0, .int .i64 (.ofNat 4)] = true := by kernel_rfl
theorem s157 (x0 : Nat) (h0 : x0 % 2 ^ 5 = 24) : tst [.low x0 5 24 h0, .int .i64 (.ofNat 4)] = true := by kernel_rfl
theorem s158 (x0 : Nat) (h0 : x0 % 2 ^ 5 = 25) : tst [.low x0 5 25 h0, .int .i64 (.ofNat 4)] = true := by kernel_rfl
theorem s159 (x0 : Nat) (h0 : x0 % 2 ^ 5 = 26) : tst [.low x0 5 26 h0, .int .i64 (.ofNat 4)] = true := by kernel_rfl
theorem s160 (x0 : Nat) (h0 : x0 % 2 ^ 5 = 27) : tst [.low x0 5 27 h0, .int .i64 (.ofNat 4)] = true := by kernel_rfl
theorem s161 (x0 : Nat) (h0 : x0 % 2 ^ 5 = 28) : tst [.low x0 5 28 h0, .int .i64 (.ofNat 4)] = true := by kernel_rfl
theorem s162 (x0 : Nat) (h0 : x0 % 2 ^ 5 = 29) : tst [.low x0 5 29 h0, .int .i64 (.ofNat 4)] = true := by kernel_rfl
theorem s163 (x0 : Nat) (h0 : x0 % 2 ^ 5 = 30) : tst [.low x0 5 30 h0, .int .i64 (.ofNat 4)] = true := by kernel_rfl
theorem s164 (x0 : Nat) (h0 : x0 % 2 ^ 5 = 31) : tst [.low x0 5 31 h0, .int .i64 (.ofNat 4)] = true := by kernel_rfl
theorem s165 (m0 : Nat) : tst [.int .i64 (.negSucc m0), .int .i64 (.ofNat 4)] = true := by kernel_rfl
theorem s166 (m1 : Nat) (a0 : Int) : tst [.int .i64 a0, .int .i64 (.ofNat (m1 + 5))] = true := by kernel_rfl
end Go.Proofs.Ytdbibbchpdklcaa.sourceAble
