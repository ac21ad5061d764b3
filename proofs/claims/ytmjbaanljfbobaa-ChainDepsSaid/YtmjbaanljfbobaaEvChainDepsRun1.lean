/- ChainDeps: the evaluator's answers, by the kernel. -/
import Derived.Test.YtmjbaanljfbobaaEvChainDepsRun
import Derived.KernelRfl
namespace Go.Proofs.Ytmjbaanljfbobaa.chainDeps
open Go.YtmjbaanljfbobaaEv
set_option maxRecDepth 100000
theorem g22 : tsts [[.int .i64 (.ofNat 3), .int .i64 (.ofNat 6)]] = true := by kernel_rfl
theorem g22_0 : tst [.int .i64 (.ofNat 3), .int .i64 (.ofNat 6)] = true := (tsts_cons g22).1
theorem g23 : tsts [[.int .i64 (.ofNat 3), .int .i64 (.ofNat 7)]] = true := by kernel_rfl
theorem g23_0 : tst [.int .i64 (.ofNat 3), .int .i64 (.ofNat 7)] = true := (tsts_cons g23).1
theorem g24 : tsts [[.int .i64 (.ofNat 4), .int .i64 (.ofNat 0)]] = true := by kernel_rfl
theorem g24_0 : tst [.int .i64 (.ofNat 4), .int .i64 (.ofNat 0)] = true := (tsts_cons g24).1
theorem g25 : tsts [[.int .i64 (.ofNat 4), .int .i64 (.ofNat 1)]] = true := by kernel_rfl
theorem g25_0 : tst [.int .i64 (.ofNat 4), .int .i64 (.ofNat 1)] = true := (tsts_cons g25).1
theorem g26 : tsts [[.int .i64 (.ofNat 4), .int .i64 (.ofNat 2)]] = true := by kernel_rfl
theorem g26_0 : tst [.int .i64 (.ofNat 4), .int .i64 (.ofNat 2)] = true := (tsts_cons g26).1
theorem g27 : tsts [[.int .i64 (.ofNat 4), .int .i64 (.ofNat 3)]] = true := by kernel_rfl
theorem g27_0 : tst [.int .i64 (.ofNat 4), .int .i64 (.ofNat 3)] = true := (tsts_cons g27).1
theorem g28 : tsts [[.int .i64 (.ofNat 4), .int .i64 (.ofNat 4)]] = true := by kernel_rfl
theorem g28_0 : tst [.int .i64 (.ofNat 4), .int .i64 (.ofNat 4)] = true := (tsts_cons g28).1
theorem g29 : tsts [[.int .i64 (.ofNat 4), .int .i64 (.ofNat 5)]] = true := by kernel_rfl
theorem g29_0 : tst [.int .i64 (.ofNat 4), .int .i64 (.ofNat 5)] = true := (tsts_cons g29).1
theorem g30 : tsts [[.int .i64 (.ofNat 4), .int .i64 (.ofNat 6)]] = true := by kernel_rfl
theorem g30_0 : tst [.int .i64 (.ofNat 4), .int .i64 (.ofNat 6)] = true := (tsts_cons g30).1
theorem g31 : tsts [[.int .i64 (.ofNat 4), .int .i64 (.ofNat 7)]] = true := by kernel_rfl
theorem g31_0 : tst [.int .i64 (.ofNat 4), .int .i64 (.ofNat 7)] = true := (tsts_cons g31).1
theorem g32 : tsts [[.int .i64 (.ofNat 5), .int .i64 (.ofNat 0)]] = true := by kernel_rfl
theorem g32_0 : tst [.int .i64 (.ofNat 5), .int .i64 (.ofNat 0)] = true := (tsts_cons g32).1
theorem g33 : tsts [[.int .i64 (.ofNat 5), .int .i64 (.ofNat 1)]] = true := by kernel_rfl
theorem g33_0 : tst [.int .i64 (.ofNat 5), .int .i64 (.ofNat 1)] = true := (tsts_cons g33).1
theorem g34 : tsts [[.int .i64 (.ofNat 5), .int .i64 (.ofNat 2)]] = true := by kernel_rfl
theorem g34_0 : tst [.int .i64 (.ofNat 5), .int .i64 (.ofNat 2)] = true := (tsts_cons g34).1
theorem g35 : tsts [[.int .i64 (.ofNat 5), .int .i64 (.ofNat 3)]] = true := by kernel_rfl
theorem g35_0 : tst [.int .i64 (.ofNat 5), .int .i64 (.ofNat 3)] = true := (tsts_cons g35).1
theorem g36 : tsts [[.int .i64 (.ofNat 5), .int .i64 (.ofNat 4)]] = true := by kernel_rfl
theorem g36_0 : tst [.int .i64 (.ofNat 5), .int .i64 (.ofNat 4)] = true := (tsts_cons g36).1
theorem g37 : tsts [[.int .i64 (.ofNat 5), .int .i64 (.ofNat 5)]] = true := by kernel_rfl
theorem g37_0 : tst [.int .i64 (.ofNat 5), .int .i64 (.ofNat 5)] = true := (tsts_cons g37).1
theorem g38 : tsts [[.int .i64 (.ofNat 5), .int .i64 (.ofNat 6)]] = true := by kernel_rfl
theorem g38_0 : tst [.int .i64 (.ofNat 5), .int .i64 (.ofNat 6)] = true := (tsts_cons g38).1
theorem g39 : tsts [[.int .i64 (.ofNat 5), .int .i64 (.ofNat 7)]] = true := by kernel_rfl
theorem g39_0 : tst [.int .i64 (.ofNat 5), .int .i64 (.ofNat 7)] = true := (tsts_cons g39).1
theorem g40 : tsts [[.int .i64 (.ofNat 6), .int .i64 (.ofNat 0)]] = true := by kernel_rfl
theorem g40_0 : tst [.int .i64 (.ofNat 6), .int .i64 (.ofNat 0)] = true := (tsts_cons g40).1
theorem g41 : tsts [[.int .i64 (.ofNat 6), .int .i64 (.ofNat 1)]] = true := by kernel_rfl
theorem g41_0 : tst [.int .i64 (.ofNat 6), .int .i64 (.ofNat 1)] = true := (tsts_cons g41).1
theorem g42 : tsts [[.int .i64 (.ofNat 6), .int .i64 (.ofNat 2)]] = true := by kernel_rfl
theorem g42_0 : tst [.int .i64 (.ofNat 6), .int .i64 (.ofNat 2)] = true := (tsts_cons g42).1
theorem g43 : tsts [[.int .i64 (.ofNat 6), .int .i64 (.ofNat 3)]] = true := by kernel_rfl
theorem g43_0 : tst [.int .i64 (.ofNat 6), .int .i64 (.ofNat 3)] = true := (tsts_cons g43).1
end Go.Proofs.Ytmjbaanljfbobaa.chainDeps
