/- ChainDeps: the evaluator's answers, by the kernel. -/
import Derived.Test.YtmjbaanljfbobaaEvChainDepsRun
import Derived.KernelRfl
namespace Go.Proofs.Ytmjbaanljfbobaa.chainDeps
open Go.YtmjbaanljfbobaaEv
set_option maxRecDepth 100000
theorem g44 : tsts [[.int .i64 (.ofNat 6), .int .i64 (.ofNat 4)]] = true := by kernel_rfl
theorem g44_0 : tst [.int .i64 (.ofNat 6), .int .i64 (.ofNat 4)] = true := (tsts_cons g44).1
theorem g45 : tsts [[.int .i64 (.ofNat 6), .int .i64 (.ofNat 5)]] = true := by kernel_rfl
theorem g45_0 : tst [.int .i64 (.ofNat 6), .int .i64 (.ofNat 5)] = true := (tsts_cons g45).1
theorem g46 : tsts [[.int .i64 (.ofNat 6), .int .i64 (.ofNat 6)]] = true := by kernel_rfl
theorem g46_0 : tst [.int .i64 (.ofNat 6), .int .i64 (.ofNat 6)] = true := (tsts_cons g46).1
theorem g47 : tsts [[.int .i64 (.ofNat 6), .int .i64 (.ofNat 7)]] = true := by kernel_rfl
theorem g47_0 : tst [.int .i64 (.ofNat 6), .int .i64 (.ofNat 7)] = true := (tsts_cons g47).1
theorem g48 : tsts [[.int .i64 (.ofNat 7), .int .i64 (.ofNat 0)]] = true := by kernel_rfl
theorem g48_0 : tst [.int .i64 (.ofNat 7), .int .i64 (.ofNat 0)] = true := (tsts_cons g48).1
theorem g49 : tsts [[.int .i64 (.ofNat 7), .int .i64 (.ofNat 1)]] = true := by kernel_rfl
theorem g49_0 : tst [.int .i64 (.ofNat 7), .int .i64 (.ofNat 1)] = true := (tsts_cons g49).1
theorem g50 : tsts [[.int .i64 (.ofNat 7), .int .i64 (.ofNat 2)]] = true := by kernel_rfl
theorem g50_0 : tst [.int .i64 (.ofNat 7), .int .i64 (.ofNat 2)] = true := (tsts_cons g50).1
theorem g51 : tsts [[.int .i64 (.ofNat 7), .int .i64 (.ofNat 3)]] = true := by kernel_rfl
theorem g51_0 : tst [.int .i64 (.ofNat 7), .int .i64 (.ofNat 3)] = true := (tsts_cons g51).1
theorem g52 : tsts [[.int .i64 (.ofNat 7), .int .i64 (.ofNat 4)]] = true := by kernel_rfl
theorem g52_0 : tst [.int .i64 (.ofNat 7), .int .i64 (.ofNat 4)] = true := (tsts_cons g52).1
theorem g53 : tsts [[.int .i64 (.ofNat 7), .int .i64 (.ofNat 5)]] = true := by kernel_rfl
theorem g53_0 : tst [.int .i64 (.ofNat 7), .int .i64 (.ofNat 5)] = true := (tsts_cons g53).1
theorem g54 : tsts [[.int .i64 (.ofNat 7), .int .i64 (.ofNat 6)]] = true := by kernel_rfl
theorem g54_0 : tst [.int .i64 (.ofNat 7), .int .i64 (.ofNat 6)] = true := (tsts_cons g54).1
theorem g55 : tsts [[.int .i64 (.ofNat 7), .int .i64 (.ofNat 7)]] = true := by kernel_rfl
theorem g55_0 : tst [.int .i64 (.ofNat 7), .int .i64 (.ofNat 7)] = true := (tsts_cons g55).1
theorem g56 : tsts [[.int .i64 (.ofNat 8), .int .i64 (.ofNat 0)]] = true := by kernel_rfl
theorem g56_0 : tst [.int .i64 (.ofNat 8), .int .i64 (.ofNat 0)] = true := (tsts_cons g56).1
theorem g57 : tsts [[.int .i64 (.ofNat 8), .int .i64 (.ofNat 1)]] = true := by kernel_rfl
theorem g57_0 : tst [.int .i64 (.ofNat 8), .int .i64 (.ofNat 1)] = true := (tsts_cons g57).1
theorem g58 : tsts [[.int .i64 (.ofNat 8), .int .i64 (.ofNat 2)]] = true := by kernel_rfl
theorem g58_0 : tst [.int .i64 (.ofNat 8), .int .i64 (.ofNat 2)] = true := (tsts_cons g58).1
theorem g59 : tsts [[.int .i64 (.ofNat 8), .int .i64 (.ofNat 3)]] = true := by kernel_rfl
theorem g59_0 : tst [.int .i64 (.ofNat 8), .int .i64 (.ofNat 3)] = true := (tsts_cons g59).1
theorem g60 : tsts [[.int .i64 (.ofNat 8), .int .i64 (.ofNat 4)]] = true := by kernel_rfl
theorem g60_0 : tst [.int .i64 (.ofNat 8), .int .i64 (.ofNat 4)] = true := (tsts_cons g60).1
theorem g61 : tsts [[.int .i64 (.ofNat 8), .int .i64 (.ofNat 5)]] = true := by kernel_rfl
theorem g61_0 : tst [.int .i64 (.ofNat 8), .int .i64 (.ofNat 5)] = true := (tsts_cons g61).1
theorem g62 : tsts [[.int .i64 (.ofNat 8), .int .i64 (.ofNat 6)]] = true := by kernel_rfl
theorem g62_0 : tst [.int .i64 (.ofNat 8), .int .i64 (.ofNat 6)] = true := (tsts_cons g62).1
theorem g63 : tsts [[.int .i64 (.ofNat 8), .int .i64 (.ofNat 7)]] = true := by kernel_rfl
theorem g63_0 : tst [.int .i64 (.ofNat 8), .int .i64 (.ofNat 7)] = true := (tsts_cons g63).1
end Go.Proofs.Ytmjbaanljfbobaa.chainDeps
