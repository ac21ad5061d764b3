/- ChainDeps: the evaluator's answers, by the kernel. -/
import Derived.Test.YtmjbaanljfbobaaEvChainDepsRun
import Derived.KernelRfl
namespace Go.Proofs.Ytmjbaanljfbobaa.chainDeps
open Go.YtmjbaanljfbobaaEv
set_option maxRecDepth 100000
theorem g0 : tsts [[.int .i64 (.ofNat 1), .int .i64 (.ofNat 0)]] = true := by kernel_rfl
theorem g0_0 : tst [.int .i64 (.ofNat 1), .int .i64 (.ofNat 0)] = true := (tsts_cons g0).1
theorem g1 : tsts [[.int .i64 (.ofNat 1), .int .i64 (.ofNat 1)]] = true := by kernel_rfl
theorem g1_0 : tst [.int .i64 (.ofNat 1), .int .i64 (.ofNat 1)] = true := (tsts_cons g1).1
theorem g2 : tsts [[.int .i64 (.ofNat 1), .int .i64 (.ofNat 2)]] = true := by kernel_rfl
theorem g2_0 : tst [.int .i64 (.ofNat 1), .int .i64 (.ofNat 2)] = true := (tsts_cons g2).1
theorem g3 : tsts [[.int .i64 (.ofNat 1), .int .i64 (.ofNat 3)]] = true := by kernel_rfl
theorem g3_0 : tst [.int .i64 (.ofNat 1), .int .i64 (.ofNat 3)] = true := (tsts_cons g3).1
theorem g4 : tsts [[.int .i64 (.ofNat 1), .int .i64 (.ofNat 4)]] = true := by kernel_rfl
theorem g4_0 : tst [.int .i64 (.ofNat 1), .int .i64 (.ofNat 4)] = true := (tsts_cons g4).1
theorem g5 : tsts [[.int .i64 (.ofNat 1), .int .i64 (.ofNat 5)]] = true := by kernel_rfl
theorem g5_0 : tst [.int .i64 (.ofNat 1), .int .i64 (.ofNat 5)] = true := (tsts_cons g5).1
theorem g6 : tsts [[.int .i64 (.ofNat 1), .int .i64 (.ofNat 6)]] = true := by kernel_rfl
theorem g6_0 : tst [.int .i64 (.ofNat 1), .int .i64 (.ofNat 6)] = true := (tsts_cons g6).1
theorem g7 : tsts [[.int .i64 (.ofNat 1), .int .i64 (.ofNat 7)]] = true := by kernel_rfl
theorem g7_0 : tst [.int .i64 (.ofNat 1), .int .i64 (.ofNat 7)] = true := (tsts_cons g7).1
theorem g8 : tsts [[.int .i64 (.ofNat 2), .int .i64 (.ofNat 0)]] = true := by kernel_rfl
theorem g8_0 : tst [.int .i64 (.ofNat 2), .int .i64 (.ofNat 0)] = true := (tsts_cons g8).1
theorem g9 : tsts [[.int .i64 (.ofNat 2), .int .i64 (.ofNat 1)]] = true := by kernel_rfl
theorem g9_0 : tst [.int .i64 (.ofNat 2), .int .i64 (.ofNat 1)] = true := (tsts_cons g9).1
theorem g10 : tsts [[.int .i64 (.ofNat 2), .int .i64 (.ofNat 2)]] = true := by kernel_rfl
theorem g10_0 : tst [.int .i64 (.ofNat 2), .int .i64 (.ofNat 2)] = true := (tsts_cons g10).1
theorem g11 : tsts [[.int .i64 (.ofNat 2), .int .i64 (.ofNat 3)]] = true := by kernel_rfl
theorem g11_0 : tst [.int .i64 (.ofNat 2), .int .i64 (.ofNat 3)] = true := (tsts_cons g11).1
theorem g12 : tsts [[.int .i64 (.ofNat 2), .int .i64 (.ofNat 4)]] = true := by kernel_rfl
theorem g12_0 : tst [.int .i64 (.ofNat 2), .int .i64 (.ofNat 4)] = true := (tsts_cons g12).1
theorem g13 : tsts [[.int .i64 (.ofNat 2), .int .i64 (.ofNat 5)]] = true := by kernel_rfl
theorem g13_0 : tst [.int .i64 (.ofNat 2), .int .i64 (.ofNat 5)] = true := (tsts_cons g13).1
theorem g14 : tsts [[.int .i64 (.ofNat 2), .int .i64 (.ofNat 6)]] = true := by kernel_rfl
theorem g14_0 : tst [.int .i64 (.ofNat 2), .int .i64 (.ofNat 6)] = true := (tsts_cons g14).1
theorem g15 : tsts [[.int .i64 (.ofNat 2), .int .i64 (.ofNat 7)]] = true := by kernel_rfl
theorem g15_0 : tst [.int .i64 (.ofNat 2), .int .i64 (.ofNat 7)] = true := (tsts_cons g15).1
theorem g16 : tsts [[.int .i64 (.ofNat 3), .int .i64 (.ofNat 0)]] = true := by kernel_rfl
theorem g16_0 : tst [.int .i64 (.ofNat 3), .int .i64 (.ofNat 0)] = true := (tsts_cons g16).1
theorem g17 : tsts [[.int .i64 (.ofNat 3), .int .i64 (.ofNat 1)]] = true := by kernel_rfl
theorem g17_0 : tst [.int .i64 (.ofNat 3), .int .i64 (.ofNat 1)] = true := (tsts_cons g17).1
theorem g18 : tsts [[.int .i64 (.ofNat 3), .int .i64 (.ofNat 2)]] = true := by kernel_rfl
theorem g18_0 : tst [.int .i64 (.ofNat 3), .int .i64 (.ofNat 2)] = true := (tsts_cons g18).1
theorem g19 : tsts [[.int .i64 (.ofNat 3), .int .i64 (.ofNat 3)]] = true := by kernel_rfl
theorem g19_0 : tst [.int .i64 (.ofNat 3), .int .i64 (.ofNat 3)] = true := (tsts_cons g19).1
theorem g20 : tsts [[.int .i64 (.ofNat 3), .int .i64 (.ofNat 4)]] = true := by kernel_rfl
theorem g20_0 : tst [.int .i64 (.ofNat 3), .int .i64 (.ofNat 4)] = true := (tsts_cons g20).1
theorem g21 : tsts [[.int .i64 (.ofNat 3), .int .i64 (.ofNat 5)]] = true := by kernel_rfl
theorem g21_0 : tst [.int .i64 (.ofNat 3), .int .i64 (.ofNat 5)] = true := (tsts_cons g21).1
end Go.Proofs.Ytmjbaanljfbobaa.chainDeps
