/- ChainMerge: the evaluator's answers, by the kernel. -/
import Derived.Test.YtaihphmeppbggaaEvChainMergeRun
import Derived.KernelRfl
namespace Go.Proofs.Ytaihphmeppbggaa.chainMerge
open Go.YtaihphmeppbggaaEv
set_option maxRecDepth 100000
theorem s0 (m0 : Nat) (a1 : Int) (a2 : Int) : tst [.int .i64 (.negSucc m0), .int .i64 a1, .int .i64 a2] = true := by kernel_rfl
theorem s1 (a1 : Int) (a2 : Int) : tst [.int .i64 (.ofNat 0), .int .i64 a1, .int .i64 a2] = true := by kernel_rfl
theorem s2 (m1 : Nat) (a2 : Int) : tst [.int .i64 (.ofNat 1), .int .i64 (.negSucc m1), .int .i64 a2] = true := by kernel_rfl
theorem s3 (m2 : Nat) : tst [.int .i64 (.ofNat 1), .int .i64 (.ofNat 0), .int .i64 (.negSucc m2)] = true := by kernel_rfl
theorem s4 (m2 : Nat) : tst [.int .i64 (.ofNat 1), .int .i64 (.ofNat 0), .int .i64 (.ofNat (m2 + 11))] = true := by kernel_rfl
theorem s5 (m2 : Nat) : tst [.int .i64 (.ofNat 1), .int .i64 (.ofNat 1), .int .i64 (.negSucc m2)] = true := by kernel_rfl
theorem s6 (m2 : Nat) : tst [.int .i64 (.ofNat 1), .int .i64 (.ofNat 1), .int .i64 (.ofNat (m2 + 11))] = true := by kernel_rfl
theorem s7 (m2 : Nat) : tst [.int .i64 (.ofNat 1), .int .i64 (.ofNat 2), .int .i64 (.negSucc m2)] = true := by kernel_rfl
theorem s8 (m2 : Nat) : tst [.int .i64 (.ofNat 1), .int .i64 (.ofNat 2), .int .i64 (.ofNat (m2 + 11))] = true := by kernel_rfl
theorem s9 (m2 : Nat) : tst [.int .i64 (.ofNat 1), .int .i64 (.ofNat 3), .int .i64 (.negSucc m2)] = true := by kernel_rfl
theorem s10 (m2 : Nat) : tst [.int .i64 (.ofNat 1), .int .i64 (.ofNat 3), .int .i64 (.ofNat (m2 + 11))] = true := by kernel_rfl
theorem s11 (m2 : Nat) : tst [.int .i64 (.ofNat 1), .int .i64 (.ofNat 4), .int .i64 (.negSucc m2)] = true := by kernel_rfl
theorem s12 (m2 : Nat) : tst [.int .i64 (.ofNat 1), .int .i64 (.ofNat 4), .int .i64 (.ofNat (m2 + 11))] = true := by kernel_rfl
theorem s13 (m2 : Nat) : tst [.int .i64 (.ofNat 1), .int .i64 (.ofNat 5), .int .i64 (.negSucc m2)] = true := by kernel_rfl
theorem s14 (m2 : Nat) : tst [.int .i64 (.ofNat 1), .int .i64 (.ofNat 5), .int .i64 (.ofNat (m2 + 11))] = true := by kernel_rfl
theorem s15 (m2 : Nat) : tst [.int .i64 (.ofNat 1), .int .i64 (.ofNat 6), .int .i64 (.negSucc m2)] = true := by kernel_rfl
theorem s16 (m2 : Nat) : tst [.int .i64 (.ofNat 1), .int .i64 (.ofNat 6), .int .i64 (.ofNat (m2 + 11))] = true := by kernel_rfl
theorem s17 (m2 : Nat) : tst [.int .i64 (.ofNat 1), .int .i64 (.ofNat 7), .int .i64 (.negSucc m2)] = true := by kernel_rfl
theorem s18 (m2 : Nat) : tst [.int .i64 (.ofNat 1), .int .i64 (.ofNat 7), .int .i64 (.ofNat (m2 + 11))] = true := by kernel_rfl
theorem s19 (m2 : Nat) : tst [.int .i64 (.ofNat 1), .int .i64 (.ofNat 8), .int .i64 (.negSucc m2)] = true := by kernel_rfl
theorem s20 (m2 : Nat) : tst [.int .i64 (.ofNat 1), .int .i64 (.ofNat 8), .int .i64 (.ofNat (m2 + 11))] = true := by kernel_rfl
theorem s21 (m2 : Nat) : tst [.int .i64 (.ofNat 1), .int .i64 (.ofNat 9), .int .i64 (.negSucc m2)] = true := by kernel_rfl
theorem s22 (m2 : Nat) : tst [.int .i64 (.ofNat 1), .int .i64 (.ofNat 9), .int .i64 (.ofNat (m2 + 11))] = true := by kernel_rfl
theorem s23 (m2 : Nat) : tst [.int .i64 (.ofNat 1), .int .i64 (.ofNat 10), .int .i64 (.negSucc m2)] = true := by kernel_rfl
theorem s24 (m2 : Nat) : tst [.int .i64 (.ofNat 1), .int .i64 (.ofNat 10), .int .i64 (.ofNat (m2 + 11))] = true := by kernel_rfl
theorem s25 (m1 : Nat) (a2 : Int) : tst [.int .i64 (.ofNat 1), .int .i64 (.ofNat (m1 + 11)), .int .i64 a2] = true := by kernel_rfl
theorem s26 (m1 : Nat) (a2 : Int) : tst [.int .i64 (.ofNat 2), .int .i64 (.negSucc m1), .int .i64 a2] = true := by kernel_rfl
theorem s27 (m2 : Nat) : tst [.int .i64 (.ofNat 2), .int .i64 (.ofNat 0), .int .i64 (.negSucc m2)] = true := by kernel_rfl
theorem s28 (m2 : Nat) : tst [.int .i64 (.ofNat 2), .int .i64 (.ofNat 0), .int .i64 (.ofNat (m2 + 11))] = true := by kernel_rfl
theorem s29 (m2 : Nat) : tst [.int .i64 (.ofNat 2), .int .i64 (.ofNat 1), .int .i64 (.negSucc m2)] = true := by kernel_rfl
theorem s30 (m2 : Nat) : tst [.int .i64 (.ofNat 2), .int .i64 (.ofNat 1), .int .i64 (.ofNat (m2 + 11))] = true := by kernel_rfl
theorem s31 (m2 : Nat) : tst [.int .i64 (.ofNat 2), .int .i64 (.ofNat 2), .int .i64 (.negSucc m2)] = true := by kernel_rfl
theorem s32 (m2 : Nat) : tst [.int .i64 (.ofNat 2), .int .i64 (.ofNat 2), .int .i64 (.ofNat (m2 + 11))] = true := by kernel_rfl
theorem s33 (m2 : Nat) : tst [.int .i64 (.ofNat 2), .int .i64 (.ofNat 3), .int .i64 (.negSucc m2)] = true := by kernel_rfl
theorem s34 (m2 : Nat) : tst [.int .i64 (.ofNat 2), .int .i64 (.ofNat 3), .int .i64 (.ofNat (m2 + 11))] = true := by kernel_rfl
theorem s35 (m2 : Nat) : tst [.int .i64 (.ofNat 2), .int .i64 (.ofNat 4), .int .i64 (.negSucc m2)] = true := by kernel_rfl
theorem s36 (m2 : Nat) : tst [.int .i64 (.ofNat 2), .int .i64 (.ofNat 4), .int .i64 (.ofNat (m2 + 11))] = true := by kernel_rfl
theorem s37 (m2 : Nat) : tst [.int .i64 (.ofNat 2), .int .i64 (.ofNat 5), .int .i64 (.negSucc m2)] = true := by kernel_rfl
theorem s38 (m2 : Nat) : tst [.int .i64 (.ofNat 2), .int .i64 (.ofNat 5), .int .i64 (.ofNat (m2 + 11))] = true := by kernel_rfl
theorem s39 (m2 : Nat) : tst [.int .i64 (.ofNat 2), .int .i64 (.ofNat 6), .int .i64 (.negSucc m2)] = true := by kernel_rfl
theorem s40 (m2 : Nat) : tst [.int .i64 (.ofNat 2), .int .i64 (.ofNat 6), .int .i64 (.ofNat (m2 + 11))] = true := by kernel_rfl
theorem s41 (m2 : Nat) : tst [.int .i64 (.ofNat 2), .int .i64 (.ofNat 7), .int .i64 (.negSucc m2)] = true := by kernel_rfl
theorem s42 (m2 : Nat) : tst [.int .i64 (.ofNat 2), .int .i64 (.ofNat 7), .int .i64 (.ofNat (m2 + 11))] = true := by kernel_rfl
theorem s43 (m2 : Nat) : tst [.int .i64 (.ofNat 2), .int .i64 (.ofNat 8), .int .i64 (.negSucc m2)] = true := by kernel_rfl
theorem s44 (m2 : Nat) : tst [.int .i64 (.ofNat 2), .int .i64 (.ofNat 8), .int .i64 (.ofNat (m2 + 11))] = true := by kernel_rfl
theorem s45 (m2 : Nat) : tst [.int .i64 (.ofNat 2), .int .i64 (.ofNat 9), .int .i64 (.negSucc m2)] = true := by kernel_rfl
theorem s46 (m2 : Nat) : tst [.int .i64 (.ofNat 2), .int .i64 (.ofNat 9), .int .i64 (.ofNat (m2 + 11))] = true := by kernel_rfl
theorem s47 (m2 : Nat) : tst [.int .i64 (.ofNat 2), .int .i64 (.ofNat 10), .int .i64 (.negSucc m2)] = true := by kernel_rfl
theorem s48 (m2 : Nat) : tst [.int .i64 (.ofNat 2), .int .i64 (.ofNat 10), .int .i64 (.ofNat (m2 + 11))] = true := by kernel_rfl
theorem s49 (m1 : Nat) (a2 : Int) : tst [.int .i64 (.ofNat 2), .int .i64 (.ofNat (m1 + 11)), .int .i64 a2] = true := by kernel_rfl
theorem s50 (m1 : Nat) (a2 : Int) : tst [.int .i64 (.ofNat 3), .int .i64 (.negSucc m1), .int .i64 a2] = true := by kernel_rfl
theorem s51 (m2 : Nat) : tst [.int .i64 (.ofNat 3), .int .i64 (.ofNat 0), .int .i64 (.negSucc m2)] = true := by kernel_rfl
theorem s52 (m2 : Nat) : tst [.int .i64 (.ofNat 3), .int .i64 (.ofNat 0), .int .i64 (.ofNat (m2 + 11))] = true := by kernel_rfl
theorem s53 (m2 : Nat) : tst [.int .i64 (.ofNat 3), .int .i64 (.ofNat 1), .int .i64 (.negSucc m2)] = true := by kernel_rfl
theorem s54 (m2 : Nat) : tst [.int .i64 (.ofNat 3), .int .i64 (.ofNat 1), .int .i64 (.ofNat (m2 + 11))] = true := by kernel_rfl
theorem s55 (m2 : Nat) : tst [.int .i64 (.ofNat 3), .int .i64 (.ofNat 2), .int .i64 (.negSucc m2)] = true := by kernel_rfl
theorem s56 (m2 : Nat) : tst [.int .i64 (.ofNat 3), .int .i64 (.ofNat 2), .int .i64 (.ofNat (m2 + 11))] = true := by kernel_rfl
theorem s57 (m2 : Nat) : tst [.int .i64 (.ofNat 3), .int .i64 (.ofNat 3), .int .i64 (.negSucc m2)] = true := by kernel_rfl
theorem s58 (m2 : Nat) : tst [.int .i64 (.ofNat 3), .int .i64 (.ofNat 3), .int .i64 (.ofNat (m2 + 11))] = true := by kernel_rfl
theorem s59 (m2 : Nat) : tst [.int .i64 (.ofNat 3), .int .i64 (.ofNat 4), .int .i64 (.negSucc m2)] = true := by kernel_rfl
theorem s60 (m2 : Nat) : tst [.int .i64 (.ofNat 3), .int .i64 (.ofNat 4), .int .i64 (.ofNat (m2 + 11))] = true := by kernel_rfl
theorem s61 (m2 : Nat) : tst [.int .i64 (.ofNat 3), .int .i64 (.ofNat 5), .int .i64 (.negSucc m2)] = true := by kernel_rfl
theorem s62 (m2 : Nat) : tst [.int .i64 (.ofNat 3), .int .i64 (.ofNat 5), .int .i64 (.ofNat (m2 + 11))] = true := by kernel_rfl
theorem s63 (m2 : Nat) : tst [.int .i64 (.ofNat 3), .int .i64 (.ofNat 6), .int .i64 (.negSucc m2)] = true := by kernel_rfl
theorem s64 (m2 : Nat) : tst [.int .i64 (.ofNat 3), .int .i64 (.ofNat 6), .int .i64 (.ofNat (m2 + 11))] = true := by kernel_rfl
theorem s65 (m2 : Nat) : tst [.int .i64 (.ofNat 3), .int .i64 (.ofNat 7), .int .i64 (.negSucc m2)] = true := by kernel_rfl
theorem s66 (m2 : Nat) : tst [.int .i64 (.ofNat 3), .int .i64 (.ofNat 7), .int .i64 (.ofNat (m2 + 11))] = true := by kernel_rfl
theorem s67 (m2 : Nat) : tst [.int .i64 (.ofNat 3), .int .i64 (.ofNat 8), .int .i64 (.negSucc m2)] = true := by kernel_rfl
theorem s68 (m2 : Nat) : tst [.int .i64 (.ofNat 3), .int .i64 (.ofNat 8), .int .i64 (.ofNat (m2 + 11))] = true := by kernel_rfl
theorem s69 (m2 : Nat) : tst [.int .i64 (.ofNat 3), .int .i64 (.ofNat 9), .int .i64 (.negSucc m2)] = true := by kernel_rfl
theorem s70 (m2 : Nat) : tst [.int .i64 (.ofNat 3), .int .i64 (.ofNat 9), .int .i64 (.ofNat (m2 + 11))] = true := by kernel_rfl
theorem s71 (m2 : Nat) : tst [.int .i64 (.ofNat 3), .int .i64 (.ofNat 10), .int .i64 (.negSucc m2)] = true := by kernel_rfl
theorem s72 (m2 : Nat) : tst [.int .i64 (.ofNat 3), .int .i64 (.ofNat 10), .int .i64 (.ofNat (m2 + 11))] = true := by kernel_rfl
theorem s73 (m1 : Nat) (a2 : Int) : tst [.int .i64 (.ofNat 3), .int .i64 (.ofNat (m1 + 11)), .int .i64 a2] = true := by kernel_rfl
theorem s74 (m1 : Nat) (a2 : Int) : tst [.int .i64 (.ofNat 4), .int .i64 (.negSucc m1), .int .i64 a2] = true := by kernel_rfl
theorem s75 (m2 : Nat) : tst [.int .i64 (.ofNat 4), .int .i64 (.ofNat 0), .int .i64 (.negSucc m2)] = true := by kernel_rfl
theorem s76 (m2 : Nat) : tst [.int .i64 (.ofNat 4), .int .i64 (.ofNat 0), .int .i64 (.ofNat (m2 + 11))] = true := by kernel_rfl
theorem s77 (m2 : Nat) : tst [.int .i64 (.ofNat 4), .int .i64 (.ofNat 1), .int .i64 (.negSucc m2)] = true := by kernel_rfl
theorem s78 (m2 : Nat) : tst [.int .i64 (.ofNat 4), .int .i64 (.ofNat 1), .int .i64 (.ofNat (m2 + 11))] = true := by kernel_rfl
theorem s79 (m2 : Nat) : tst [.int .i64 (.ofNat 4), .int .i64 (.ofNat 2), .int .i64 (.negSucc m2)] = true := by kernel_rfl
theorem s80 (m2 : Nat) : tst [.int .i64 (.ofNat 4), .int .i64 (.ofNat 2), .int .i64 (.ofNat (m2 + 11))] = true := by kernel_rfl
theorem s81 (m2 : Nat) : tst [.int .i64 (.ofNat 4), .int .i64 (.ofNat 3), .int .i64 (.negSucc m2)] = true := by kernel_rfl
theorem s82 (m2 : Nat) : tst [.int .i64 (.ofNat 4), .int .i64 (.ofNat 3), .int .i64 (.ofNat (m2 + 11))] = true := by kernel_rfl
theorem s83 (m2 : Nat) : tst [.int .i64 (.ofNat 4), .int .i64 (.ofNat 4), .int .i64 (.negSucc m2)] = true := by kernel_rfl
theorem s84 (m2 : Nat) : tst [.int .i64 (.ofNat 4), .int .i64 (.ofNat 4), .int .i64 (.ofNat (m2 + 11))] = true := by kernel_rfl
theorem s85 (m2 : Nat) : tst [.int .i64 (.ofNat 4), .int .i64 (.ofNat 5), .int .i64 (.negSucc m2)] = true := by kernel_rfl
theorem s86 (m2 : Nat) : tst [.int .i64 (.ofNat 4), .int .i64 (.ofNat 5), .int .i64 (.ofNat (m2 + 11))] = true := by kernel_rfl
theorem s87 (m2 : Nat) : tst [.int .i64 (.ofNat 4), .int .i64 (.ofNat 6), .int .i64 (.negSucc m2)] = true := by kernel_rfl
theorem s88 (m2 : Nat) : tst [.int .i64 (.ofNat 4), .int .i64 (.ofNat 6), .int .i64 (.ofNat (m2 + 11))] = true := by kernel_rfl
theorem s89 (m2 : Nat) : tst [.int .i64 (.ofNat 4), .int .i64 (.ofNat 7), .int .i64 (.negSucc m2)] = true := by kernel_rfl
theorem s90 (m2 : Nat) : tst [.int .i64 (.ofNat 4), .int .i64 (.ofNat 7), .int .i64 (.ofNat (m2 + 11))] = true := by kernel_rfl
theorem s91 (m2 : Nat) : tst [.int .i64 (.ofNat 4), .int .i64 (.ofNat 8), .int .i64 (.negSucc m2)] = true := by kernel_rfl
theorem s92 (m2 : Nat) : tst [.int .i64 (.ofNat 4), .int .i64 (.ofNat 8), .int .i64 (.ofNat (m2 + 11))] = true := by kernel_rfl
theorem s93 (m2 : Nat) : tst [.int .i64 (.ofNat 4), .int .i64 (.ofNat 9), .int .i64 (.negSucc m2)] = true := by kernel_rfl
theorem s94 (m2 : Nat) : tst [.int .i64 (.ofNat 4), .int .i64 (.ofNat 9), .int .i64 (.ofNat (m2 + 11))] = true := by kernel_rfl
theorem s95 (m2 : Nat) : tst [.int .i64 (.ofNat 4), .int .i64 (.ofNat 10), .int .i64 (.negSucc m2)] = true := by kernel_rfl
theorem s96 (m2 : Nat) : tst [.int .i64 (.ofNat 4), .int .i64 (.ofNat 10), .int .i64 (.ofNat (m2 + 11))] = true := by kernel_rfl
theorem s97 (m1 : Nat) (a2 : Int) : tst [.int .i64 (.ofNat 4), .int .i64 (.ofNat (m1 + 11)), .int .i64 a2] = true := by kernel_rfl
theorem s98 (m1 : Nat) (a2 : Int) : tst [.int .i64 (.ofNat 5), .int .i64 (.negSucc m1), .int .i64 a2] = true := by kernel_rfl
theorem s99 (m2 : Nat) : tst [.int .i64 (.ofNat 5), .int .i64 (.ofNat 0), .int .i64 (.negSucc m2)] = true := by kernel_rfl
theorem s100 (m2 : Nat) : tst [.int .i64 (.ofNat 5), .int .i64 (.ofNat 0), .int .i64 (.ofNat (m2 + 11))] = true := by kernel_rfl
theorem s101 (m2 : Nat) : tst [.int .i64 (.ofNat 5), .int .i64 (.ofNat 1), .int .i64 (.negSucc m2)] = true := by kernel_rfl
theorem s102 (m2 : Nat) : tst [.int .i64 (.ofNat 5), .int .i64 (.ofNat 1), .int .i64 (.ofNat (m2 + 11))] = true := by kernel_rfl
theorem s103 (m2 : Nat) : tst [.int .i64 (.ofNat 5), .int .i64 (.ofNat 2), .int .i64 (.negSucc m2)] = true := by kernel_rfl
theorem s104 (m2 : Nat) : tst [.int .i64 (.ofNat 5), .int .i64 (.ofNat 2), .int .i64 (.ofNat (m2 + 11))] = true := by kernel_rfl
theorem s105 (m2 : Nat) : tst [.int .i64 (.ofNat 5), .int .i64 (.ofNat 3), .int .i64 (.negSucc m2)] = true := by kernel_rfl
theorem s106 (m2 : Nat) : tst [.int .i64 (.ofNat 5), .int .i64 (.ofNat 3), .int .i64 (.ofNat (m2 + 11))] = true := by kernel_rfl
theorem s107 (m2 : Nat) : tst [.int .i64 (.ofNat 5), .int .i64 (.ofNat 4), .int .i64 (.negSucc m2)] = true := by kernel_rfl
theorem s108 (m2 : Nat) : tst [.int .i64 (.ofNat 5), .int .i64 (.ofNat 4), .int .i64 (.ofNat (m2 + 11))] = true := by kernel_rfl
theorem s109 (m2 : Nat) : tst [.int .i64 (.ofNat 5), .int .i64 (.ofNat 5), .int .i64 (.negSucc m2)] = true := by kernel_rfl
theorem s110 (m2 : Nat) : tst [.int .i64 (.ofNat 5), .int .i64 (.ofNat 5), .int .i64 (.ofNat (m2 + 11))] = true := by kernel_rfl
theorem s111 (m2 : Nat) : tst [.int .i64 (.ofNat 5), .int .i64 (.ofNat 6), .int .i64 (.negSucc m2)] = true := by kernel_rfl
theorem s112 (m2 : Nat) : tst [.int .i64 (.ofNat 5), .int .i64 (.ofNat 6), .int .i64 (.ofNat (m2 + 11))] = true := by kernel_rfl
theorem s113 (m2 : Nat) : tst [.int .i64 (.ofNat 5), .int .i64 (.ofNat 7), .int .i64 (.negSucc m2)] = true := by kernel_rfl
theorem s114 (m2 : Nat) : tst [.int .i64 (.ofNat 5), .int .i64 (.ofNat 7), .int .i64 (.ofNat (m2 + 11))] = true := by kernel_rfl
theorem s115 (m2 : Nat) : tst [.int .i64 (.ofNat 5), .int .i64 (.ofNat 8), .int .i64 (.negSucc m2)] = true := by kernel_rfl
theorem s116 (m2 : Nat) : tst [.int .i64 (.ofNat 5), .int .i64 (.ofNat 8), .int .i64 (.ofNat (m2 + 11))] = true := by kernel_rfl
theorem s117 (m2 : Nat) : tst [.int .i64 (.ofNat 5), .int .i64 (.ofNat 9), .int .i64 (.negSucc m2)] = true := by kernel_rfl
theorem s118 (m2 : Nat) : tst [.int .i64 (.ofNat 5), .int .i64 (.ofNat 9), .int .i64 (.ofNat (m2 + 11))] = true := by kernel_rfl
theorem s119 (m2 : Nat) : tst [.int .i64 (.ofNat 5), .int .i64 (.ofNat 10), .int .i64 (.negSucc m2)] = true := by kernel_rfl
theorem s120 (m2 : Nat) : tst [.int .i64 (.ofNat 5), .int .i64 (.ofNat 10), .int .i64 (.ofNat (m2 + 11))] = true := by kernel_rfl
theorem s121 (m1 : Nat) (a2 : Int) : tst [.int .i64 (.ofNat 5), .int .i64 (.ofNat (m1 + 11)), .int .i64 a2] = true := by kernel_rfl
theorem s122 (m1 : Nat) (a2 : Int) : tst [.int .i64 (.ofNat 6), .int .i64 (.negSucc m1), .int .i64 a2] = true := by kernel_rfl
theorem s123 (m2 : Nat) : tst [.int .i64 (.ofNat 6), .int .i64 (.ofNat 0), .int .i64 (.negSucc m2)] = true := by kernel_rfl
theorem s124 (m2 : Nat) : tst [.int .i64 (.ofNat 6), .int .i64 (.ofNat 0), .int .i64 (.ofNat (m2 + 11))] = true := by kernel_rfl
theorem s125 (m2 : Nat) : tst [.int .i64 (.ofNat 6), .int .i64 (.ofNat 1), .int .i64 (.negSucc m2)] = true := by kernel_rfl
theorem s126 (m2 : Nat) : tst [.int .i64 (.ofNat 6), .int .i64 (.ofNat 1), .int .i64 (.ofNat (m2 + 11))] = true := by kernel_rfl
theorem s127 (m2 : Nat) : tst [.int .i64 (.ofNat 6), .int .i64 (.ofNat 2), .int .i64 (.negSucc m2)] = true := by kernel_rfl
theorem s128 (m2 : Nat) : tst [.int .i64 (.ofNat 6), .int .i64 (.ofNat 2), .int .i64 (.ofNat (m2 + 11))] = true := by kernel_rfl
theorem s129 (m2 : Nat) : tst [.int .i64 (.ofNat 6), .int .i64 (.ofNat 3), .int .i64 (.negSucc m2)] = true := by kernel_rfl
theorem s130 (m2 : Nat) : tst [.int .i64 (.ofNat 6), .int .i64 (.ofNat 3), .int .i64 (.ofNat (m2 + 11))] = true := by kernel_rfl
theorem s131 (m2 : Nat) : tst [.int .i64 (.ofNat 6), .int .i64 (.ofNat 4), .int .i64 (.negSucc m2)] = true := by kernel_rfl
theorem s132 (m2 : Nat) : tst [.int .i64 (.ofNat 6), .int .i64 (.ofNat 4), .int .i64 (.ofNat (m2 + 11))] = true := by kernel_rfl
theorem s133 (m2 : Nat) : tst [.int .i64 (.ofNat 6), .int .i64 (.ofNat 5), .int .i64 (.negSucc m2)] = true := by kernel_rfl
theorem s134 (m2 : Nat) : tst [.int .i64 (.ofNat 6), .int .i64 (.ofNat 5), .int .i64 (.ofNat (m2 + 11))] = true := by kernel_rfl
theorem s135 (m2 : Nat) : tst [.int .i64 (.ofNat 6), .int .i64 (.ofNat 6), .int .i64 (.negSucc m2)] = true := by kernel_rfl
theorem s136 (m2 : Nat) : tst [.int .i64 (.ofNat 6), .int .i64 (.ofNat 6), .int .i64 (.ofNat (m2 + 11))] = true := by kernel_rfl
theorem s137 (m2 : Nat) : tst [.int .i64 (.ofNat 6), .int .i64 (.ofNat 7), .int .i64 (.negSucc m2)] = true := by kernel_rfl
theorem s138 (m2 : Nat) : tst [.int .i64 (.ofNat 6), .int .i64 (.ofNat 7), .int .i64 (.ofNat (m2 + 11))] = true := by kernel_rfl
theorem s139 (m2 : Nat) : tst [.int .i64 (.ofNat 6), .int .i64 (.ofNat 8), .int .i64 (.negSucc m2)] = true := by kernel_rfl
theorem s140 (m2 : Nat) : tst [.int .i64 (.ofNat 6), .int .i64 (.ofNat 8), .int .i64 (.ofNat (m2 + 11))] = true := by kernel_rfl
theorem s141 (m2 : Nat) : tst [.int .i64 (.ofNat 6), .int .i64 (.ofNat 9), .int .i64 (.negSucc m2)] = true := by kernel_rfl
theorem s142 (m2 : Nat) : tst [.int .i64 (.ofNat 6), .int .i64 (.ofNat 9), .int .i64 (.ofNat (m2 + 11))] = true := by kernel_rfl
theorem s143 (m2 : Nat) : tst [.int .i64 (.ofNat 6), .int .i64 (.ofNat 10), .int .i64 (.negSucc m2)] = true := by kernel_rfl
theorem s144 (m2 : Nat) : tst [.int .i64 (.ofNat 6), .int .i64 (.ofNat 10), .int .i64 (.ofNat (m2 + 11))] = true := by kernel_rfl
theorem s145 (m1 : Nat) (a2 : Int) : tst [.int .i64 (.ofNat 6), .int .i64 (.ofNat (m1 + 11)), .int .i64 a2] = true := by kernel_rfl
theorem s146 (m1 : Nat) (a2 : Int) : tst [.int .i64 (.ofNat 7), .int .i64 (.negSucc m1), .int .i64 a2] = true := by kernel_rfl
theorem s147 (m2 : Nat) : tst [.int .i64 (.ofNat 7), .int .i64 (.ofNat 0), .int .i64 (.negSucc m2)] = true := by kernel_rfl
theorem s148 (m2 : Nat) : tst [.int .i64 (.ofNat 7), .int .i64 (.ofNat 0), .int .i64 (.ofNat (m2 + 11))] = true := by kernel_rfl
theorem s149 (m2 : Nat) : tst [.int .i64 (.ofNat 7), .int .i64 (.ofNat 1), .int .i64 (.negSucc m2)] = true := by kernel_rfl
theorem s150 (m2 : Nat) : tst [.int .i64 (.ofNat 7), .int .i64 (.ofNat 1), .int .i64 (.ofNat (m2 + 11))] = true := by kernel_rfl
theorem s151 (m2 : Nat) : tst [.int .i64 (.ofNat 7), .int .i64 (.ofNat 2), .int .i64 (.negSucc m2)] = true := by kernel_rfl
theorem s152 (m2 : Nat) : tst [.int .i64 (.ofNat 7), .int .i64 (.ofNat 2), .int .i64 (.ofNat (m2 + 11))] = true := by kernel_rfl
theorem s153 (m2 : Nat) : tst [.int .i64 (.ofNat 7), .int .i64 (.ofNat 3), .int .i64 (.negSucc m2)] = true := by kernel_rfl
theorem s154 (m2 : Nat) : tst [.int .i64 (.ofNat 7), .int .i64 (.ofNat 3), .int .i64 (.ofNat (m2 + 11))] = true := by kernel_rfl
theorem s155 (m2 : Nat) : tst [.int .i64 (.ofNat 7), .int .i64 (.ofNat 4), .int .i64 (.negSucc m2)] = true := by kernel_rfl
theorem s156 (m2 : Nat) : tst [.int .i64 (.ofNat 7), .int .i64 (.ofNat 4), .int .i64 (.ofNat (m2 + 11))] = true := by kernel_rfl
theorem s157 (m2 : Nat) : tst [.int .i64 (.ofNat 7), .int .i64 (.ofNat 5), .int .i64 (.negSucc m2)] = true := by kernel_rfl
theorem s158 (m2 : Nat) : tst [.int .i64 (.ofNat 7), .int .i64 (.ofNat 5), .int .i64 (.ofNat (m2 + 11))] = true := by kernel_rfl
theorem s159 (m2 : Nat) : tst [.int .i64 (.ofNat 7), .int .i64 (.ofNat 6), .int .i64 (.negSucc m2)] = true := by kernel_rfl
theorem s160 (m2 : Nat) : tst [.int .i64 (.ofNat 7), .int .i64 (.ofNat 6), .int .i64 (.ofNat (m2 + 11))] = true := by kernel_rfl
theorem s161 (m2 : Nat) : tst [.int .i64 (.ofNat 7), .int .i64 (.ofNat 7), .int .i64 (.negSucc m2)] = true := by kernel_rfl
theorem s162 (m2 : Nat) : tst [.int .i64 (.ofNat 7), .int .i64 (.ofNat 7), .int .i64 (.ofNat (m2 + 11))] = true := by kernel_rfl
theorem s163 (m2 : Nat) : tst [.int .i64 (.ofNat 7), .int .i64 (.ofNat 8), .int .i64 (.negSucc m2)] = true := by kernel_rfl
theorem s164 (m2 : Nat) : tst [.int .i64 (.ofNat 7), .int .i64 (.ofNat 8), .int .i64 (.ofNat (m2 + 11))] = true := by kernel_rfl
theorem s165 (m2 : Nat) : tst [.int .i64 (.ofNat 7), .int .i64 (.ofNat 9), .int .i64 (.negSucc m2)] = true := by kernel_rfl
theorem s166 (m2 : Nat) : tst [.int .i64 (.ofNat 7), .int .i64 (.ofNat 9), .int .i64 (.ofNat (m2 + 11))] = true := by kernel_rfl
theorem s167 (m2 : Nat) : tst [.int .i64 (.ofNat 7), .int .i64 (.ofNat 10), .int .i64 (.negSucc m2)] = true := by kernel_rfl
theorem s168 (m2 : Nat) : tst [.int .i64 (.ofNat 7), .int .i64 (.ofNat 10), .int .i64 (.ofNat (m2 + 11))] = true := by kernel_rfl
theorem s169 (m1 : Nat) (a2 : Int) : tst [.int .i64 (.ofNat 7), .int .i64 (.ofNat (m1 + 11)), .int .i64 a2] = true := by kernel_rfl
theorem s170 (m1 : Nat) (a2 : Int) : tst [.int .i64 (.ofNat 8), .int .i64 (.negSucc m1), .int .i64 a2] = true := by kernel_rfl
theorem s171 (m2 : Nat) : tst [.int .i64 (.ofNat 8), .int .i64 (.ofNat 0), .int .i64 (.negSucc m2)] = true := by kernel_rfl
theorem s172 (m2 : Nat) : tst [.int .i64 (.ofNat 8), .int .i64 (.ofNat 0), .int .i64 (.ofNat (m2 + 11))] = true := by kernel_rfl
theorem s173 (m2 : Nat) : tst [.int .i64 (.ofNat 8), .int .i64 (.ofNat 1), .int .i64 (.negSucc m2)] = true := by kernel_rfl
theorem s174 (m2 : Nat) : tst [.int .i64 (.ofNat 8), .int .i64 (.ofNat 1), .int .i64 (.ofNat (m2 + 11))] = true := by kernel_rfl
theorem s175 (m2 : Nat) : tst [.int .i64 (.ofNat 8), .int .i64 (.ofNat 2), .int .i64 (.negSucc m2)] = true := by kernel_rfl
theorem s176 (m2 : Nat) : tst [.int .i64 (.ofNat 8), .int .i64 (.ofNat 2), .int .i64 (.ofNat (m2 + 11))] = true := by kernel_rfl
theorem s177 (m2 : Nat) : tst [.int .i64 (.ofNat 8), .int .i64 (.ofNat 3), .int .i64 (.negSucc m2)] = true := by kernel_rfl
theorem s178 (m2 : Nat) : tst [.int .i64 (.ofNat 8), .int .i64 (.ofNat 3), .int .i64 (.ofNat (m2 + 11))] = true := by kernel_rfl
theorem s179 (m2 : Nat) : tst [.int .i64 (.ofNat 8), .int .i64 (.ofNat 4), .int .i64 (.negSucc m2)] = true := by kernel_rfl
theorem s180 (m2 : Nat) : tst [.int .i64 (.ofNat 8), .int .i64 (.ofNat 4), .int .i64 (.ofNat (m2 + 11))] = true := by kernel_rfl
theorem s181 (m2 : Nat) : tst [.int .i64 (.ofNat 8), .int .i64 (.ofNat 5), .int .i64 (.negSucc m2)] = true := by kernel_rfl
theorem s182 (m2 : Nat) : tst [.int .i64 (.ofNat 8), .int .i64 (.ofNat 5), .int .i64 (.ofNat (m2 + 11))] = true := by kernel_rfl
theorem s183 (m2 : Nat) : tst [.int .i64 (.ofNat 8), .int .i64 (.ofNat 6), .int .i64 (.negSucc m2)] = true := by kernel_rfl
theorem s184 (m2 : Nat) : tst [.int .i64 (.ofNat 8), .int .i64 (.ofNat 6), .int .i64 (.ofNat (m2 + 11))] = true := by kernel_rfl
theorem s185 (m2 : Nat) : tst [.int .i64 (.ofNat 8), .int .i64 (.ofNat 7), .int .i64 (.negSucc m2)] = true := by kernel_rfl
theorem s186 (m2 : Nat) : tst [.int .i64 (.ofNat 8), .int .i64 (.ofNat 7), .int .i64 (.ofNat (m2 + 11))] = true := by kernel_rfl
theorem s187 (m2 : Nat) : tst [.int .i64 (.ofNat 8), .int .i64 (.ofNat 8), .int .i64 (.negSucc m2)] = true := by kernel_rfl
theorem s188 (m2 : Nat) : tst [.int .i64 (.ofNat 8), .int .i64 (.ofNat 8), .int .i64 (.ofNat (m2 + 11))] = true := by kernel_rfl
theorem s189 (m2 : Nat) : tst [.int .i64 (.ofNat 8), .int .i64 (.ofNat 9), .int .i64 (.negSucc m2)] = true := by kernel_rfl
theorem s190 (m2 : Nat) : tst [.int .i64 (.ofNat 8), .int .i64 (.ofNat 9), .int .i64 (.ofNat (m2 + 11))] = true := by kernel_rfl
theorem s191 (m2 : Nat) : tst [.int .i64 (.ofNat 8), .int .i64 (.ofNat 10), .int .i64 (.negSucc m2)] = true := by kernel_rfl
theorem s192 (m2 : Nat) : tst [.int .i64 (.ofNat 8), .int .i64 (.ofNat 10), .int .i64 (.ofNat (m2 + 11))] = true := by kernel_rfl
theorem s193 (m1 : Nat) (a2 : Int) : tst [.int .i64 (.ofNat 8), .int .i64 (.ofNat (m1 + 11)), .int .i64 a2] = true := by kernel_rfl
theorem s194 (m0 : Nat) (a1 : Int) (a2 : Int) : tst [.int .i64 (.ofNat (m0 + 9)), .int .i64 a1, .int .i64 a2] = true := by kernel_rfl
end Go.Proofs.Ytaihphmeppbggaa.chainMerge
