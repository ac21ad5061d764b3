/- TopNegative: the evaluator's answers, by the kernel. -/
import Derived.Test.YtaijiiohebcakaaGreatDoorEvTopNegativeRun
import Derived.KernelRfl
namespace Go.Proofs.YtaijiiohebcakaaGreatDoor.topNegative
open Go.YtaijiiohebcakaaGreatDoorEv
set_option maxRecDepth 100000
theorem s0 (W : World) (a1 : Int) (h1 : ((a1.tmod (.ofNat 60)).natAbs : Int) = .ofNat 0) : tst W [.bool true, .res a1 (.ofNat 60) (.ofNat 0) h1] = true := by kernel_rfl
theorem s1 (W : World) (a1 : Int) (h1 : ((a1.tmod (.ofNat 60)).natAbs : Int) = .ofNat 1) : tst W [.bool true, .res a1 (.ofNat 60) (.ofNat 1) h1] = true := by kernel_rfl
theorem s2 (W : World) (a1 : Int) (h1 : ((a1.tmod (.ofNat 60)).natAbs : Int) = .ofNat 2) : tst W [.bool true, .res a1 (.ofNat 60) (.ofNat 2) h1] = true := by kernel_rfl
theorem s3 (W : World) (a1 : Int) (h1 : ((a1.tmod (.ofNat 60)).natAbs : Int) = .ofNat 3) : tst W [.bool true, .res a1 (.ofNat 60) (.ofNat 3) h1] = true := by kernel_rfl
theorem s4 (W : World) (a1 : Int) (h1 : ((a1.tmod (.ofNat 60)).natAbs : Int) = .ofNat 4) : tst W [.bool true, .res a1 (.ofNat 60) (.ofNat 4) h1] = true := by kernel_rfl
theorem s5 (W : World) (a1 : Int) (h1 : ((a1.tmod (.ofNat 60)).natAbs : Int) = .ofNat 5) : tst W [.bool true, .res a1 (.ofNat 60) (.ofNat 5) h1] = true := by kernel_rfl
theorem s6 (W : World) (a1 : Int) (h1 : ((a1.tmod (.ofNat 60)).natAbs : Int) = .ofNat 6) : tst W [.bool true, .res a1 (.ofNat 60) (.ofNat 6) h1] = true := by kernel_rfl
theorem s7 (W : World) (a1 : Int) (h1 : ((a1.tmod (.ofNat 60)).natAbs : Int) = .ofNat 7) : tst W [.bool true, .res a1 (.ofNat 60) (.ofNat 7) h1] = true := by kernel_rfl
theorem s8 (W : World) (a1 : Int) (h1 : ((a1.tmod (.ofNat 60)).natAbs : Int) = .ofNat 8) : tst W [.bool true, .res a1 (.ofNat 60) (.ofNat 8) h1] = true := by kernel_rfl
theorem s9 (W : World) (a1 : Int) (h1 : ((a1.tmod (.ofNat 60)).natAbs : Int) = .ofNat 9) : tst W [.bool true, .res a1 (.ofNat 60) (.ofNat 9) h1] = true := by kernel_rfl
theorem s10 (W : World) (a1 : Int) (h1 : ((a1.tmod (.ofNat 60)).natAbs : Int) = .ofNat 10) : tst W [.bool true, .res a1 (.ofNat 60) (.ofNat 10) h1] = true := by kernel_rfl
theorem s11 (W : World) (a1 : Int) (h1 : ((a1.tmod (.ofNat 60)).natAbs : Int) = .ofNat 11) : tst W [.bool true, .res a1 (.ofNat 60) (.ofNat 11) h1] = true := by kernel_rfl
theorem s12 (W : World) (a1 : Int) (h1 : ((a1.tmod (.ofNat 60)).natAbs : Int) = .ofNat 12) : tst W [.bool true, .res a1 (.ofNat 60) (.ofNat 12) h1] = true := by kernel_rfl
theorem s13 (W : World) (a1 : Int) (h1 : ((a1.tmod (.ofNat 60)).natAbs : Int) = .ofNat 13) : tst W [.bool true, .res a1 (.ofNat 60) (.ofNat 13) h1] = true := by kernel_rfl
theorem s14 (W : World) (a1 : Int) (h1 : ((a1.tmod (.ofNat 60)).natAbs : Int) = .ofNat 14) : tst W [.bool true, .res a1 (.ofNat 60) (.ofNat 14) h1] = true := by kernel_rfl
theorem s15 (W : World) (a1 : Int) (h1 : ((a1.tmod (.ofNat 60)).natAbs : Int) = .ofNat 15) : tst W [.bool true, .res a1 (.ofNat 60) (.ofNat 15) h1] = true := by kernel_rfl
theorem s16 (W : World) (a1 : Int) (h1 : ((a1.tmod (.ofNat 60)).natAbs : Int) = .ofNat 16) : tst W [.bool true, .res a1 (.ofNat 60) (.ofNat 16) h1] = true := by kernel_rfl
theorem s17 (W : World) (a1 : Int) (h1 : ((a1.tmod (.ofNat 60)).natAbs : Int) = .ofNat 17) : tst W [.bool true, .res a1 (.ofNat 60) (.ofNat 17) h1] = true := by kernel_rfl
theorem s18 (W : World) (a1 : Int) (h1 : ((a1.tmod (.ofNat 60)).natAbs : Int) = .ofNat 18) : tst W [.bool true, .res a1 (.ofNat 60) (.ofNat 18) h1] = true := by kernel_rfl
theorem s19 (W : World) (a1 : Int) (h1 : ((a1.tmod (.ofNat 60)).natAbs : Int) = .ofNat 19) : tst W [.bool true, .res a1 (.ofNat 60) (.ofNat 19) h1] = true := by kernel_rfl
theorem s20 (W : World) (a1 : Int) (h1 : ((a1.tmod (.ofNat 60)).natAbs : Int) = .ofNat 20) : tst W [.bool true, .res a1 (.ofNat 60) (.ofNat 20) h1] = true := by kernel_rfl
theorem s21 (W : World) (a1 : Int) (h1 : ((a1.tmod (.ofNat 60)).natAbs : Int) = .ofNat 21) : tst W [.bool true, .res a1 (.ofNat 60) (.ofNat 21) h1] = true := by kernel_rfl
theorem s22 (W : World) (a1 : Int) (h1 : ((a1.tmod (.ofNat 60)).natAbs : Int) = .ofNat 22) : tst W [.bool true, .res a1 (.ofNat 60) (.ofNat 22) h1] = true := by kernel_rfl
theorem s23 (W : World) (a1 : Int) (h1 : ((a1.tmod (.ofNat 60)).natAbs : Int) = .ofNat 23) : tst W [.bool true, .res a1 (.ofNat 60) (.ofNat 23) h1] = true := by kernel_rfl
theorem s24 (W : World) (a1 : Int) (h1 : ((a1.tmod (.ofNat 60)).natAbs : Int) = .ofNat 24) : tst W [.bool true, .res a1 (.ofNat 60) (.ofNat 24) h1] = true := by kernel_rfl
theorem s25 (W : World) (a1 : Int) (h1 : ((a1.tmod (.ofNat 60)).natAbs : Int) = .ofNat 25) : tst W [.bool true, .res a1 (.ofNat 60) (.ofNat 25) h1] = true := by kernel_rfl
theorem s26 (W : World) (a1 : Int) (h1 : ((a1.tmod (.ofNat 60)).natAbs : Int) = .ofNat 26) : tst W [.bool true, .res a1 (.ofNat 60) (.ofNat 26) h1] = true := by kernel_rfl
theorem s27 (W : World) (a1 : Int) (h1 : ((a1.tmod (.ofNat 60)).natAbs : Int) = .ofNat 27) : tst W [.bool true, .res a1 (.ofNat 60) (.ofNat 27) h1] = true := by kernel_rfl
theorem s28 (W : World) (a1 : Int) (h1 : ((a1.tmod (.ofNat 60)).natAbs : Int) = .ofNat 28) : tst W [.bool true, .res a1 (.ofNat 60) (.ofNat 28) h1] = true := by kernel_rfl
theorem s29 (W : World) (a1 : Int) (h1 : ((a1.tmod (.ofNat 60)).natAbs : Int) = .ofNat 29) : tst W [.bool true, .res a1 (.ofNat 60) (.ofNat 29) h1] = true := by kernel_rfl
end Go.Proofs.YtaijiiohebcakaaGreatDoor.topNegative
