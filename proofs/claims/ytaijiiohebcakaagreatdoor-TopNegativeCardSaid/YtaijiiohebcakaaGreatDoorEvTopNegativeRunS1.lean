/- TopNegative: the evaluator's answers, by the kernel. -/
import Derived.Test.YtaijiiohebcakaaGreatDoorEvTopNegativeRun
import Derived.KernelRfl
namespace Go.Proofs.YtaijiiohebcakaaGreatDoor.topNegative
open Go.YtaijiiohebcakaaGreatDoorEv
set_option maxRecDepth 100000
theorem s30 (W : World) (a1 : Int) (h1 : ((a1.tmod (.ofNat 60)).natAbs : Int) = .ofNat 30) : tst W [.bool true, .res a1 (.ofNat 60) (.ofNat 30) h1] = true := by kernel_rfl
theorem s31 (W : World) (a1 : Int) (h1 : ((a1.tmod (.ofNat 60)).natAbs : Int) = .ofNat 31) : tst W [.bool true, .res a1 (.ofNat 60) (.ofNat 31) h1] = true := by kernel_rfl
theorem s32 (W : World) (a1 : Int) (h1 : ((a1.tmod (.ofNat 60)).natAbs : Int) = .ofNat 32) : tst W [.bool true, .res a1 (.ofNat 60) (.ofNat 32) h1] = true := by kernel_rfl
theorem s33 (W : World) (a1 : Int) (h1 : ((a1.tmod (.ofNat 60)).natAbs : Int) = .ofNat 33) : tst W [.bool true, .res a1 (.ofNat 60) (.ofNat 33) h1] = true := by kernel_rfl
theorem s34 (W : World) (a1 : Int) (h1 : ((a1.tmod (.ofNat 60)).natAbs : Int) = .ofNat 34) : tst W [.bool true, .res a1 (.ofNat 60) (.ofNat 34) h1] = true := by kernel_rfl
theorem s35 (W : World) (a1 : Int) (h1 : ((a1.tmod (.ofNat 60)).natAbs : Int) = .ofNat 35) : tst W [.bool true, .res a1 (.ofNat 60) (.ofNat 35) h1] = true := by kernel_rfl
theorem s36 (W : World) (a1 : Int) (h1 : ((a1.tmod (.ofNat 60)).natAbs : Int) = .ofNat 36) : tst W [.bool true, .res a1 (.ofNat 60) (.ofNat 36) h1] = true := by kernel_rfl
theorem s37 (W : World) (a1 : Int) (h1 : ((a1.tmod (.ofNat 60)).natAbs : Int) = .ofNat 37) : tst W [.bool true, .res a1 (.ofNat 60) (.ofNat 37) h1] = true := by kernel_rfl
theorem s38 (W : World) (a1 : Int) (h1 : ((a1.tmod (.ofNat 60)).natAbs : Int) = .ofNat 38) : tst W [.bool true, .res a1 (.ofNat 60) (.ofNat 38) h1] = true := by kernel_rfl
theorem s39 (W : World) (a1 : Int) (h1 : ((a1.tmod (.ofNat 60)).natAbs : Int) = .ofNat 39) : tst W [.bool true, .res a1 (.ofNat 60) (.ofNat 39) h1] = true := by kernel_rfl
theorem s40 (W : World) (a1 : Int) (h1 : ((a1.tmod (.ofNat 60)).natAbs : Int) = .ofNat 40) : tst W [.bool true, .res a1 (.ofNat 60) (.ofNat 40) h1] = true := by kernel_rfl
theorem s41 (W : World) (a1 : Int) (h1 : ((a1.tmod (.ofNat 60)).natAbs : Int) = .ofNat 41) : tst W [.bool true, .res a1 (.ofNat 60) (.ofNat 41) h1] = true := by kernel_rfl
theorem s42 (W : World) (a1 : Int) (h1 : ((a1.tmod (.ofNat 60)).natAbs : Int) = .ofNat 42) : tst W [.bool true, .res a1 (.ofNat 60) (.ofNat 42) h1] = true := by kernel_rfl
theorem s43 (W : World) (a1 : Int) (h1 : ((a1.tmod (.ofNat 60)).natAbs : Int) = .ofNat 43) : tst W [.bool true, .res a1 (.ofNat 60) (.ofNat 43) h1] = true := by kernel_rfl
theorem s44 (W : World) (a1 : Int) (h1 : ((a1.tmod (.ofNat 60)).natAbs : Int) = .ofNat 44) : tst W [.bool true, .res a1 (.ofNat 60) (.ofNat 44) h1] = true := by kernel_rfl
theorem s45 (W : World) (a1 : Int) (h1 : ((a1.tmod (.ofNat 60)).natAbs : Int) = .ofNat 45) : tst W [.bool true, .res a1 (.ofNat 60) (.ofNat 45) h1] = true := by kernel_rfl
theorem s46 (W : World) (a1 : Int) (h1 : ((a1.tmod (.ofNat 60)).natAbs : Int) = .ofNat 46) : tst W [.bool true, .res a1 (.ofNat 60) (.ofNat 46) h1] = true := by kernel_rfl
theorem s47 (W : World) (a1 : Int) (h1 : ((a1.tmod (.ofNat 60)).natAbs : Int) = .ofNat 47) : tst W [.bool true, .res a1 (.ofNat 60) (.ofNat 47) h1] = true := by kernel_rfl
theorem s48 (W : World) (a1 : Int) (h1 : ((a1.tmod (.ofNat 60)).natAbs : Int) = .ofNat 48) : tst W [.bool true, .res a1 (.ofNat 60) (.ofNat 48) h1] = true := by kernel_rfl
theorem s49 (W : World) (a1 : Int) (h1 : ((a1.tmod (.ofNat 60)).natAbs : Int) = .ofNat 49) : tst W [.bool true, .res a1 (.ofNat 60) (.ofNat 49) h1] = true := by kernel_rfl
theorem s50 (W : World) (a1 : Int) (h1 : ((a1.tmod (.ofNat 60)).natAbs : Int) = .ofNat 50) : tst W [.bool true, .res a1 (.ofNat 60) (.ofNat 50) h1] = true := by kernel_rfl
theorem s51 (W : World) (a1 : Int) (h1 : ((a1.tmod (.ofNat 60)).natAbs : Int) = .ofNat 51) : tst W [.bool true, .res a1 (.ofNat 60) (.ofNat 51) h1] = true := by kernel_rfl
theorem s52 (W : World) (a1 : Int) (h1 : ((a1.tmod (.ofNat 60)).natAbs : Int) = .ofNat 52) : tst W [.bool true, .res a1 (.ofNat 60) (.ofNat 52) h1] = true := by kernel_rfl
theorem s53 (W : World) (a1 : Int) (h1 : ((a1.tmod (.ofNat 60)).natAbs : Int) = .ofNat 53) : tst W [.bool true, .res a1 (.ofNat 60) (.ofNat 53) h1] = true := by kernel_rfl
theorem s54 (W : World) (a1 : Int) (h1 : ((a1.tmod (.ofNat 60)).natAbs : Int) = .ofNat 54) : tst W [.bool true, .res a1 (.ofNat 60) (.ofNat 54) h1] = true := by kernel_rfl
theorem s55 (W : World) (a1 : Int) (h1 : ((a1.tmod (.ofNat 60)).natAbs : Int) = .ofNat 55) : tst W [.bool true, .res a1 (.ofNat 60) (.ofNat 55) h1] = true := by kernel_rfl
theorem s56 (W : World) (a1 : Int) (h1 : ((a1.tmod (.ofNat 60)).natAbs : Int) = .ofNat 56) : tst W [.bool true, .res a1 (.ofNat 60) (.ofNat 56) h1] = true := by kernel_rfl
theorem s57 (W : World) (a1 : Int) (h1 : ((a1.tmod (.ofNat 60)).natAbs : Int) = .ofNat 57) : tst W [.bool true, .res a1 (.ofNat 60) (.ofNat 57) h1] = true := by kernel_rfl
theorem s58 (W : World) (a1 : Int) (h1 : ((a1.tmod (.ofNat 60)).natAbs : Int) = .ofNat 58) : tst W [.bool true, .res a1 (.ofNat 60) (.ofNat 58) h1] = true := by kernel_rfl
theorem s59 (W : World) (a1 : Int) (h1 : ((a1.tmod (.ofNat 60)).natAbs : Int) = .ofNat 59) : tst W [.bool true, .res a1 (.ofNat 60) (.ofNat 59) h1] = true := by kernel_rfl
end Go.Proofs.YtaijiiohebcakaaGreatDoor.topNegative
