/- TopLibrary: the evaluator's answers, by the kernel. -/
import Derived.Test.YtfeefnmniolncaaGreatDoorEvTopLibraryRun
import Derived.KernelRfl
namespace Go.Proofs.YtfeefnmniolncaaGreatDoor.topLibrary
open Go.YtfeefnmniolncaaGreatDoorEv
set_option maxRecDepth 100000
theorem s22 (W : World) (a1 : Int) (h1 : ((a1.tmod (.ofNat 26)).natAbs : Int) = .ofNat 22) : tst W [.resl (.ofNat 250) (lanT 1 0), .res a1 (.ofNat 26) (.ofNat 22) h1] = true := by kernel_rfl
theorem s23 (W : World) (a1 : Int) (h1 : ((a1.tmod (.ofNat 26)).natAbs : Int) = .ofNat 23) : tst W [.resl (.ofNat 250) (lanT 1 0), .res a1 (.ofNat 26) (.ofNat 23) h1] = true := by kernel_rfl
theorem s24 (W : World) (a1 : Int) (h1 : ((a1.tmod (.ofNat 26)).natAbs : Int) = .ofNat 24) : tst W [.resl (.ofNat 250) (lanT 1 0), .res a1 (.ofNat 26) (.ofNat 24) h1] = true := by kernel_rfl
theorem s25 (W : World) (a1 : Int) (h1 : ((a1.tmod (.ofNat 26)).natAbs : Int) = .ofNat 25) : tst W [.resl (.ofNat 250) (lanT 1 0), .res a1 (.ofNat 26) (.ofNat 25) h1] = true := by kernel_rfl
theorem s26 (W : World) (a1 : Int) (h1 : ((a1.tmod (.ofNat 26)).natAbs : Int) = .ofNat 0) : tst W [.resl (.ofNat 250) (lanT 9 1), .res a1 (.ofNat 26) (.ofNat 0) h1] = true := by kernel_rfl
theorem s27 (W : World) (a1 : Int) (h1 : ((a1.tmod (.ofNat 26)).natAbs : Int) = .ofNat 1) : tst W [.resl (.ofNat 250) (lanT 9 1), .res a1 (.ofNat 26) (.ofNat 1) h1] = true := by kernel_rfl
theorem s28 (W : World) (a1 : Int) (h1 : ((a1.tmod (.ofNat 26)).natAbs : Int) = .ofNat 2) : tst W [.resl (.ofNat 250) (lanT 9 1), .res a1 (.ofNat 26) (.ofNat 2) h1] = true := by kernel_rfl
theorem s29 (W : World) (a1 : Int) (h1 : ((a1.tmod (.ofNat 26)).natAbs : Int) = .ofNat 3) : tst W [.resl (.ofNat 250) (lanT 9 1), .res a1 (.ofNat 26) (.ofNat 3) h1] = true := by kernel_rfl
theorem s30 (W : World) (a1 : Int) (h1 : ((a1.tmod (.ofNat 26)).natAbs : Int) = .ofNat 4) : tst W [.resl (.ofNat 250) (lanT 9 1), .res a1 (.ofNat 26) (.ofNat 4) h1] = true := by kernel_rfl
theorem s31 (W : World) (a1 : Int) (h1 : ((a1.tmod (.ofNat 26)).natAbs : Int) = .ofNat 5) : tst W [.resl (.ofNat 250) (lanT 9 1), .res a1 (.ofNat 26) (.ofNat 5) h1] = true := by kernel_rfl
theorem s32 (W : World) (a1 : Int) (h1 : ((a1.tmod (.ofNat 26)).natAbs : Int) = .ofNat 6) : tst W [.resl (.ofNat 250) (lanT 9 1), .res a1 (.ofNat 26) (.ofNat 6) h1] = true := by kernel_rfl
theorem s33 (W : World) (a1 : Int) (h1 : ((a1.tmod (.ofNat 26)).natAbs : Int) = .ofNat 7) : tst W [.resl (.ofNat 250) (lanT 9 1), .res a1 (.ofNat 26) (.ofNat 7) h1] = true := by kernel_rfl
theorem s34 (W : World) (a1 : Int) (h1 : ((a1.tmod (.ofNat 26)).natAbs : Int) = .ofNat 8) : tst W [.resl (.ofNat 250) (lanT 9 1), .res a1 (.ofNat 26) (.ofNat 8) h1] = true := by kernel_rfl
theorem s35 (W : World) (a1 : Int) (h1 : ((a1.tmod (.ofNat 26)).natAbs : Int) = .ofNat 9) : tst W [.resl (.ofNat 250) (lanT 9 1), .res a1 (.ofNat 26) (.ofNat 9) h1] = true := by kernel_rfl
theorem s36 (W : World) (a1 : Int) (h1 : ((a1.tmod (.ofNat 26)).natAbs : Int) = .ofNat 10) : tst W [.resl (.ofNat 250) (lanT 9 1), .res a1 (.ofNat 26) (.ofNat 10) h1] = true := by kernel_rfl
theorem s37 (W : World) (a1 : Int) (h1 : ((a1.tmod (.ofNat 26)).natAbs : Int) = .ofNat 11) : tst W [.resl (.ofNat 250) (lanT 9 1), .res a1 (.ofNat 26) (.ofNat 11) h1] = true := by kernel_rfl
theorem s38 (W : World) (a1 : Int) (h1 : ((a1.tmod (.ofNat 26)).natAbs : Int) = .ofNat 12) : tst W [.resl (.ofNat 250) (lanT 9 1), .res a1 (.ofNat 26) (.ofNat 12) h1] = true := by kernel_rfl
theorem s39 (W : World) (a1 : Int) (h1 : ((a1.tmod (.ofNat 26)).natAbs : Int) = .ofNat 13) : tst W [.resl (.ofNat 250) (lanT 9 1), .res a1 (.ofNat 26) (.ofNat 13) h1] = true := by kernel_rfl
theorem s40 (W : World) (a1 : Int) (h1 : ((a1.tmod (.ofNat 26)).natAbs : Int) = .ofNat 14) : tst W [.resl (.ofNat 250) (lanT 9 1), .res a1 (.ofNat 26) (.ofNat 14) h1] = true := by kernel_rfl
theorem s41 (W : World) (a1 : Int) (h1 : ((a1.tmod (.ofNat 26)).natAbs : Int) = .ofNat 15) : tst W [.resl (.ofNat 250) (lanT 9 1), .res a1 (.ofNat 26) (.ofNat 15) h1] = true := by kernel_rfl
theorem s42 (W : World) (a1 : Int) (h1 : ((a1.tmod (.ofNat 26)).natAbs : Int) = .ofNat 16) : tst W [.resl (.ofNat 250) (lanT 9 1), .res a1 (.ofNat 26) (.ofNat 16) h1] = true := by kernel_rfl
theorem s43 (W : World) (a1 : Int) (h1 : ((a1.tmod (.ofNat 26)).natAbs : Int) = .ofNat 17) : tst W [.resl (.ofNat 250) (lanT 9 1), .res a1 (.ofNat 26) (.ofNat 17) h1] = true := by kernel_rfl
end Go.Proofs.YtfeefnmniolncaaGreatDoor.topLibrary
