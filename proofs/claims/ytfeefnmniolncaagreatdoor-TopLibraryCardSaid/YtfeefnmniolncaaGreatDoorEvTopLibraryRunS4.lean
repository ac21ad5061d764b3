/- TopLibrary: the evaluator's answers, by the kernel. -/
import Derived.Test.YtfeefnmniolncaaGreatDoorEvTopLibraryRun
import Derived.KernelRfl
namespace Go.Proofs.YtfeefnmniolncaaGreatDoor.topLibrary
open Go.YtfeefnmniolncaaGreatDoorEv
set_option maxRecDepth 100000
theorem s88 (W : World) (a1 : Int) (h1 : ((a1.tmod (.ofNat 26)).natAbs : Int) = .ofNat 10) : tst W [.resl (.ofNat 250) (lanT 28 100), .res a1 (.ofNat 26) (.ofNat 10) h1] = true := by kernel_rfl
theorem s89 (W : World) (a1 : Int) (h1 : ((a1.tmod (.ofNat 26)).natAbs : Int) = .ofNat 11) : tst W [.resl (.ofNat 250) (lanT 28 100), .res a1 (.ofNat 26) (.ofNat 11) h1] = true := by kernel_rfl
theorem s90 (W : World) (a1 : Int) (h1 : ((a1.tmod (.ofNat 26)).natAbs : Int) = .ofNat 12) : tst W [.resl (.ofNat 250) (lanT 28 100), .res a1 (.ofNat 26) (.ofNat 12) h1] = true := by kernel_rfl
theorem s91 (W : World) (a1 : Int) (h1 : ((a1.tmod (.ofNat 26)).natAbs : Int) = .ofNat 13) : tst W [.resl (.ofNat 250) (lanT 28 100), .res a1 (.ofNat 26) (.ofNat 13) h1] = true := by kernel_rfl
theorem s92 (W : World) (a1 : Int) (h1 : ((a1.tmod (.ofNat 26)).natAbs : Int) = .ofNat 14) : tst W [.resl (.ofNat 250) (lanT 28 100), .res a1 (.ofNat 26) (.ofNat 14) h1] = true := by kernel_rfl
theorem s93 (W : World) (a1 : Int) (h1 : ((a1.tmod (.ofNat 26)).natAbs : Int) = .ofNat 15) : tst W [.resl (.ofNat 250) (lanT 28 100), .res a1 (.ofNat 26) (.ofNat 15) h1] = true := by kernel_rfl
theorem s94 (W : World) (a1 : Int) (h1 : ((a1.tmod (.ofNat 26)).natAbs : Int) = .ofNat 16) : tst W [.resl (.ofNat 250) (lanT 28 100), .res a1 (.ofNat 26) (.ofNat 16) h1] = true := by kernel_rfl
theorem s95 (W : World) (a1 : Int) (h1 : ((a1.tmod (.ofNat 26)).natAbs : Int) = .ofNat 17) : tst W [.resl (.ofNat 250) (lanT 28 100), .res a1 (.ofNat 26) (.ofNat 17) h1] = true := by kernel_rfl
theorem s96 (W : World) (a1 : Int) (h1 : ((a1.tmod (.ofNat 26)).natAbs : Int) = .ofNat 18) : tst W [.resl (.ofNat 250) (lanT 28 100), .res a1 (.ofNat 26) (.ofNat 18) h1] = true := by kernel_rfl
theorem s97 (W : World) (a1 : Int) (h1 : ((a1.tmod (.ofNat 26)).natAbs : Int) = .ofNat 19) : tst W [.resl (.ofNat 250) (lanT 28 100), .res a1 (.ofNat 26) (.ofNat 19) h1] = true := by kernel_rfl
theorem s98 (W : World) (a1 : Int) (h1 : ((a1.tmod (.ofNat 26)).natAbs : Int) = .ofNat 20) : tst W [.resl (.ofNat 250) (lanT 28 100), .res a1 (.ofNat 26) (.ofNat 20) h1] = true := by kernel_rfl
theorem s99 (W : World) (a1 : Int) (h1 : ((a1.tmod (.ofNat 26)).natAbs : Int) = .ofNat 21) : tst W [.resl (.ofNat 250) (lanT 28 100), .res a1 (.ofNat 26) (.ofNat 21) h1] = true := by kernel_rfl
theorem s100 (W : World) (a1 : Int) (h1 : ((a1.tmod (.ofNat 26)).natAbs : Int) = .ofNat 22) : tst W [.resl (.ofNat 250) (lanT 28 100), .res a1 (.ofNat 26) (.ofNat 22) h1] = true := by kernel_rfl
theorem s101 (W : World) (a1 : Int) (h1 : ((a1.tmod (.ofNat 26)).natAbs : Int) = .ofNat 23) : tst W [.resl (.ofNat 250) (lanT 28 100), .res a1 (.ofNat 26) (.ofNat 23) h1] = true := by kernel_rfl
theorem s102 (W : World) (a1 : Int) (h1 : ((a1.tmod (.ofNat 26)).natAbs : Int) = .ofNat 24) : tst W [.resl (.ofNat 250) (lanT 28 100), .res a1 (.ofNat 26) (.ofNat 24) h1] = true := by kernel_rfl
theorem s103 (W : World) (a1 : Int) (h1 : ((a1.tmod (.ofNat 26)).natAbs : Int) = .ofNat 25) : tst W [.resl (.ofNat 250) (lanT 28 100), .res a1 (.ofNat 26) (.ofNat 25) h1] = true := by kernel_rfl
theorem s104 (W : World) (a1 : Int) (h1 : ((a1.tmod (.ofNat 26)).natAbs : Int) = .ofNat 0) : tst W [.resl (.ofNat 250) (lanT 122 128), .res a1 (.ofNat 26) (.ofNat 0) h1] = true := by kernel_rfl
theorem s105 (W : World) (a1 : Int) (h1 : ((a1.tmod (.ofNat 26)).natAbs : Int) = .ofNat 1) : tst W [.resl (.ofNat 250) (lanT 122 128), .res a1 (.ofNat 26) (.ofNat 1) h1] = true := by kernel_rfl
theorem s106 (W : World) (a1 : Int) (h1 : ((a1.tmod (.ofNat 26)).natAbs : Int) = .ofNat 2) : tst W [.resl (.ofNat 250) (lanT 122 128), .res a1 (.ofNat 26) (.ofNat 2) h1] = true := by kernel_rfl
theorem s107 (W : World) (a1 : Int) (h1 : ((a1.tmod (.ofNat 26)).natAbs : Int) = .ofNat 3) : tst W [.resl (.ofNat 250) (lanT 122 128), .res a1 (.ofNat 26) (.ofNat 3) h1] = true := by kernel_rfl
theorem s108 (W : World) (a1 : Int) (h1 : ((a1.tmod (.ofNat 26)).natAbs : Int) = .ofNat 4) : tst W [.resl (.ofNat 250) (lanT 122 128), .res a1 (.ofNat 26) (.ofNat 4) h1] = true := by kernel_rfl
theorem s109 (W : World) (a1 : Int) (h1 : ((a1.tmod (.ofNat 26)).natAbs : Int) = .ofNat 5) : tst W [.resl (.ofNat 250) (lanT 122 128), .res a1 (.ofNat 26) (.ofNat 5) h1] = true := by kernel_rfl
end Go.Proofs.YtfeefnmniolncaaGreatDoor.topLibrary
