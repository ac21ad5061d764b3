/- TopLibrary: the evaluator's answers, by the kernel. -/
import Derived.Test.YtfeefnmniolncaaGreatDoorEvTopLibraryRun
import Derived.KernelRfl
namespace Go.Proofs.YtfeefnmniolncaaGreatDoor.topLibrary
open Go.YtfeefnmniolncaaGreatDoorEv
set_option maxRecDepth 100000
theorem s44 (W : World) (a1 : Int) (h1 : ((a1.tmod (.ofNat 26)).natAbs : Int) = .ofNat 18) : tst W [.resl (.ofNat 250) (lanT 9 1), .res a1 (.ofNat 26) (.ofNat 18) h1] = true := by kernel_rfl
theorem s45 (W : World) (a1 : Int) (h1 : ((a1.tmod (.ofNat 26)).natAbs : Int) = .ofNat 19) : tst W [.resl (.ofNat 250) (lanT 9 1), .res a1 (.ofNat 26) (.ofNat 19) h1] = true := by kernel_rfl
theorem s46 (W : World) (a1 : Int) (h1 : ((a1.tmod (.ofNat 26)).natAbs : Int) = .ofNat 20) : tst W [.resl (.ofNat 250) (lanT 9 1), .res a1 (.ofNat 26) (.ofNat 20) h1] = true := by kernel_rfl
theorem s47 (W : World) (a1 : Int) (h1 : ((a1.tmod (.ofNat 26)).natAbs : Int) = .ofNat 21) : tst W [.resl (.ofNat 250) (lanT 9 1), .res a1 (.ofNat 26) (.ofNat 21) h1] = true := by kernel_rfl
theorem s48 (W : World) (a1 : Int) (h1 : ((a1.tmod (.ofNat 26)).natAbs : Int) = .ofNat 22) : tst W [.resl (.ofNat 250) (lanT 9 1), .res a1 (.ofNat 26) (.ofNat 22) h1] = true := by kernel_rfl
theorem s49 (W : World) (a1 : Int) (h1 : ((a1.tmod (.ofNat 26)).natAbs : Int) = .ofNat 23) : tst W [.resl (.ofNat 250) (lanT 9 1), .res a1 (.ofNat 26) (.ofNat 23) h1] = true := by kernel_rfl
theorem s50 (W : World) (a1 : Int) (h1 : ((a1.tmod (.ofNat 26)).natAbs : Int) = .ofNat 24) : tst W [.resl (.ofNat 250) (lanT 9 1), .res a1 (.ofNat 26) (.ofNat 24) h1] = true := by kernel_rfl
theorem s51 (W : World) (a1 : Int) (h1 : ((a1.tmod (.ofNat 26)).natAbs : Int) = .ofNat 25) : tst W [.resl (.ofNat 250) (lanT 9 1), .res a1 (.ofNat 26) (.ofNat 25) h1] = true := by kernel_rfl
theorem s52 (W : World) (a1 : Int) (h1 : ((a1.tmod (.ofNat 26)).natAbs : Int) = .ofNat 0) : tst W [.resl (.ofNat 250) (lanT 90 10), .res a1 (.ofNat 26) (.ofNat 0) h1] = true := by kernel_rfl
theorem s53 (W : World) (a1 : Int) (h1 : ((a1.tmod (.ofNat 26)).natAbs : Int) = .ofNat 1) : tst W [.resl (.ofNat 250) (lanT 90 10), .res a1 (.ofNat 26) (.ofNat 1) h1] = true := by kernel_rfl
theorem s54 (W : World) (a1 : Int) (h1 : ((a1.tmod (.ofNat 26)).natAbs : Int) = .ofNat 2) : tst W [.resl (.ofNat 250) (lanT 90 10), .res a1 (.ofNat 26) (.ofNat 2) h1] = true := by kernel_rfl
theorem s55 (W : World) (a1 : Int) (h1 : ((a1.tmod (.ofNat 26)).natAbs : Int) = .ofNat 3) : tst W [.resl (.ofNat 250) (lanT 90 10), .res a1 (.ofNat 26) (.ofNat 3) h1] = true := by kernel_rfl
theorem s56 (W : World) (a1 : Int) (h1 : ((a1.tmod (.ofNat 26)).natAbs : Int) = .ofNat 4) : tst W [.resl (.ofNat 250) (lanT 90 10), .res a1 (.ofNat 26) (.ofNat 4) h1] = true := by kernel_rfl
theorem s57 (W : World) (a1 : Int) (h1 : ((a1.tmod (.ofNat 26)).natAbs : Int) = .ofNat 5) : tst W [.resl (.ofNat 250) (lanT 90 10), .res a1 (.ofNat 26) (.ofNat 5) h1] = true := by kernel_rfl
theorem s58 (W : World) (a1 : Int) (h1 : ((a1.tmod (.ofNat 26)).natAbs : Int) = .ofNat 6) : tst W [.resl (.ofNat 250) (lanT 90 10), .res a1 (.ofNat 26) (.ofNat 6) h1] = true := by kernel_rfl
theorem s59 (W : World) (a1 : Int) (h1 : ((a1.tmod (.ofNat 26)).natAbs : Int) = .ofNat 7) : tst W [.resl (.ofNat 250) (lanT 90 10), .res a1 (.ofNat 26) (.ofNat 7) h1] = true := by kernel_rfl
theorem s60 (W : World) (a1 : Int) (h1 : ((a1.tmod (.ofNat 26)).natAbs : Int) = .ofNat 8) : tst W [.resl (.ofNat 250) (lanT 90 10), .res a1 (.ofNat 26) (.ofNat 8) h1] = true := by kernel_rfl
theorem s61 (W : World) (a1 : Int) (h1 : ((a1.tmod (.ofNat 26)).natAbs : Int) = .ofNat 9) : tst W [.resl (.ofNat 250) (lanT 90 10), .res a1 (.ofNat 26) (.ofNat 9) h1] = true := by kernel_rfl
theorem s62 (W : World) (a1 : Int) (h1 : ((a1.tmod (.ofNat 26)).natAbs : Int) = .ofNat 10) : tst W [.resl (.ofNat 250) (lanT 90 10), .res a1 (.ofNat 26) (.ofNat 10) h1] = true := by kernel_rfl
theorem s63 (W : World) (a1 : Int) (h1 : ((a1.tmod (.ofNat 26)).natAbs : Int) = .ofNat 11) : tst W [.resl (.ofNat 250) (lanT 90 10), .res a1 (.ofNat 26) (.ofNat 11) h1] = true := by kernel_rfl
theorem s64 (W : World) (a1 : Int) (h1 : ((a1.tmod (.ofNat 26)).natAbs : Int) = .ofNat 12) : tst W [.resl (.ofNat 250) (lanT 90 10), .res a1 (.ofNat 26) (.ofNat 12) h1] = true := by kernel_rfl
theorem s65 (W : World) (a1 : Int) (h1 : ((a1.tmod (.ofNat 26)).natAbs : Int) = .ofNat 13) : tst W [.resl (.ofNat 250) (lanT 90 10), .res a1 (.ofNat 26) (.ofNat 13) h1] = true := by kernel_rfl
end Go.Proofs.YtfeefnmniolncaaGreatDoor.topLibrary
