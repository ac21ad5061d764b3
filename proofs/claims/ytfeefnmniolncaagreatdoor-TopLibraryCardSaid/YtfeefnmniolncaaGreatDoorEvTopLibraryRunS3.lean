/- TopLibrary: the evaluator's answers, by the kernel. -/
import Derived.Test.YtfeefnmniolncaaGreatDoorEvTopLibraryRun
import Derived.KernelRfl
namespace Go.Proofs.YtfeefnmniolncaaGreatDoor.topLibrary
open Go.YtfeefnmniolncaaGreatDoorEv
set_option maxRecDepth 100000
theorem s66 (W : World) (a1 : Int) (h1 : ((a1.tmod (.ofNat 26)).natAbs : Int) = .ofNat 14) : tst W [.resl (.ofNat 250) (lanT 90 10), .res a1 (.ofNat 26) (.ofNat 14) h1] = true := by kernel_rfl
theorem s67 (W : World) (a1 : Int) (h1 : ((a1.tmod (.ofNat 26)).natAbs : Int) = .ofNat 15) : tst W [.resl (.ofNat 250) (lanT 90 10), .res a1 (.ofNat 26) (.ofNat 15) h1] = true := by kernel_rfl
theorem s68 (W : World) (a1 : Int) (h1 : ((a1.tmod (.ofNat 26)).natAbs : Int) = .ofNat 16) : tst W [.resl (.ofNat 250) (lanT 90 10), .res a1 (.ofNat 26) (.ofNat 16) h1] = true := by kernel_rfl
theorem s69 (W : World) (a1 : Int) (h1 : ((a1.tmod (.ofNat 26)).natAbs : Int) = .ofNat 17) : tst W [.resl (.ofNat 250) (lanT 90 10), .res a1 (.ofNat 26) (.ofNat 17) h1] = true := by kernel_rfl
theorem s70 (W : World) (a1 : Int) (h1 : ((a1.tmod (.ofNat 26)).natAbs : Int) = .ofNat 18) : tst W [.resl (.ofNat 250) (lanT 90 10), .res a1 (.ofNat 26) (.ofNat 18) h1] = true := by kernel_rfl
theorem s71 (W : World) (a1 : Int) (h1 : ((a1.tmod (.ofNat 26)).natAbs : Int) = .ofNat 19) : tst W [.resl (.ofNat 250) (lanT 90 10), .res a1 (.ofNat 26) (.ofNat 19) h1] = true := by kernel_rfl
theorem s72 (W : World) (a1 : Int) (h1 : ((a1.tmod (.ofNat 26)).natAbs : Int) = .ofNat 20) : tst W [.resl (.ofNat 250) (lanT 90 10), .res a1 (.ofNat 26) (.ofNat 20) h1] = true := by kernel_rfl
theorem s73 (W : World) (a1 : Int) (h1 : ((a1.tmod (.ofNat 26)).natAbs : Int) = .ofNat 21) : tst W [.resl (.ofNat 250) (lanT 90 10), .res a1 (.ofNat 26) (.ofNat 21) h1] = true := by kernel_rfl
theorem s74 (W : World) (a1 : Int) (h1 : ((a1.tmod (.ofNat 26)).natAbs : Int) = .ofNat 22) : tst W [.resl (.ofNat 250) (lanT 90 10), .res a1 (.ofNat 26) (.ofNat 22) h1] = true := by kernel_rfl
theorem s75 (W : World) (a1 : Int) (h1 : ((a1.tmod (.ofNat 26)).natAbs : Int) = .ofNat 23) : tst W [.resl (.ofNat 250) (lanT 90 10), .res a1 (.ofNat 26) (.ofNat 23) h1] = true := by kernel_rfl
theorem s76 (W : World) (a1 : Int) (h1 : ((a1.tmod (.ofNat 26)).natAbs : Int) = .ofNat 24) : tst W [.resl (.ofNat 250) (lanT 90 10), .res a1 (.ofNat 26) (.ofNat 24) h1] = true := by kernel_rfl
theorem s77 (W : World) (a1 : Int) (h1 : ((a1.tmod (.ofNat 26)).natAbs : Int) = .ofNat 25) : tst W [.resl (.ofNat 250) (lanT 90 10), .res a1 (.ofNat 26) (.ofNat 25) h1] = true := by kernel_rfl
theorem s78 (W : World) (a1 : Int) (h1 : ((a1.tmod (.ofNat 26)).natAbs : Int) = .ofNat 0) : tst W [.resl (.ofNat 250) (lanT 28 100), .res a1 (.ofNat 26) (.ofNat 0) h1] = true := by kernel_rfl
theorem s79 (W : World) (a1 : Int) (h1 : ((a1.tmod (.ofNat 26)).natAbs : Int) = .ofNat 1) : tst W [.resl (.ofNat 250) (lanT 28 100), .res a1 (.ofNat 26) (.ofNat 1) h1] = true := by kernel_rfl
theorem s80 (W : World) (a1 : Int) (h1 : ((a1.tmod (.ofNat 26)).natAbs : Int) = .ofNat 2) : tst W [.resl (.ofNat 250) (lanT 28 100), .res a1 (.ofNat 26) (.ofNat 2) h1] = true := by kernel_rfl
theorem s81 (W : World) (a1 : Int) (h1 : ((a1.tmod (.ofNat 26)).natAbs : Int) = .ofNat 3) : tst W [.resl (.ofNat 250) (lanT 28 100), .res a1 (.ofNat 26) (.ofNat 3) h1] = true := by kernel_rfl
theorem s82 (W : World) (a1 : Int) (h1 : ((a1.tmod (.ofNat 26)).natAbs : Int) = .ofNat 4) : tst W [.resl (.ofNat 250) (lanT 28 100), .res a1 (.ofNat 26) (.ofNat 4) h1] = true := by kernel_rfl
theorem s83 (W : World) (a1 : Int) (h1 : ((a1.tmod (.ofNat 26)).natAbs : Int) = .ofNat 5) : tst W [.resl (.ofNat 250) (lanT 28 100), .res a1 (.ofNat 26) (.ofNat 5) h1] = true := by kernel_rfl
theorem s84 (W : World) (a1 : Int) (h1 : ((a1.tmod (.ofNat 26)).natAbs : Int) = .ofNat 6) : tst W [.resl (.ofNat 250) (lanT 28 100), .res a1 (.ofNat 26) (.ofNat 6) h1] = true := by kernel_rfl
theorem s85 (W : World) (a1 : Int) (h1 : ((a1.tmod (.ofNat 26)).natAbs : Int) = .ofNat 7) : tst W [.resl (.ofNat 250) (lanT 28 100), .res a1 (.ofNat 26) (.ofNat 7) h1] = true := by kernel_rfl
theorem s86 (W : World) (a1 : Int) (h1 : ((a1.tmod (.ofNat 26)).natAbs : Int) = .ofNat 8) : tst W [.resl (.ofNat 250) (lanT 28 100), .res a1 (.ofNat 26) (.ofNat 8) h1] = true := by kernel_rfl
theorem s87 (W : World) (a1 : Int) (h1 : ((a1.tmod (.ofNat 26)).natAbs : Int) = .ofNat 9) : tst W [.resl (.ofNat 250) (lanT 28 100), .res a1 (.ofNat 26) (.ofNat 9) h1] = true := by kernel_rfl
end Go.Proofs.YtfeefnmniolncaaGreatDoor.topLibrary
