/- TopLibrary: the evaluator's answers, by the kernel. -/
import Derived.Test.YtfeefnmniolncaaGreatDoorEvTopLibraryRun
import Derived.KernelRfl
namespace Go.Proofs.YtfeefnmniolncaaGreatDoor.topLibrary
open Go.YtfeefnmniolncaaGreatDoorEv
set_option maxRecDepth 100000
theorem s110 (W : World) (a1 : Int) (h1 : ((a1.tmod (.ofNat 26)).natAbs : Int) = .ofNat 6) : tst W [.resl (.ofNat 250) (lanT 122 128), .res a1 (.ofNat 26) (.ofNat 6) h1] = true := by kernel_rfl
theorem s111 (W : World) (a1 : Int) (h1 : ((a1.tmod (.ofNat 26)).natAbs : Int) = .ofNat 7) : tst W [.resl (.ofNat 250) (lanT 122 128), .res a1 (.ofNat 26) (.ofNat 7) h1] = true := by kernel_rfl
theorem s112 (W : World) (a1 : Int) (h1 : ((a1.tmod (.ofNat 26)).natAbs : Int) = .ofNat 8) : tst W [.resl (.ofNat 250) (lanT 122 128), .res a1 (.ofNat 26) (.ofNat 8) h1] = true := by kernel_rfl
theorem s113 (W : World) (a1 : Int) (h1 : ((a1.tmod (.ofNat 26)).natAbs : Int) = .ofNat 9) : tst W [.resl (.ofNat 250) (lanT 122 128), .res a1 (.ofNat 26) (.ofNat 9) h1] = true := by kernel_rfl
theorem s114 (W : World) (a1 : Int) (h1 : ((a1.tmod (.ofNat 26)).natAbs : Int) = .ofNat 10) : tst W [.resl (.ofNat 250) (lanT 122 128), .res a1 (.ofNat 26) (.ofNat 10) h1] = true := by kernel_rfl
theorem s115 (W : World) (a1 : Int) (h1 : ((a1.tmod (.ofNat 26)).natAbs : Int) = .ofNat 11) : tst W [.resl (.ofNat 250) (lanT 122 128), .res a1 (.ofNat 26) (.ofNat 11) h1] = true := by kernel_rfl
theorem s116 (W : World) (a1 : Int) (h1 : ((a1.tmod (.ofNat 26)).natAbs : Int) = .ofNat 12) : tst W [.resl (.ofNat 250) (lanT 122 128), .res a1 (.ofNat 26) (.ofNat 12) h1] = true := by kernel_rfl
theorem s117 (W : World) (a1 : Int) (h1 : ((a1.tmod (.ofNat 26)).natAbs : Int) = .ofNat 13) : tst W [.resl (.ofNat 250) (lanT 122 128), .res a1 (.ofNat 26) (.ofNat 13) h1] = true := by kernel_rfl
theorem s118 (W : World) (a1 : Int) (h1 : ((a1.tmod (.ofNat 26)).natAbs : Int) = .ofNat 14) : tst W [.resl (.ofNat 250) (lanT 122 128), .res a1 (.ofNat 26) (.ofNat 14) h1] = true := by kernel_rfl
theorem s119 (W : World) (a1 : Int) (h1 : ((a1.tmod (.ofNat 26)).natAbs : Int) = .ofNat 15) : tst W [.resl (.ofNat 250) (lanT 122 128), .res a1 (.ofNat 26) (.ofNat 15) h1] = true := by kernel_rfl
theorem s120 (W : World) (a1 : Int) (h1 : ((a1.tmod (.ofNat 26)).natAbs : Int) = .ofNat 16) : tst W [.resl (.ofNat 250) (lanT 122 128), .res a1 (.ofNat 26) (.ofNat 16) h1] = true := by kernel_rfl
theorem s121 (W : World) (a1 : Int) (h1 : ((a1.tmod (.ofNat 26)).natAbs : Int) = .ofNat 17) : tst W [.resl (.ofNat 250) (lanT 122 128), .res a1 (.ofNat 26) (.ofNat 17) h1] = true := by kernel_rfl
theorem s122 (W : World) (a1 : Int) (h1 : ((a1.tmod (.ofNat 26)).natAbs : Int) = .ofNat 18) : tst W [.resl (.ofNat 250) (lanT 122 128), .res a1 (.ofNat 26) (.ofNat 18) h1] = true := by kernel_rfl
theorem s123 (W : World) (a1 : Int) (h1 : ((a1.tmod (.ofNat 26)).natAbs : Int) = .ofNat 19) : tst W [.resl (.ofNat 250) (lanT 122 128), .res a1 (.ofNat 26) (.ofNat 19) h1] = true := by kernel_rfl
theorem s124 (W : World) (a1 : Int) (h1 : ((a1.tmod (.ofNat 26)).natAbs : Int) = .ofNat 20) : tst W [.resl (.ofNat 250) (lanT 122 128), .res a1 (.ofNat 26) (.ofNat 20) h1] = true := by kernel_rfl
theorem s125 (W : World) (a1 : Int) (h1 : ((a1.tmod (.ofNat 26)).natAbs : Int) = .ofNat 21) : tst W [.resl (.ofNat 250) (lanT 122 128), .res a1 (.ofNat 26) (.ofNat 21) h1] = true := by kernel_rfl
theorem s126 (W : World) (a1 : Int) (h1 : ((a1.tmod (.ofNat 26)).natAbs : Int) = .ofNat 22) : tst W [.resl (.ofNat 250) (lanT 122 128), .res a1 (.ofNat 26) (.ofNat 22) h1] = true := by kernel_rfl
theorem s127 (W : World) (a1 : Int) (h1 : ((a1.tmod (.ofNat 26)).natAbs : Int) = .ofNat 23) : tst W [.resl (.ofNat 250) (lanT 122 128), .res a1 (.ofNat 26) (.ofNat 23) h1] = true := by kernel_rfl
theorem s128 (W : World) (a1 : Int) (h1 : ((a1.tmod (.ofNat 26)).natAbs : Int) = .ofNat 24) : tst W [.resl (.ofNat 250) (lanT 122 128), .res a1 (.ofNat 26) (.ofNat 24) h1] = true := by kernel_rfl
theorem s129 (W : World) (a1 : Int) (h1 : ((a1.tmod (.ofNat 26)).natAbs : Int) = .ofNat 25) : tst W [.resl (.ofNat 250) (lanT 122 128), .res a1 (.ofNat 26) (.ofNat 25) h1] = true := by kernel_rfl
end Go.Proofs.YtfeefnmniolncaaGreatDoor.topLibrary
