/- TopLibrary: the evaluator's answers, by the kernel. -/
import Derived.Test.YtfeefnmniolncaaGreatDoorEvTopLibraryRun
import Derived.KernelRfl
namespace Go.Proofs.YtfeefnmniolncaaGreatDoor.topLibrary
open Go.YtfeefnmniolncaaGreatDoorEv
set_option maxRecDepth 100000
theorem s0 (W : World) (a1 : Int) (h1 : ((a1.tmod (.ofNat 26)).natAbs : Int) = .ofNat 0) : tst W [.resl (.ofNat 250) (lanT 1 0), .res a1 (.ofNat 26) (.ofNat 0) h1] = true := by kernel_rfl
theorem s1 (W : World) (a1 : Int) (h1 : ((a1.tmod (.ofNat 26)).natAbs : Int) = .ofNat 1) : tst W [.resl (.ofNat 250) (lanT 1 0), .res a1 (.ofNat 26) (.ofNat 1) h1] = true := by kernel_rfl
theorem s2 (W : World) (a1 : Int) (h1 : ((a1.tmod (.ofNat 26)).natAbs : Int) = .ofNat 2) : tst W [.resl (.ofNat 250) (lanT 1 0), .res a1 (.ofNat 26) (.ofNat 2) h1] = true := by kernel_rfl
theorem s3 (W : World) (a1 : Int) (h1 : ((a1.tmod (.ofNat 26)).natAbs : Int) = .ofNat 3) : tst W [.resl (.ofNat 250) (lanT 1 0), .res a1 (.ofNat 26) (.ofNat 3) h1] = true := by kernel_rfl
theorem s4 (W : World) (a1 : Int) (h1 : ((a1.tmod (.ofNat 26)).natAbs : Int) = .ofNat 4) : tst W [.resl (.ofNat 250) (lanT 1 0), .res a1 (.ofNat 26) (.ofNat 4) h1] = true := by kernel_rfl
theorem s5 (W : World) (a1 : Int) (h1 : ((a1.tmod (.ofNat 26)).natAbs : Int) = .ofNat 5) : tst W [.resl (.ofNat 250) (lanT 1 0), .res a1 (.ofNat 26) (.ofNat 5) h1] = true := by kernel_rfl
theorem s6 (W : World) (a1 : Int) (h1 : ((a1.tmod (.ofNat 26)).natAbs : Int) = .ofNat 6) : tst W [.resl (.ofNat 250) (lanT 1 0), .res a1 (.ofNat 26) (.ofNat 6) h1] = true := by kernel_rfl
theorem s7 (W : World) (a1 : Int) (h1 : ((a1.tmod (.ofNat 26)).natAbs : Int) = .ofNat 7) : tst W [.resl (.ofNat 250) (lanT 1 0), .res a1 (.ofNat 26) (.ofNat 7) h1] = true := by kernel_rfl
theorem s8 (W : World) (a1 : Int) (h1 : ((a1.tmod (.ofNat 26)).natAbs : Int) = .ofNat 8) : tst W [.resl (.ofNat 250) (lanT 1 0), .res a1 (.ofNat 26) (.ofNat 8) h1] = true := by kernel_rfl
theorem s9 (W : World) (a1 : Int) (h1 : ((a1.tmod (.ofNat 26)).natAbs : Int) = .ofNat 9) : tst W [.resl (.ofNat 250) (lanT 1 0), .res a1 (.ofNat 26) (.ofNat 9) h1] = true := by kernel_rfl
theorem s10 (W : World) (a1 : Int) (h1 : ((a1.tmod (.ofNat 26)).natAbs : Int) = .ofNat 10) : tst W [.resl (.ofNat 250) (lanT 1 0), .res a1 (.ofNat 26) (.ofNat 10) h1] = true := by kernel_rfl
theorem s11 (W : World) (a1 : Int) (h1 : ((a1.tmod (.ofNat 26)).natAbs : Int) = .ofNat 11) : tst W [.resl (.ofNat 250) (lanT 1 0), .res a1 (.ofNat 26) (.ofNat 11) h1] = true := by kernel_rfl
theorem s12 (W : World) (a1 : Int) (h1 : ((a1.tmod (.ofNat 26)).natAbs : Int) = .ofNat 12) : tst W [.resl (.ofNat 250) (lanT 1 0), .res a1 (.ofNat 26) (.ofNat 12) h1] = true := by kernel_rfl
theorem s13 (W : World) (a1 : Int) (h1 : ((a1.tmod (.ofNat 26)).natAbs : Int) = .ofNat 13) : tst W [.resl (.ofNat 250) (lanT 1 0), .res a1 (.ofNat 26) (.ofNat 13) h1] = true := by kernel_rfl
theorem s14 (W : World) (a1 : Int) (h1 : ((a1.tmod (.ofNat 26)).natAbs : Int) = .ofNat 14) : tst W [.resl (.ofNat 250) (lanT 1 0), .res a1 (.ofNat 26) (.ofNat 14) h1] = true := by kernel_rfl
theorem s15 (W : World) (a1 : Int) (h1 : ((a1.tmod (.ofNat 26)).natAbs : Int) = .ofNat 15) : tst W [.resl (.ofNat 250) (lanT 1 0), .res a1 (.ofNat 26) (.ofNat 15) h1] = true := by kernel_rfl
theorem s16 (W : World) (a1 : Int) (h1 : ((a1.tmod (.ofNat 26)).natAbs : Int) = .ofNat 16) : tst W [.resl (.ofNat 250) (lanT 1 0), .res a1 (.ofNat 26) (.ofNat 16) h1] = true := by kernel_rfl
theorem s17 (W : World) (a1 : Int) (h1 : ((a1.tmod (.ofNat 26)).natAbs : Int) = .ofNat 17) : tst W [.resl (.ofNat 250) (lanT 1 0), .res a1 (.ofNat 26) (.ofNat 17) h1] = true := by kernel_rfl
theorem s18 (W : World) (a1 : Int) (h1 : ((a1.tmod (.ofNat 26)).natAbs : Int) = .ofNat 18) : tst W [.resl (.ofNat 250) (lanT 1 0), .res a1 (.ofNat 26) (.ofNat 18) h1] = true := by kernel_rfl
theorem s19 (W : World) (a1 : Int) (h1 : ((a1.tmod (.ofNat 26)).natAbs : Int) = .ofNat 19) : tst W [.resl (.ofNat 250) (lanT 1 0), .res a1 (.ofNat 26) (.ofNat 19) h1] = true := by kernel_rfl
theorem s20 (W : World) (a1 : Int) (h1 : ((a1.tmod (.ofNat 26)).natAbs : Int) = .ofNat 20) : tst W [.resl (.ofNat 250) (lanT 1 0), .res a1 (.ofNat 26) (.ofNat 20) h1] = true := by kernel_rfl
theorem s21 (W : World) (a1 : Int) (h1 : ((a1.tmod (.ofNat 26)).natAbs : Int) = .ofNat 21) : tst W [.resl (.ofNat 250) (lanT 1 0), .res a1 (.ofNat 26) (.ofNat 21) h1] = true := by kernel_rfl
end Go.Proofs.YtfeefnmniolncaaGreatDoor.topLibrary
