/- TopJoin: the evaluator's answers, by the kernel. -/
import Derived.Test.YtfeefnmniolncaaGreatDoorEvTopJoinRun
import Derived.KernelRfl
namespace Go.Proofs.YtfeefnmniolncaaGreatDoor.topJoin
open Go.YtfeefnmniolncaaGreatDoorEv
set_option maxRecDepth 100000
theorem s0 (W : World) (a0 : Int) (h0 : ((a0.tmod (.ofNat 12)).natAbs : Int) = .ofNat 0) : tst W [.res a0 (.ofNat 12) (.ofNat 0) h0, .resl (.ofNat 250) (lanT 1 0)] = true := by kernel_rfl
theorem s1 (W : World) (a0 : Int) (h0 : ((a0.tmod (.ofNat 12)).natAbs : Int) = .ofNat 0) : tst W [.res a0 (.ofNat 12) (.ofNat 0) h0, .resl (.ofNat 250) (lanT 9 1)] = true := by kernel_rfl
theorem s2 (W : World) (a0 : Int) (h0 : ((a0.tmod (.ofNat 12)).natAbs : Int) = .ofNat 0) : tst W [.res a0 (.ofNat 12) (.ofNat 0) h0, .resl (.ofNat 250) (lanT 90 10)] = true := by kernel_rfl
theorem s3 (W : World) (a0 : Int) (h0 : ((a0.tmod (.ofNat 12)).natAbs : Int) = .ofNat 0) : tst W [.res a0 (.ofNat 12) (.ofNat 0) h0, .resl (.ofNat 250) (lanT 28 100)] = true := by kernel_rfl
theorem s4 (W : World) (a0 : Int) (h0 : ((a0.tmod (.ofNat 12)).natAbs : Int) = .ofNat 0) : tst W [.res a0 (.ofNat 12) (.ofNat 0) h0, .resl (.ofNat 250) (lanT 122 128)] = true := by kernel_rfl
theorem s5 (W : World) (a0 : Int) (h0 : ((a0.tmod (.ofNat 12)).natAbs : Int) = .ofNat 1) : tst W [.res a0 (.ofNat 12) (.ofNat 1) h0, .resl (.ofNat 250) (lanT 1 0)] = true := by kernel_rfl
theorem s6 (W : World) (a0 : Int) (h0 : ((a0.tmod (.ofNat 12)).natAbs : Int) = .ofNat 1) : tst W [.res a0 (.ofNat 12) (.ofNat 1) h0, .resl (.ofNat 250) (lanT 9 1)] = true := by kernel_rfl
theorem s7 (W : World) (a0 : Int) (h0 : ((a0.tmod (.ofNat 12)).natAbs : Int) = .ofNat 1) : tst W [.res a0 (.ofNat 12) (.ofNat 1) h0, .resl (.ofNat 250) (lanT 90 10)] = true := by kernel_rfl
theorem s8 (W : World) (a0 : Int) (h0 : ((a0.tmod (.ofNat 12)).natAbs : Int) = .ofNat 1) : tst W [.res a0 (.ofNat 12) (.ofNat 1) h0, .resl (.ofNat 250) (lanT 28 100)] = true := by kernel_rfl
theorem s9 (W : World) (a0 : Int) (h0 : ((a0.tmod (.ofNat 12)).natAbs : Int) = .ofNat 1) : tst W [.res a0 (.ofNat 12) (.ofNat 1) h0, .resl (.ofNat 250) (lanT 122 128)] = true := by kernel_rfl
theorem s10 (W : World) (a0 : Int) (h0 : ((a0.tmod (.ofNat 12)).natAbs : Int) = .ofNat 2) : tst W [.res a0 (.ofNat 12) (.ofNat 2) h0, .resl (.ofNat 250) (lanT 1 0)] = true := by kernel_rfl
theorem s11 (W : World) (a0 : Int) (h0 : ((a0.tmod (.ofNat 12)).natAbs : Int) = .ofNat 2) : tst W [.res a0 (.ofNat 12) (.ofNat 2) h0, .resl (.ofNat 250) (lanT 9 1)] = true := by kernel_rfl
theorem s12 (W : World) (a0 : Int) (h0 : ((a0.tmod (.ofNat 12)).natAbs : Int) = .ofNat 2) : tst W [.res a0 (.ofNat 12) (.ofNat 2) h0, .resl (.ofNat 250) (lanT 90 10)] = true := by kernel_rfl
theorem s13 (W : World) (a0 : Int) (h0 : ((a0.tmod (.ofNat 12)).natAbs : Int) = .ofNat 2) : tst W [.res a0 (.ofNat 12) (.ofNat 2) h0, .resl (.ofNat 250) (lanT 28 100)] = true := by kernel_rfl
theorem s14 (W : World) (a0 : Int) (h0 : ((a0.tmod (.ofNat 12)).natAbs : Int) = .ofNat 2) : tst W [.res a0 (.ofNat 12) (.ofNat 2) h0, .resl (.ofNat 250) (lanT 122 128)] = true := by kernel_rfl
theorem s15 (W : World) (a0 : Int) (h0 : ((a0.tmod (.ofNat 12)).natAbs : Int) = .ofNat 3) : tst W [.res a0 (.ofNat 12) (.ofNat 3) h0, .resl (.ofNat 250) (lanT 1 0)] = true := by kernel_rfl
theorem s16 (W : World) (a0 : Int) (h0 : ((a0.tmod (.ofNat 12)).natAbs : Int) = .ofNat 3) : tst W [.res a0 (.ofNat 12) (.ofNat 3) h0, .resl (.ofNat 250) (lanT 9 1)] = true := by kernel_rfl
theorem s17 (W : World) (a0 : Int) (h0 : ((a0.tmod (.ofNat 12)).natAbs : Int) = .ofNat 3) : tst W [.res a0 (.ofNat 12) (.ofNat 3) h0, .resl (.ofNat 250) (lanT 90 10)] = true := by kernel_rfl
theorem s18 (W : World) (a0 : Int) (h0 : ((a0.tmod (.ofNat 12)).natAbs : Int) = .ofNat 3) : tst W [.res a0 (.ofNat 12) (.ofNat 3) h0, .resl (.ofNat 250) (lanT 28 100)] = true := by kernel_rfl
theorem s19 (W : World) (a0 : Int) (h0 : ((a0.tmod (.ofNat 12)).natAbs : Int) = .ofNat 3) : tst W [.res a0 (.ofNat 12) (.ofNat 3) h0, .resl (.ofNat 250) (lanT 122 128)] = true := by kernel_rfl
end Go.Proofs.YtfeefnmniolncaaGreatDoor.topJoin
