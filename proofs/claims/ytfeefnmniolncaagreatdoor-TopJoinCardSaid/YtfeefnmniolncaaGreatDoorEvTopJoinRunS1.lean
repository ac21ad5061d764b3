/- TopJoin: the evaluator's answers, by the kernel. -/
import Derived.Test.YtfeefnmniolncaaGreatDoorEvTopJoinRun
import Derived.KernelRfl
namespace Go.Proofs.YtfeefnmniolncaaGreatDoor.topJoin
open Go.YtfeefnmniolncaaGreatDoorEv
set_option maxRecDepth 100000
theorem s20 (W : World) (a0 : Int) (h0 : ((a0.tmod (.ofNat 12)).natAbs : Int) = .ofNat 4) : tst W [.res a0 (.ofNat 12) (.ofNat 4) h0, .resl (.ofNat 250) (lanT 1 0)] = true := by kernel_rfl
theorem s21 (W : World) (a0 : Int) (h0 : ((a0.tmod (.ofNat 12)).natAbs : Int) = .ofNat 4) : tst W [.res a0 (.ofNat 12) (.ofNat 4) h0, .resl (.ofNat 250) (lanT 9 1)] = true := by kernel_rfl
theorem s22 (W : World) (a0 : Int) (h0 : ((a0.tmod (.ofNat 12)).natAbs : Int) = .ofNat 4) : tst W [.res a0 (.ofNat 12) (.ofNat 4) h0, .resl (.ofNat 250) (lanT 90 10)] = true := by kernel_rfl
theorem s23 (W : World) (a0 : Int) (h0 : ((a0.tmod (.ofNat 12)).natAbs : Int) = .ofNat 4) : tst W [.res a0 (.ofNat 12) (.ofNat 4) h0, .resl (.ofNat 250) (lanT 28 100)] = true := by kernel_rfl
theorem s24 (W : World) (a0 : Int) (h0 : ((a0.tmod (.ofNat 12)).natAbs : Int) = .ofNat 4) : tst W [.res a0 (.ofNat 12) (.ofNat 4) h0, .resl (.ofNat 250) (lanT 122 128)] = true := by kernel_rfl
theorem s25 (W : World) (a0 : Int) (h0 : ((a0.tmod (.ofNat 12)).natAbs : Int) = .ofNat 5) : tst W [.res a0 (.ofNat 12) (.ofNat 5) h0, .resl (.ofNat 250) (lanT 1 0)] = true := by kernel_rfl
theorem s26 (W : World) (a0 : Int) (h0 : ((a0.tmod (.ofNat 12)).natAbs : Int) = .ofNat 5) : tst W [.res a0 (.ofNat 12) (.ofNat 5) h0, .resl (.ofNat 250) (lanT 9 1)] = true := by kernel_rfl
theorem s27 (W : World) (a0 : Int) (h0 : ((a0.tmod (.ofNat 12)).natAbs : Int) = .ofNat 5) : tst W [.res a0 (.ofNat 12) (.ofNat 5) h0, .resl (.ofNat 250) (lanT 90 10)] = true := by kernel_rfl
theorem s28 (W : World) (a0 : Int) (h0 : ((a0.tmod (.ofNat 12)).natAbs : Int) = .ofNat 5) : tst W [.res a0 (.ofNat 12) (.ofNat 5) h0, .resl (.ofNat 250) (lanT 28 100)] = true := by kernel_rfl
theorem s29 (W : World) (a0 : Int) (h0 : ((a0.tmod (.ofNat 12)).natAbs : Int) = .ofNat 5) : tst W [.res a0 (.ofNat 12) (.ofNat 5) h0, .resl (.ofNat 250) (lanT 122 128)] = true := by kernel_rfl
theorem s30 (W : World) (a0 : Int) (h0 : ((a0.tmod (.ofNat 12)).natAbs : Int) = .ofNat 6) : tst W [.res a0 (.ofNat 12) (.ofNat 6) h0, .resl (.ofNat 250) (lanT 1 0)] = true := by kernel_rfl
theorem s31 (W : World) (a0 : Int) (h0 : ((a0.tmod (.ofNat 12)).natAbs : Int) = .ofNat 6) : tst W [.res a0 (.ofNat 12) (.ofNat 6) h0, .resl (.ofNat 250) (lanT 9 1)] = true := by kernel_rfl
theorem s32 (W : World) (a0 : Int) (h0 : ((a0.tmod (.ofNat 12)).natAbs : Int) = .ofNat 6) : tst W [.res a0 (.ofNat 12) (.ofNat 6) h0, .resl (.ofNat 250) (lanT 90 10)] = true := by kernel_rfl
theorem s33 (W : World) (a0 : Int) (h0 : ((a0.tmod (.ofNat 12)).natAbs : Int) = .ofNat 6) : tst W [.res a0 (.ofNat 12) (.ofNat 6) h0, .resl (.ofNat 250) (lanT 28 100)] = true := by kernel_rfl
theorem s34 (W : World) (a0 : Int) (h0 : ((a0.tmod (.ofNat 12)).natAbs : Int) = .ofNat 6) : tst W [.res a0 (.ofNat 12) (.ofNat 6) h0, .resl (.ofNat 250) (lanT 122 128)] = true := by kernel_rfl
theorem s35 (W : World) (a0 : Int) (h0 : ((a0.tmod (.ofNat 12)).natAbs : Int) = .ofNat 7) : tst W [.res a0 (.ofNat 12) (.ofNat 7) h0, .resl (.ofNat 250) (lanT 1 0)] = true := by kernel_rfl
theorem s36 (W : World) (a0 : Int) (h0 : ((a0.tmod (.ofNat 12)).natAbs : Int) = .ofNat 7) : tst W [.res a0 (.ofNat 12) (.ofNat 7) h0, .resl (.ofNat 250) (lanT 9 1)] = true := by kernel_rfl
theorem s37 (W : World) (a0 : Int) (h0 : ((a0.tmod (.ofNat 12)).natAbs : Int) = .ofNat 7) : tst W [.res a0 (.ofNat 12) (.ofNat 7) h0, .resl (.ofNat 250) (lanT 90 10)] = true := by kernel_rfl
theorem s38 (W : World) (a0 : Int) (h0 : ((a0.tmod (.ofNat 12)).natAbs : Int) = .ofNat 7) : tst W [.res a0 (.ofNat 12) (.ofNat 7) h0, .resl (.ofNat 250) (lanT 28 100)] = true := by kernel_rfl
theorem s39 (W : World) (a0 : Int) (h0 : ((a0.tmod (.ofNat 12)).natAbs : Int) = .ofNat 7) : tst W [.res a0 (.ofNat 12) (.ofNat 7) h0, .resl (.ofNat 250) (lanT 122 128)] = true := by kernel_rfl
end Go.Proofs.YtfeefnmniolncaaGreatDoor.topJoin
