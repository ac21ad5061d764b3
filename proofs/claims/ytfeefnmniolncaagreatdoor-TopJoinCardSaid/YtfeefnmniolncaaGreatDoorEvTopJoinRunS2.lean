/- TopJoin: the evaluator's answers, by the kernel. -/
import Derived.Test.YtfeefnmniolncaaGreatDoorEvTopJoinRun
import Derived.KernelRfl
namespace Go.Proofs.YtfeefnmniolncaaGreatDoor.topJoin
open Go.YtfeefnmniolncaaGreatDoorEv
set_option maxRecDepth 100000
theorem s40 (W : World) (a0 : Int) (h0 : ((a0.tmod (.ofNat 12)).natAbs : Int) = .ofNat 8) : tst W [.res a0 (.ofNat 12) (.ofNat 8) h0, .resl (.ofNat 250) (lanT 1 0)] = true := by kernel_rfl
theorem s41 (W : World) (a0 : Int) (h0 : ((a0.tmod (.ofNat 12)).natAbs : Int) = .ofNat 8) : tst W [.res a0 (.ofNat 12) (.ofNat 8) h0, .resl (.ofNat 250) (lanT 9 1)] = true := by kernel_rfl
theorem s42 (W : World) (a0 : Int) (h0 : ((a0.tmod (.ofNat 12)).natAbs : Int) = .ofNat 8) : tst W [.res a0 (.ofNat 12) (.ofNat 8) h0, .resl (.ofNat 250) (lanT 90 10)] = true := by kernel_rfl
theorem s43 (W : World) (a0 : Int) (h0 : ((a0.tmod (.ofNat 12)).natAbs : Int) = .ofNat 8) : tst W [.res a0 (.ofNat 12) (.ofNat 8) h0, .resl (.ofNat 250) (lanT 28 100)] = true := by kernel_rfl
theorem s44 (W : World) (a0 : Int) (h0 : ((a0.tmod (.ofNat 12)).natAbs : Int) = .ofNat 8) : tst W [.res a0 (.ofNat 12) (.ofNat 8) h0, .resl (.ofNat 250) (lanT 122 128)] = true := by kernel_rfl
theorem s45 (W : World) (a0 : Int) (h0 : ((a0.tmod (.ofNat 12)).natAbs : Int) = .ofNat 9) : tst W [.res a0 (.ofNat 12) (.ofNat 9) h0, .resl (.ofNat 250) (lanT 1 0)] = true := by kernel_rfl
theorem s46 (W : World) (a0 : Int) (h0 : ((a0.tmod (.ofNat 12)).natAbs : Int) = .ofNat 9) : tst W [.res a0 (.ofNat 12) (.ofNat 9) h0, .resl (.ofNat 250) (lanT 9 1)] = true := by kernel_rfl
theorem s47 (W : World) (a0 : Int) (h0 : ((a0.tmod (.ofNat 12)).natAbs : Int) = .ofNat 9) : tst W [.res a0 (.ofNat 12) (.ofNat 9) h0, .resl (.ofNat 250) (lanT 90 10)] = true := by kernel_rfl
theorem s48 (W : World) (a0 : Int) (h0 : ((a0.tmod (.ofNat 12)).natAbs : Int) = .ofNat 9) : tst W [.res a0 (.ofNat 12) (.ofNat 9) h0, .resl (.ofNat 250) (lanT 28 100)] = true := by kernel_rfl
theorem s49 (W : World) (a0 : Int) (h0 : ((a0.tmod (.ofNat 12)).natAbs : Int) = .ofNat 9) : tst W [.res a0 (.ofNat 12) (.ofNat 9) h0, .resl (.ofNat 250) (lanT 122 128)] = true := by kernel_rfl
theorem s50 (W : World) (a0 : Int) (h0 : ((a0.tmod (.ofNat 12)).natAbs : Int) = .ofNat 10) : tst W [.res a0 (.ofNat 12) (.ofNat 10) h0, .resl (.ofNat 250) (lanT 1 0)] = true := by kernel_rfl
theorem s51 (W : World) (a0 : Int) (h0 : ((a0.tmod (.ofNat 12)).natAbs : Int) = .ofNat 10) : tst W [.res a0 (.ofNat 12) (.ofNat 10) h0, .resl (.ofNat 250) (lanT 9 1)] = true := by kernel_rfl
theorem s52 (W : World) (a0 : Int) (h0 : ((a0.tmod (.ofNat 12)).natAbs : Int) = .ofNat 10) : tst W [.res a0 (.ofNat 12) (.ofNat 10) h0, .resl (.ofNat 250) (lanT 90 10)] = true := by kernel_rfl
theorem s53 (W : World) (a0 : Int) (h0 : ((a0.tmod (.ofNat 12)).natAbs : Int) = .ofNat 10) : tst W [.res a0 (.ofNat 12) (.ofNat 10) h0, .resl (.ofNat 250) (lanT 28 100)] = true := by kernel_rfl
theorem s54 (W : World) (a0 : Int) (h0 : ((a0.tmod (.ofNat 12)).natAbs : Int) = .ofNat 10) : tst W [.res a0 (.ofNat 12) (.ofNat 10) h0, .resl (.ofNat 250) (lanT 122 128)] = true := by kernel_rfl
theorem s55 (W : World) (a0 : Int) (h0 : ((a0.tmod (.ofNat 12)).natAbs : Int) = .ofNat 11) : tst W [.res a0 (.ofNat 12) (.ofNat 11) h0, .resl (.ofNat 250) (lanT 1 0)] = true := by kernel_rfl
theorem s56 (W : World) (a0 : Int) (h0 : ((a0.tmod (.ofNat 12)).natAbs : Int) = .ofNat 11) : tst W [.res a0 (.ofNat 12) (.ofNat 11) h0, .resl (.ofNat 250) (lanT 9 1)] = true := by kernel_rfl
theorem s57 (W : World) (a0 : Int) (h0 : ((a0.tmod (.ofNat 12)).natAbs : Int) = .ofNat 11) : tst W [.res a0 (.ofNat 12) (.ofNat 11) h0, .resl (.ofNat 250) (lanT 90 10)] = true := by kernel_rfl
theorem s58 (W : World) (a0 : Int) (h0 : ((a0.tmod (.ofNat 12)).natAbs : Int) = .ofNat 11) : tst W [.res a0 (.ofNat 12) (.ofNat 11) h0, .resl (.ofNat 250) (lanT 28 100)] = true := by kernel_rfl
theorem s59 (W : World) (a0 : Int) (h0 : ((a0.tmod (.ofNat 12)).natAbs : Int) = .ofNat 11) : tst W [.res a0 (.ofNat 12) (.ofNat 11) h0, .resl (.ofNat 250) (lanT 122 128)] = true := by kernel_rfl
end Go.Proofs.YtfeefnmniolncaaGreatDoor.topJoin
