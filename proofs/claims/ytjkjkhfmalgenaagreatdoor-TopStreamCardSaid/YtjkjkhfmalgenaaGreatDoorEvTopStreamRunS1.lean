/- TopStream: the evaluator's answers, by the kernel. -/
import Derived.Test.YtjkjkhfmalgenaaGreatDoorEvTopStreamRun
import Derived.KernelRfl
namespace Go.Proofs.YtjkjkhfmalgenaaGreatDoor.topStream
open Go.YtjkjkhfmalgenaaGreatDoorEv
set_option maxRecDepth 100000
theorem s56 (W : World) (a1 : Int) (h1 : ((a1.tmod (.ofNat 82)).natAbs : Int) = .ofNat 56) : tst W [.resl (.ofNat 250) (lanT 1 0), .res a1 (.ofNat 82) (.ofNat 56) h1] = true := by kernel_rfl
theorem s57 (W : World) (a1 : Int) (h1 : ((a1.tmod (.ofNat 82)).natAbs : Int) = .ofNat 57) : tst W [.resl (.ofNat 250) (lanT 1 0), .res a1 (.ofNat 82) (.ofNat 57) h1] = true := by kernel_rfl
theorem s58 (W : World) (a1 : Int) (h1 : ((a1.tmod (.ofNat 82)).natAbs : Int) = .ofNat 58) : tst W [.resl (.ofNat 250) (lanT 1 0), .res a1 (.ofNat 82) (.ofNat 58) h1] = true := by kernel_rfl
theorem s59 (W : World) (a1 : Int) (h1 : ((a1.tmod (.ofNat 82)).natAbs : Int) = .ofNat 59) : tst W [.resl (.ofNat 250) (lanT 1 0), .res a1 (.ofNat 82) (.ofNat 59) h1] = true := by kernel_rfl
theorem s60 (W : World) (a1 : Int) (h1 : ((a1.tmod (.ofNat 82)).natAbs : Int) = .ofNat 60) : tst W [.resl (.ofNat 250) (lanT 1 0), .res a1 (.ofNat 82) (.ofNat 60) h1] = true := by kernel_rfl
theorem s61 (W : World) (a1 : Int) (h1 : ((a1.tmod (.ofNat 82)).natAbs : Int) = .ofNat 61) : tst W [.resl (.ofNat 250) (lanT 1 0), .res a1 (.ofNat 82) (.ofNat 61) h1] = true := by kernel_rfl
theorem s62 (W : World) (a1 : Int) (h1 : ((a1.tmod (.ofNat 82)).natAbs : Int) = .ofNat 62) : tst W [.resl (.ofNat 250) (lanT 1 0), .res a1 (.ofNat 82) (.ofNat 62) h1] = true := by kernel_rfl
theorem s63 (W : World) (a1 : Int) (h1 : ((a1.tmod (.ofNat 82)).natAbs : Int) = .ofNat 63) : tst W [.resl (.ofNat 250) (lanT 1 0), .res a1 (.ofNat 82) (.ofNat 63) h1] = true := by kernel_rfl
theorem s64 (W : World) (a1 : Int) (h1 : ((a1.tmod (.ofNat 82)).natAbs : Int) = .ofNat 64) : tst W [.resl (.ofNat 250) (lanT 1 0), .res a1 (.ofNat 82) (.ofNat 64) h1] = true := by kernel_rfl
theorem s65 (W : World) (a1 : Int) (h1 : ((a1.tmod (.ofNat 82)).natAbs : Int) = .ofNat 65) : tst W [.resl (.ofNat 250) (lanT 1 0), .res a1 (.ofNat 82) (.ofNat 65) h1] = true := by kernel_rfl
theorem s66 (W : World) (a1 : Int) (h1 : ((a1.tmod (.ofNat 82)).natAbs : Int) = .ofNat 66) : tst W [.resl (.ofNat 250) (lanT 1 0), .res a1 (.ofNat 82) (.ofNat 66) h1] = true := by kernel_rfl
theorem s67 (W : World) (a1 : Int) (h1 : ((a1.tmod (.ofNat 82)).natAbs : Int) = .ofNat 67) : tst W [.resl (.ofNat 250) (lanT 1 0), .res a1 (.ofNat 82) (.ofNat 67) h1] = true := by kernel_rfl
theorem s68 (W : World) (a1 : Int) (h1 : ((a1.tmod (.ofNat 82)).natAbs : Int) = .ofNat 68) : tst W [.resl (.ofNat 250) (lanT 1 0), .res a1 (.ofNat 82) (.ofNat 68) h1] = true := by kernel_rfl
theorem s69 (W : World) (a1 : Int) (h1 : ((a1.tmod (.ofNat 82)).natAbs : Int) = .ofNat 69) : tst W [.resl (.ofNat 250) (lanT 1 0), .res a1 (.ofNat 82) (.ofNat 69) h1] = true := by kernel_rfl
theorem s70 (W : World) (a1 : Int) (h1 : ((a1.tmod (.ofNat 82)).natAbs : Int) = .ofNat 70) : tst W [.resl (.ofNat 250) (lanT 1 0), .res a1 (.ofNat 82) (.ofNat 70) h1] = true := by kernel_rfl
theorem s71 (W : World) (a1 : Int) (h1 : ((a1.tmod (.ofNat 82)).natAbs : Int) = .ofNat 71) : tst W [.resl (.ofNat 250) (lanT 1 0), .res a1 (.ofNat 82) (.ofNat 71) h1] = true := by kernel_rfl
theorem s72 (W : World) (a1 : Int) (h1 : ((a1.tmod (.ofNat 82)).natAbs : Int) = .ofNat 72) : tst W [.resl (.ofNat 250) (lanT 1 0), .res a1 (.ofNat 82) (.ofNat 72) h1] = true := by kernel_rfl
theorem s73 (W : World) (a1 : Int) (h1 : ((a1.tmod (.ofNat 82)).natAbs : Int) = .ofNat 73) : tst W [.resl (.ofNat 250) (lanT 1 0), .res a1 (.ofNat 82) (.ofNat 73) h1] = true := by kernel_rfl
theorem s74 (W : World) (a1 : Int) (h1 : ((a1.tmod (.ofNat 82)).natAbs : Int) = .ofNat 74) : tst W [.resl (.ofNat 250) (lanT 1 0), .res a1 (.ofNat 82) (.ofNat 74) h1] = true := by kernel_rfl
theorem s75 (W : World) (a1 : Int) (h1 : ((a1.tmod (.ofNat 82)).natAbs : Int) = .ofNat 75) : tst W [.resl (.ofNat 250) (lanT 1 0), .res a1 (.ofNat 82) (.ofNat 75) h1] = true := by kernel_rfl
theorem s76 (W : World) (a1 : Int) (h1 : ((a1.tmod (.ofNat 82)).natAbs : Int) = .ofNat 76) : tst W [.resl (.ofNat 250) (lanT 1 0), .res a1 (.ofNat 82) (.ofNat 76) h1] = true := by kernel_rfl
theorem s77 (W : World) (a1 : Int) (h1 : ((a1.tmod (.ofNat 82)).natAbs : Int) = .ofNat 77) : tst W [.resl (.ofNat 250) (lanT 1 0), .res a1 (.ofNat 82) (.ofNat 77) h1] = true := by kernel_rfl
theorem s78 (W : World) (a1 : Int) (h1 : ((a1.tmod (.ofNat 82)).natAbs : Int) = .ofNat 78) : tst W [.resl (.ofNat 250) (lanT 1 0), .res a1 (.ofNat 82) (.ofNat 78) h1] = true := by kernel_rfl
theorem s79 (W : World) (a1 : Int) (h1 : ((a1.tmod (.ofNat 82)).natAbs : Int) = .ofNat 79) : tst W [.resl (.ofNat 250) (lanT 1 0), .res a1 (.ofNat 82) (.ofNat 79) h1] = true := by kernel_rfl
theorem s80 (W : World) (a1 : Int) (h1 : ((a1.tmod (.ofNat 82)).natAbs : Int) = .ofNat 80) : tst W [.resl (.ofNat 250) (lanT 1 0), .res a1 (.ofNat 82) (.ofNat 80) h1] = true := by kernel_rfl
theorem s81 (W : World) (a1 : Int) (h1 : ((a1.tmod (.ofNat 82)).natAbs : Int) = .ofNat 81) : tst W [.resl (.ofNat 250) (lanT 1 0), .res a1 (.ofNat 82) (.ofNat 81) h1] = true := by kernel_rfl
theorem s82 (W : World) (a1 : Int) (h1 : ((a1.tmod (.ofNat 82)).natAbs : Int) = .ofNat 0) : tst W [.resl (.ofNat 250) (lanT 9 1), .res a1 (.ofNat 82) (.ofNat 0) h1] = true := by kernel_rfl
theorem s83 (W : World) (a1 : Int) (h1 : ((a1.tmod (.ofNat 82)).natAbs : Int) = .ofNat 1) : tst W [.resl (.ofNat 250) (lanT 9 1), .res a1 (.ofNat 82) (.ofNat 1) h1] = true := by kernel_rfl
theorem s84 (W : World) (a1 : Int) (h1 : ((a1.tmod (.ofNat 82)).natAbs : Int) = .ofNat 2) : tst W [.resl (.ofNat 250) (lanT 9 1), .res a1 (.ofNat 82) (.ofNat 2) h1] = true := by kernel_rfl
theorem s85 (W : World) (a1 : Int) (h1 : ((a1.tmod (.ofNat 82)).natAbs : Int) = .ofNat 3) : tst W [.resl (.ofNat 250) (lanT 9 1), .res a1 (.ofNat 82) (.ofNat 3) h1] = true := by kernel_rfl
theorem s86 (W : World) (a1 : Int) (h1 : ((a1.tmod (.ofNat 82)).natAbs : Int) = .ofNat 4) : tst W [.resl (.ofNat 250) (lanT 9 1), .res a1 (.ofNat 82) (.ofNat 4) h1] = true := by kernel_rfl
theorem s87 (W : World) (a1 : Int) (h1 : ((a1.tmod (.ofNat 82)).natAbs : Int) = .ofNat 5) : tst W [.resl (.ofNat 250) (lanT 9 1), .res a1 (.ofNat 82) (.ofNat 5) h1] = true := by kernel_rfl
theorem s88 (W : World) (a1 : Int) (h1 : ((a1.tmod (.ofNat 82)).natAbs : Int) = .ofNat 6) : tst W [.resl (.ofNat 250) (lanT 9 1), .res a1 (.ofNat 82) (.ofNat 6) h1] = true := by kernel_rfl
theorem s89 (W : World) (a1 : Int) (h1 : ((a1.tmod (.ofNat 82)).natAbs : Int) = .ofNat 7) : tst W [.resl (.ofNat 250) (lanT 9 1), .res a1 (.ofNat 82) (.ofNat 7) h1] = true := by kernel_rfl
theorem s90 (W : World) (a1 : Int) (h1 : ((a1.tmod (.ofNat 82)).natAbs : Int) = .ofNat 8) : tst W [.resl (.ofNat 250) (lanT 9 1), .res a1 (.ofNat 82) (.ofNat 8) h1] = true := by kernel_rfl
theorem s91 (W : World) (a1 : Int) (h1 : ((a1.tmod (.ofNat 82)).natAbs : Int) = .ofNat 9) : tst W [.resl (.ofNat 250) (lanT 9 1), .res a1 (.ofNat 82) (.ofNat 9) h1] = true := by kernel_rfl
theorem s92 (W : World) (a1 : Int) (h1 : ((a1.tmod (.ofNat 82)).natAbs : Int) = .ofNat 10) : tst W [.resl (.ofNat 250) (lanT 9 1), .res a1 (.ofNat 82) (.ofNat 10) h1] = true := by kernel_rfl
theorem s93 (W : World) (a1 : Int) (h1 : ((a1.tmod (.ofNat 82)).natAbs : Int) = .ofNat 11) : tst W [.resl (.ofNat 250) (lanT 9 1), .res a1 (.ofNat 82) (.ofNat 11) h1] = true := by kernel_rfl
theorem s94 (W : World) (a1 : Int) (h1 : ((a1.tmod (.ofNat 82)).natAbs : Int) = .ofNat 12) : tst W [.resl (.ofNat 250) (lanT 9 1), .res a1 (.ofNat 82) (.ofNat 12) h1] = true := by kernel_rfl
theorem s95 (W : World) (a1 : Int) (h1 : ((a1.tmod (.ofNat 82)).natAbs : Int) = .ofNat 13) : tst W [.resl (.ofNat 250) (lanT 9 1), .res a1 (.ofNat 82) (.ofNat 13) h1] = true := by kernel_rfl
theorem s96 (W : World) (a1 : Int) (h1 : ((a1.tmod (.ofNat 82)).natAbs : Int) = .ofNat 14) : tst W [.resl (.ofNat 250) (lanT 9 1), .res a1 (.ofNat 82) (.ofNat 14) h1] = true := by kernel_rfl
theorem s97 (W : World) (a1 : Int) (h1 : ((a1.tmod (.ofNat 82)).natAbs : Int) = .ofNat 15) : tst W [.resl (.ofNat 250) (lanT 9 1), .res a1 (.ofNat 82) (.ofNat 15) h1] = true := by kernel_rfl
theorem s98 (W : World) (a1 : Int) (h1 : ((a1.tmod (.ofNat 82)).natAbs : Int) = .ofNat 16) : tst W [.resl (.ofNat 250) (lanT 9 1), .res a1 (.ofNat 82) (.ofNat 16) h1] = true := by kernel_rfl
theorem s99 (W : World) (a1 : Int) (h1 : ((a1.tmod (.ofNat 82)).natAbs : Int) = .ofNat 17) : tst W [.resl (.ofNat 250) (lanT 9 1), .res a1 (.ofNat 82) (.ofNat 17) h1] = true := by kernel_rfl
theorem s100 (W : World) (a1 : Int) (h1 : ((a1.tmod (.ofNat 82)).natAbs : Int) = .ofNat 18) : tst W [.resl (.ofNat 250) (lanT 9 1), .res a1 (.ofNat 82) (.ofNat 18) h1] = true := by kernel_rfl
theorem s101 (W : World) (a1 : Int) (h1 : ((a1.tmod (.ofNat 82)).natAbs : Int) = .ofNat 19) : tst W [.resl (.ofNat 250) (lanT 9 1), .res a1 (.ofNat 82) (.ofNat 19) h1] = true := by kernel_rfl
theorem s102 (W : World) (a1 : Int) (h1 : ((a1.tmod (.ofNat 82)).natAbs : Int) = .ofNat 20) : tst W [.resl (.ofNat 250) (lanT 9 1), .res a1 (.ofNat 82) (.ofNat 20) h1] = true := by kernel_rfl
theorem s103 (W : World) (a1 : Int) (h1 : ((a1.tmod (.ofNat 82)).natAbs : Int) = .ofNat 21) : tst W [.resl (.ofNat 250) (lanT 9 1), .res a1 (.ofNat 82) (.ofNat 21) h1] = true := by kernel_rfl
theorem s104 (W : World) (a1 : Int) (h1 : ((a1.tmod (.ofNat 82)).natAbs : Int) = .ofNat 22) : tst W [.resl (.ofNat 250) (lanT 9 1), .res a1 (.ofNat 82) (.ofNat 22) h1] = true := by kernel_rfl
theorem s105 (W : World) (a1 : Int) (h1 : ((a1.tmod (.ofNat 82)).natAbs : Int) = .ofNat 23) : tst W [.resl (.ofNat 250) (lanT 9 1), .res a1 (.ofNat 82) (.ofNat 23) h1] = true := by kernel_rfl
theorem s106 (W : World) (a1 : Int) (h1 : ((a1.tmod (.ofNat 82)).natAbs : Int) = .ofNat 24) : tst W [.resl (.ofNat 250) (lanT 9 1), .res a1 (.ofNat 82) (.ofNat 24) h1] = true := by kernel_rfl
theorem s107 (W : World) (a1 : Int) (h1 : ((a1.tmod (.ofNat 82)).natAbs : Int) = .ofNat 25) : tst W [.resl (.ofNat 250) (lanT 9 1), .res a1 (.ofNat 82) (.ofNat 25) h1] = true := by kernel_rfl
theorem s108 (W : World) (a1 : Int) (h1 : ((a1.tmod (.ofNat 82)).natAbs : Int) = .ofNat 26) : tst W [.resl (.ofNat 250) (lanT 9 1), .res a1 (.ofNat 82) (.ofNat 26) h1] = true := by kernel_rfl
theorem s109 (W : World) (a1 : Int) (h1 : ((a1.tmod (.ofNat 82)).natAbs : Int) = .ofNat 27) : tst W [.resl (.ofNat 250) (lanT 9 1), .res a1 (.ofNat 82) (.ofNat 27) h1] = true := by kernel_rfl
theorem s110 (W : World) (a1 : Int) (h1 : ((a1.tmod (.ofNat 82)).natAbs : Int) = .ofNat 28) : tst W [.resl (.ofNat 250) (lanT 9 1), .res a1 (.ofNat 82) (.ofNat 28) h1] = true := by kernel_rfl
theorem s111 (W : World) (a1 : Int) (h1 : ((a1.tmod (.ofNat 82)).natAbs : Int) = .ofNat 29) : tst W [.resl (.ofNat 250) (lanT 9 1), .res a1 (.ofNat 82) (.ofNat 29) h1] = true := by kernel_rfl
end Go.Proofs.YtjkjkhfmalgenaaGreatDoor.topStream
