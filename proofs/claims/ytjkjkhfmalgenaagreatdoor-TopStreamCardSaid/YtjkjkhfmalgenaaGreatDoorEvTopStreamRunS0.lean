/- TopStream: the evaluator's answers, by the kernel. -/
import Derived.Test.YtjkjkhfmalgenaaGreatDoorEvTopStreamRun
import Derived.KernelRfl
namespace Go.Proofs.YtjkjkhfmalgenaaGreatDoor.topStream
open Go.YtjkjkhfmalgenaaGreatDoorEv
set_option maxRecDepth 100000
theorem s0 (W : World) (a1 : Int) (h1 : ((a1.tmod (.ofNat 82)).natAbs : Int) = .ofNat 0) : tst W [.resl (.ofNat 250) (lanT 1 0), .res a1 (.ofNat 82) (.ofNat 0) h1] = true := by kernel_rfl
theorem s1 (W : World) (a1 : Int) (h1 : ((a1.tmod (.ofNat 82)).natAbs : Int) = .ofNat 1) : tst W [.resl (.ofNat 250) (lanT 1 0), .res a1 (.ofNat 82) (.ofNat 1) h1] = true := by kernel_rfl
theorem s2 (W : World) (a1 : Int) (h1 : ((a1.tmod (.ofNat 82)).natAbs : Int) = .ofNat 2) : tst W [.resl (.ofNat 250) (lanT 1 0), .res a1 (.ofNat 82) (.ofNat 2) h1] = true := by kernel_rfl
theorem s3 (W : World) (a1 : Int) (h1 : ((a1.tmod (.ofNat 82)).natAbs : Int) = .ofNat 3) : tst W [.resl (.ofNat 250) (lanT 1 0), .res a1 (.ofNat 82) (.ofNat 3) h1] = true := by kernel_rfl
theorem s4 (W : World) (a1 : Int) (h1 : ((a1.tmod (.ofNat 82)).natAbs : Int) = .ofNat 4) : tst W [.resl (.ofNat 250) (lanT 1 0), .res a1 (.ofNat 82) (.ofNat 4) h1] = true := by kernel_rfl
theorem s5 (W : World) (a1 : Int) (h1 : ((a1.tmod (.ofNat 82)).natAbs : Int) = .ofNat 5) : tst W [.resl (.ofNat 250) (lanT 1 0), .res a1 (.ofNat 82) (.ofNat 5) h1] = true := by kernel_rfl
theorem s6 (W : World) (a1 : Int) (h1 : ((a1.tmod (.ofNat 82)).natAbs : Int) = .ofNat 6) : tst W [.resl (.ofNat 250) (lanT 1 0), .res a1 (.ofNat 82) (.ofNat 6) h1] = true := by kernel_rfl
theorem s7 (W : World) (a1 : Int) (h1 : ((a1.tmod (.ofNat 82)).natAbs : Int) = .ofNat 7) : tst W [.resl (.ofNat 250) (lanT 1 0), .res a1 (.ofNat 82) (.ofNat 7) h1] = true := by kernel_rfl
theorem s8 (W : World) (a1 : Int) (h1 : ((a1.tmod (.ofNat 82)).natAbs : Int) = .ofNat 8) : tst W [.resl (.ofNat 250) (lanT 1 0), .res a1 (.ofNat 82) (.ofNat 8) h1] = true := by kernel_rfl
theorem s9 (W : World) (a1 : Int) (h1 : ((a1.tmod (.ofNat 82)).natAbs : Int) = .ofNat 9) : tst W [.resl (.ofNat 250) (lanT 1 0), .res a1 (.ofNat 82) (.ofNat 9) h1] = true := by kernel_rfl
theorem s10 (W : World) (a1 : Int) (h1 : ((a1.tmod (.ofNat 82)).natAbs : Int) = .ofNat 10) : tst W [.resl (.ofNat 250) (lanT 1 0), .res a1 (.ofNat 82) (.ofNat 10) h1] = true := by kernel_rfl
theorem s11 (W : World) (a1 : Int) (h1 : ((a1.tmod (.ofNat 82)).natAbs : Int) = .ofNat 11) : tst W [.resl (.ofNat 250) (lanT 1 0), .res a1 (.ofNat 82) (.ofNat 11) h1] = true := by kernel_rfl
theorem s12 (W : World) (a1 : Int) (h1 : ((a1.tmod (.ofNat 82)).natAbs : Int) = .ofNat 12) : tst W [.resl (.ofNat 250) (lanT 1 0), .res a1 (.ofNat 82) (.ofNat 12) h1] = true := by kernel_rfl
theorem s13 (W : World) (a1 : Int) (h1 : ((a1.tmod (.ofNat 82)).natAbs : Int) = .ofNat 13) : tst W [.resl (.ofNat 250) (lanT 1 0), .res a1 (.ofNat 82) (.ofNat 13) h1] = true := by kernel_rfl
theorem s14 (W : World) (a1 : Int) (h1 : ((a1.tmod (.ofNat 82)).natAbs : Int) = .ofNat 14) : tst W [.resl (.ofNat 250) (lanT 1 0), .res a1 (.ofNat 82) (.ofNat 14) h1] = true := by kernel_rfl
theorem s15 (W : World) (a1 : Int) (h1 : ((a1.tmod (.ofNat 82)).natAbs : Int) = .ofNat 15) : tst W [.resl (.ofNat 250) (lanT 1 0), .res a1 (.ofNat 82) (.ofNat 15) h1] = true := by kernel_rfl
theorem s16 (W : World) (a1 : Int) (h1 : ((a1.tmod (.ofNat 82)).natAbs : Int) = .ofNat 16) : tst W [.resl (.ofNat 250) (lanT 1 0), .res a1 (.ofNat 82) (.ofNat 16) h1] = true := by kernel_rfl
theorem s17 (W : World) (a1 : Int) (h1 : ((a1.tmod (.ofNat 82)).natAbs : Int) = .ofNat 17) : tst W [.resl (.ofNat 250) (lanT 1 0), .res a1 (.ofNat 82) (.ofNat 17) h1] = true := by kernel_rfl
theorem s18 (W : World) (a1 : Int) (h1 : ((a1.tmod (.ofNat 82)).natAbs : Int) = .ofNat 18) : tst W [.resl (.ofNat 250) (lanT 1 0), .res a1 (.ofNat 82) (.ofNat 18) h1] = true := by kernel_rfl
theorem s19 (W : World) (a1 : Int) (h1 : ((a1.tmod (.ofNat 82)).natAbs : Int) = .ofNat 19) : tst W [.resl (.ofNat 250) (lanT 1 0), .res a1 (.ofNat 82) (.ofNat 19) h1] = true := by kernel_rfl
theorem s20 (W : World) (a1 : Int) (h1 : ((a1.tmod (.ofNat 82)).natAbs : Int) = .ofNat 20) : tst W [.resl (.ofNat 250) (lanT 1 0), .res a1 (.ofNat 82) (.ofNat 20) h1] = true := by kernel_rfl
theorem s21 (W : World) (a1 : Int) (h1 : ((a1.tmod (.ofNat 82)).natAbs : Int) = .ofNat 21) : tst W [.resl (.ofNat 250) (lanT 1 0), .res a1 (.ofNat 82) (.ofNat 21) h1] = true := by kernel_rfl
theorem s22 (W : World) (a1 : Int) (h1 : ((a1.tmod (.ofNat 82)).natAbs : Int) = .ofNat 22) : tst W [.resl (.ofNat 250) (lanT 1 0), .res a1 (.ofNat 82) (.ofNat 22) h1] = true := by kernel_rfl
theorem s23 (W : World) (a1 : Int) (h1 : ((a1.tmod (.ofNat 82)).natAbs : Int) = .ofNat 23) : tst W [.resl (.ofNat 250) (lanT 1 0), .res a1 (.ofNat 82) (.ofNat 23) h1] = true := by kernel_rfl
theorem s24 (W : World) (a1 : Int) (h1 : ((a1.tmod (.ofNat 82)).natAbs : Int) = .ofNat 24) : tst W [.resl (.ofNat 250) (lanT 1 0), .res a1 (.ofNat 82) (.ofNat 24) h1] = true := by kernel_rfl
theorem s25 (W : World) (a1 : Int) (h1 : ((a1.tmod (.ofNat 82)).natAbs : Int) = .ofNat 25) : tst W [.resl (.ofNat 250) (lanT 1 0), .res a1 (.ofNat 82) (.ofNat 25) h1] = true := by kernel_rfl
theorem s26 (W : World) (a1 : Int) (h1 : ((a1.tmod (.ofNat 82)).natAbs : Int) = .ofNat 26) : tst W [.resl (.ofNat 250) (lanT 1 0), .res a1 (.ofNat 82) (.ofNat 26) h1] = true := by kernel_rfl
theorem s27 (W : World) (a1 : Int) (h1 : ((a1.tmod (.ofNat 82)).natAbs : Int) = .ofNat 27) : tst W [.resl (.ofNat 250) (lanT 1 0), .res a1 (.ofNat 82) (.ofNat 27) h1] = true := by kernel_rfl
theorem s28 (W : World) (a1 : Int) (h1 : ((a1.tmod (.ofNat 82)).natAbs : Int) = .ofNat 28) : tst W [.resl (.ofNat 250) (lanT 1 0), .res a1 (.ofNat 82) (.ofNat 28) h1] = true := by kernel_rfl
theorem s29 (W : World) (a1 : Int) (h1 : ((a1.tmod (.ofNat 82)).natAbs : Int) = .ofNat 29) : tst W [.resl (.ofNat 250) (lanT 1 0), .res a1 (.ofNat 82) (.ofNat 29) h1] = true := by kernel_rfl
theorem s30 (W : World) (a1 : Int) (h1 : ((a1.tmod (.ofNat 82)).natAbs : Int) = .ofNat 30) : tst W [.resl (.ofNat 250) (lanT 1 0), .res a1 (.ofNat 82) (.ofNat 30) h1] = true := by kernel_rfl
theorem s31 (W : World) (a1 : Int) (h1 : ((a1.tmod (.ofNat 82)).natAbs : Int) = .ofNat 31) : tst W [.resl (.ofNat 250) (lanT 1 0), .res a1 (.ofNat 82) (.ofNat 31) h1] = true := by kernel_rfl
theorem s32 (W : World) (a1 : Int) (h1 : ((a1.tmod (.ofNat 82)).natAbs : Int) = .ofNat 32) : tst W [.resl (.ofNat 250) (lanT 1 0), .res a1 (.ofNat 82) (.ofNat 32) h1] = true := by kernel_rfl
theorem s33 (W : World) (a1 : Int) (h1 : ((a1.tmod (.ofNat 82)).natAbs : Int) = .ofNat 33) : tst W [.resl (.ofNat 250) (lanT 1 0), .res a1 (.ofNat 82) (.ofNat 33) h1] = true := by kernel_rfl
theorem s34 (W : World) (a1 : Int) (h1 : ((a1.tmod (.ofNat 82)).natAbs : Int) = .ofNat 34) : tst W [.resl (.ofNat 250) (lanT 1 0), .res a1 (.ofNat 82) (.ofNat 34) h1] = true := by kernel_rfl
theorem s35 (W : World) (a1 : Int) (h1 : ((a1.tmod (.ofNat 82)).natAbs : Int) = .ofNat 35) : tst W [.resl (.ofNat 250) (lanT 1 0), .res a1 (.ofNat 82) (.ofNat 35) h1] = true := by kernel_rfl
theorem s36 (W : World) (a1 : Int) (h1 : ((a1.tmod (.ofNat 82)).natAbs : Int) = .ofNat 36) : tst W [.resl (.ofNat 250) (lanT 1 0), .res a1 (.ofNat 82) (.ofNat 36) h1] = true := by kernel_rfl
theorem s37 (W : World) (a1 : Int) (h1 : ((a1.tmod (.ofNat 82)).natAbs : Int) = .ofNat 37) : tst W [.resl (.ofNat 250) (lanT 1 0), .res a1 (.ofNat 82) (.ofNat 37) h1] = true := by kernel_rfl
theorem s38 (W : World) (a1 : Int) (h1 : ((a1.tmod (.ofNat 82)).natAbs : Int) = .ofNat 38) : tst W [.resl (.ofNat 250) (lanT 1 0), .res a1 (.ofNat 82) (.ofNat 38) h1] = true := by kernel_rfl
theorem s39 (W : World) (a1 : Int) (h1 : ((a1.tmod (.ofNat 82)).natAbs : Int) = .ofNat 39) : tst W [.resl (.ofNat 250) (lanT 1 0), .res a1 (.ofNat 82) (.ofNat 39) h1] = true := by kernel_rfl
theorem s40 (W : World) (a1 : Int) (h1 : ((a1.tmod (.ofNat 82)).natAbs : Int) = .ofNat 40) : tst W [.resl (.ofNat 250) (lanT 1 0), .res a1 (.ofNat 82) (.ofNat 40) h1] = true := by kernel_rfl
theorem s41 (W : World) (a1 : Int) (h1 : ((a1.tmod (.ofNat 82)).natAbs : Int) = .ofNat 41) : tst W [.resl (.ofNat 250) (lanT 1 0), .res a1 (.ofNat 82) (.ofNat 41) h1] = true := by kernel_rfl
theorem s42 (W : World) (a1 : Int) (h1 : ((a1.tmod (.ofNat 82)).natAbs : Int) = .ofNat 42) : tst W [.resl (.ofNat 250) (lanT 1 0), .res a1 (.ofNat 82) (.ofNat 42) h1] = true := by kernel_rfl
theorem s43 (W : World) (a1 : Int) (h1 : ((a1.tmod (.ofNat 82)).natAbs : Int) = .ofNat 43) : tst W [.resl (.ofNat 250) (lanT 1 0), .res a1 (.ofNat 82) (.ofNat 43) h1] = true := by kernel_rfl
theorem s44 (W : World) (a1 : Int) (h1 : ((a1.tmod (.ofNat 82)).natAbs : Int) = .ofNat 44) : tst W [.resl (.ofNat 250) (lanT 1 0), .res a1 (.ofNat 82) (.ofNat 44) h1] = true := by kernel_rfl
theorem s45 (W : World) (a1 : Int) (h1 : ((a1.tmod (.ofNat 82)).natAbs : Int) = .ofNat 45) : tst W [.resl (.ofNat 250) (lanT 1 0), .res a1 (.ofNat 82) (.ofNat 45) h1] = true := by kernel_rfl
theorem s46 (W : World) (a1 : Int) (h1 : ((a1.tmod (.ofNat 82)).natAbs : Int) = .ofNat 46) : tst W [.resl (.ofNat 250) (lanT 1 0), .res a1 (.ofNat 82) (.ofNat 46) h1] = true := by kernel_rfl
theorem s47 (W : World) (a1 : Int) (h1 : ((a1.tmod (.ofNat 82)).natAbs : Int) = .ofNat 47) : tst W [.resl (.ofNat 250) (lanT 1 0), .res a1 (.ofNat 82) (.ofNat 47) h1] = true := by kernel_rfl
theorem s48 (W : World) (a1 : Int) (h1 : ((a1.tmod (.ofNat 82)).natAbs : Int) = .ofNat 48) : tst W [.resl (.ofNat 250) (lanT 1 0), .res a1 (.ofNat 82) (.ofNat 48) h1] = true := by kernel_rfl
theorem s49 (W : World) (a1 : Int) (h1 : ((a1.tmod (.ofNat 82)).natAbs : Int) = .ofNat 49) : tst W [.resl (.ofNat 250) (lanT 1 0), .res a1 (.ofNat 82) (.ofNat 49) h1] = true := by kernel_rfl
theorem s50 (W : World) (a1 : Int) (h1 : ((a1.tmod (.ofNat 82)).natAbs : Int) = .ofNat 50) : tst W [.resl (.ofNat 250) (lanT 1 0), .res a1 (.ofNat 82) (.ofNat 50) h1] = true := by kernel_rfl
theorem s51 (W : World) (a1 : Int) (h1 : ((a1.tmod (.ofNat 82)).natAbs : Int) = .ofNat 51) : tst W [.resl (.ofNat 250) (lanT 1 0), .res a1 (.ofNat 82) (.ofNat 51) h1] = true := by kernel_rfl
theorem s52 (W : World) (a1 : Int) (h1 : ((a1.tmod (.ofNat 82)).natAbs : Int) = .ofNat 52) : tst W [.resl (.ofNat 250) (lanT 1 0), .res a1 (.ofNat 82) (.ofNat 52) h1] = true := by kernel_rfl
theorem s53 (W : World) (a1 : Int) (h1 : ((a1.tmod (.ofNat 82)).natAbs : Int) = .ofNat 53) : tst W [.resl (.ofNat 250) (lanT 1 0), .res a1 (.ofNat 82) (.ofNat 53) h1] = true := by kernel_rfl
theorem s54 (W : World) (a1 : Int) (h1 : ((a1.tmod (.ofNat 82)).natAbs : Int) = .ofNat 54) : tst W [.resl (.ofNat 250) (lanT 1 0), .res a1 (.ofNat 82) (.ofNat 54) h1] = true := by kernel_rfl
theorem s55 (W : World) (a1 : Int) (h1 : ((a1.tmod (.ofNat 82)).natAbs : Int) = .ofNat 55) : tst W [.resl (.ofNat 250) (lanT 1 0), .res a1 (.ofNat 82) (.ofNat 55) h1] = true := by kernel_rfl
end Go.Proofs.YtjkjkhfmalgenaaGreatDoor.topStream
