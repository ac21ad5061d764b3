/- TopStream: the evaluator's answers, by the kernel. -/
import Derived.Test.YtjkjkhfmalgenaaGreatDoorEvTopStreamRun
import Derived.KernelRfl
namespace Go.Proofs.YtjkjkhfmalgenaaGreatDoor.topStream
open Go.YtjkjkhfmalgenaaGreatDoorEv
set_option maxRecDepth 100000
theorem s112 (W : World) (a1 : Int) (h1 : ((a1.tmod (.ofNat 82)).natAbs : Int) = .ofNat 30) : tst W [.resl (.ofNat 250) (lanT 9 1), .res a1 (.ofNat 82) (.ofNat 30) h1] = true := by kernel_rfl
theorem s113 (W : World) (a1 : Int) (h1 : ((a1.tmod (.ofNat 82)).natAbs : Int) = .ofNat 31) : tst W [.resl (.ofNat 250) (lanT 9 1), .res a1 (.ofNat 82) (.ofNat 31) h1] = true := by kernel_rfl
theorem s114 (W : World) (a1 : Int) (h1 : ((a1.tmod (.ofNat 82)).natAbs : Int) = .ofNat 32) : tst W [.resl (.ofNat 250) (lanT 9 1), .res a1 (.ofNat 82) (.ofNat 32) h1] = true := by kernel_rfl
theorem s115 (W : World) (a1 : Int) (h1 : ((a1.tmod (.ofNat 82)).natAbs : Int) = .ofNat 33) : tst W [.resl (.ofNat 250) (lanT 9 1), .res a1 (.ofNat 82) (.ofNat 33) h1] = true := by kernel_rfl
theorem s116 (W : World) (a1 : Int) (h1 : ((a1.tmod (.ofNat 82)).natAbs : Int) = .ofNat 34) : tst W [.resl (.ofNat 250) (lanT 9 1), .res a1 (.ofNat 82) (.ofNat 34) h1] = true := by kernel_rfl
theorem s117 (W : World) (a1 : Int) (h1 : ((a1.tmod (.ofNat 82)).natAbs : Int) = .ofNat 35) : tst W [.resl (.ofNat 250) (lanT 9 1), .res a1 (.ofNat 82) (.ofNat 35) h1] = true := by kernel_rfl
theorem s118 (W : World) (a1 : Int) (h1 : ((a1.tmod (.ofNat 82)).natAbs : Int) = .ofNat 36) : tst W [.resl (.ofNat 250) (lanT 9 1), .res a1 (.ofNat 82) (.ofNat 36) h1] = true := by kernel_rfl
theorem s119 (W : World) (a1 : Int) (h1 : ((a1.tmod (.ofNat 82)).natAbs : Int) = .ofNat 37) : tst W [.resl (.ofNat 250) (lanT 9 1), .res a1 (.ofNat 82) (.ofNat 37) h1] = true := by kernel_rfl
theorem s120 (W : World) (a1 : Int) (h1 : ((a1.tmod (.ofNat 82)).natAbs : Int) = .ofNat 38) : tst W [.resl (.ofNat 250) (lanT 9 1), .res a1 (.ofNat 82) (.ofNat 38) h1] = true := by kernel_rfl
theorem s121 (W : World) (a1 : Int) (h1 : ((a1.tmod (.ofNat 82)).natAbs : Int) = .ofNat 39) : tst W [.resl (.ofNat 250) (lanT 9 1), .res a1 (.ofNat 82) (.ofNat 39) h1] = true := by kernel_rfl
theorem s122 (W : World) (a1 : Int) (h1 : ((a1.tmod (.ofNat 82)).natAbs : Int) = .ofNat 40) : tst W [.resl (.ofNat 250) (lanT 9 1), .res a1 (.ofNat 82) (.ofNat 40) h1] = true := by kernel_rfl
theorem s123 (W : World) (a1 : Int) (h1 : ((a1.tmod (.ofNat 82)).natAbs : Int) = .ofNat 41) : tst W [.resl (.ofNat 250) (lanT 9 1), .res a1 (.ofNat 82) (.ofNat 41) h1] = true := by kernel_rfl
theorem s124 (W : World) (a1 : Int) (h1 : ((a1.tmod (.ofNat 82)).natAbs : Int) = .ofNat 42) : tst W [.resl (.ofNat 250) (lanT 9 1), .res a1 (.ofNat 82) (.ofNat 42) h1] = true := by kernel_rfl
theorem s125 (W : World) (a1 : Int) (h1 : ((a1.tmod (.ofNat 82)).natAbs : Int) = .ofNat 43) : tst W [.resl (.ofNat 250) (lanT 9 1), .res a1 (.ofNat 82) (.ofNat 43) h1] = true := by kernel_rfl
theorem s126 (W : World) (a1 : Int) (h1 : ((a1.tmod (.ofNat 82)).natAbs : Int) = .ofNat 44) : tst W [.resl (.ofNat 250) (lanT 9 1), .res a1 (.ofNat 82) (.ofNat 44) h1] = true := by kernel_rfl
theorem s127 (W : World) (a1 : Int) (h1 : ((a1.tmod (.ofNat 82)).natAbs : Int) = .ofNat 45) : tst W [.resl (.ofNat 250) (lanT 9 1), .res a1 (.ofNat 82) (.ofNat 45) h1] = true := by kernel_rfl
theorem s128 (W : World) (a1 : Int) (h1 : ((a1.tmod (.ofNat 82)).natAbs : Int) = .ofNat 46) : tst W [.resl (.ofNat 250) (lanT 9 1), .res a1 (.ofNat 82) (.ofNat 46) h1] = true := by kernel_rfl
theorem s129 (W : World) (a1 : Int) (h1 : ((a1.tmod (.ofNat 82)).natAbs : Int) = .ofNat 47) : tst W [.resl (.ofNat 250) (lanT 9 1), .res a1 (.ofNat 82) (.ofNat 47) h1] = true := by kernel_rfl
theorem s130 (W : World) (a1 : Int) (h1 : ((a1.tmod (.ofNat 82)).natAbs : Int) = .ofNat 48) : tst W [.resl (.ofNat 250) (lanT 9 1), .res a1 (.ofNat 82) (.ofNat 48) h1] = true := by kernel_rfl
theorem s131 (W : World) (a1 : Int) (h1 : ((a1.tmod (.ofNat 82)).natAbs : Int) = .ofNat 49) : tst W [.resl (.ofNat 250) (lanT 9 1), .res a1 (.ofNat 82) (.ofNat 49) h1] = true := by kernel_rfl
theorem s132 (W : World) (a1 : Int) (h1 : ((a1.tmod (.ofNat 82)).natAbs : Int) = .ofNat 50) : tst W [.resl (.ofNat 250) (lanT 9 1), .res a1 (.ofNat 82) (.ofNat 50) h1] = true := by kernel_rfl
theorem s133 (W : World) (a1 : Int) (h1 : ((a1.tmod (.ofNat 82)).natAbs : Int) = .ofNat 51) : tst W [.resl (.ofNat 250) (lanT 9 1), .res a1 (.ofNat 82) (.ofNat 51) h1] = true := by kernel_rfl
theorem s134 (W : World) (a1 : Int) (h1 : ((a1.tmod (.ofNat 82)).natAbs : Int) = .ofNat 52) : tst W [.resl (.ofNat 250) (lanT 9 1), .res a1 (.ofNat 82) (.ofNat 52) h1] = true := by kernel_rfl
theorem s135 (W : World) (a1 : Int) (h1 : ((a1.tmod (.ofNat 82)).natAbs : Int) = .ofNat 53) : tst W [.resl (.ofNat 250) (lanT 9 1), .res a1 (.ofNat 82) (.ofNat 53) h1] = true := by kernel_rfl
theorem s136 (W : World) (a1 : Int) (h1 : ((a1.tmod (.ofNat 82)).natAbs : Int) = .ofNat 54) : tst W [.resl (.ofNat 250) (lanT 9 1), .res a1 (.ofNat 82) (.ofNat 54) h1] = true := by kernel_rfl
theorem s137 (W : World) (a1 : Int) (h1 : ((a1.tmod (.ofNat 82)).natAbs : Int) = .ofNat 55) : tst W [.resl (.ofNat 250) (lanT 9 1), .res a1 (.ofNat 82) (.ofNat 55) h1] = true := by kernel_rfl
theorem s138 (W : World) (a1 : Int) (h1 : ((a1.tmod (.ofNat 82)).natAbs : Int) = .ofNat 56) : tst W [.resl (.ofNat 250) (lanT 9 1), .res a1 (.ofNat 82) (.ofNat 56) h1] = true := by kernel_rfl
theorem s139 (W : World) (a1 : Int) (h1 : ((a1.tmod (.ofNat 82)).natAbs : Int) = .ofNat 57) : tst W [.resl (.ofNat 250) (lanT 9 1), .res a1 (.ofNat 82) (.ofNat 57) h1] = true := by kernel_rfl
theorem s140 (W : World) (a1 : Int) (h1 : ((a1.tmod (.ofNat 82)).natAbs : Int) = .ofNat 58) : tst W [.resl (.ofNat 250) (lanT 9 1), .res a1 (.ofNat 82) (.ofNat 58) h1] = true := by kernel_rfl
theorem s141 (W : World) (a1 : Int) (h1 : ((a1.tmod (.ofNat 82)).natAbs : Int) = .ofNat 59) : tst W [.resl (.ofNat 250) (lanT 9 1), .res a1 (.ofNat 82) (.ofNat 59) h1] = true := by kernel_rfl
theorem s142 (W : World) (a1 : Int) (h1 : ((a1.tmod (.ofNat 82)).natAbs : Int) = .ofNat 60) : tst W [.resl (.ofNat 250) (lanT 9 1), .res a1 (.ofNat 82) (.ofNat 60) h1] = true := by kernel_rfl
theorem s143 (W : World) (a1 : Int) (h1 : ((a1.tmod (.ofNat 82)).natAbs : Int) = .ofNat 61) : tst W [.resl (.ofNat 250) (lanT 9 1), .res a1 (.ofNat 82) (.ofNat 61) h1] = true := by kernel_rfl
theorem s144 (W : World) (a1 : Int) (h1 : ((a1.tmod (.ofNat 82)).natAbs : Int) = .ofNat 62) : tst W [.resl (.ofNat 250) (lanT 9 1), .res a1 (.ofNat 82) (.ofNat 62) h1] = true := by kernel_rfl
theorem s145 (W : World) (a1 : Int) (h1 : ((a1.tmod (.ofNat 82)).natAbs : Int) = .ofNat 63) : tst W [.resl (.ofNat 250) (lanT 9 1), .res a1 (.ofNat 82) (.ofNat 63) h1] = true := by kernel_rfl
theorem s146 (W : World) (a1 : Int) (h1 : ((a1.tmod (.ofNat 82)).natAbs : Int) = .ofNat 64) : tst W [.resl (.ofNat 250) (lanT 9 1), .res a1 (.ofNat 82) (.ofNat 64) h1] = true := by kernel_rfl
theorem s147 (W : World) (a1 : Int) (h1 : ((a1.tmod (.ofNat 82)).natAbs : Int) = .ofNat 65) : tst W [.resl (.ofNat 250) (lanT 9 1), .res a1 (.ofNat 82) (.ofNat 65) h1] = true := by kernel_rfl
theorem s148 (W : World) (a1 : Int) (h1 : ((a1.tmod (.ofNat 82)).natAbs : Int) = .ofNat 66) : tst W [.resl (.ofNat 250) (lanT 9 1), .res a1 (.ofNat 82) (.ofNat 66) h1] = true := by kernel_rfl
theorem s149 (W : World) (a1 : Int) (h1 : ((a1.tmod (.ofNat 82)).natAbs : Int) = .ofNat 67) : tst W [.resl (.ofNat 250) (lanT 9 1), .res a1 (.ofNat 82) (.ofNat 67) h1] = true := by kernel_rfl
theorem s150 (W : World) (a1 : Int) (h1 : ((a1.tmod (.ofNat 82)).natAbs : Int) = .ofNat 68) : tst W [.resl (.ofNat 250) (lanT 9 1), .res a1 (.ofNat 82) (.ofNat 68) h1] = true := by kernel_rfl
theorem s151 (W : World) (a1 : Int) (h1 : ((a1.tmod (.ofNat 82)).natAbs : Int) = .ofNat 69) : tst W [.resl (.ofNat 250) (lanT 9 1), .res a1 (.ofNat 82) (.ofNat 69) h1] = true := by kernel_rfl
theorem s152 (W : World) (a1 : Int) (h1 : ((a1.tmod (.ofNat 82)).natAbs : Int) = .ofNat 70) : tst W [.resl (.ofNat 250) (lanT 9 1), .res a1 (.ofNat 82) (.ofNat 70) h1] = true := by kernel_rfl
theorem s153 (W : World) (a1 : Int) (h1 : ((a1.tmod (.ofNat 82)).natAbs : Int) = .ofNat 71) : tst W [.resl (.ofNat 250) (lanT 9 1), .res a1 (.ofNat 82) (.ofNat 71) h1] = true := by kernel_rfl
theorem s154 (W : World) (a1 : Int) (h1 : ((a1.tmod (.ofNat 82)).natAbs : Int) = .ofNat 72) : tst W [.resl (.ofNat 250) (lanT 9 1), .res a1 (.ofNat 82) (.ofNat 72) h1] = true := by kernel_rfl
theorem s155 (W : World) (a1 : Int) (h1 : ((a1.tmod (.ofNat 82)).natAbs : Int) = .ofNat 73) : tst W [.resl (.ofNat 250) (lanT 9 1), .res a1 (.ofNat 82) (.ofNat 73) h1] = true := by kernel_rfl
theorem s156 (W : World) (a1 : Int) (h1 : ((a1.tmod (.ofNat 82)).natAbs : Int) = .ofNat 74) : tst W [.resl (.ofNat 250) (lanT 9 1), .res a1 (.ofNat 82) (.ofNat 74) h1] = true := by kernel_rfl
theorem s157 (W : World) (a1 : Int) (h1 : ((a1.tmod (.ofNat 82)).natAbs : Int) = .ofNat 75) : tst W [.resl (.ofNat 250) (lanT 9 1), .res a1 (.ofNat 82) (.ofNat 75) h1] = true := by kernel_rfl
theorem s158 (W : World) (a1 : Int) (h1 : ((a1.tmod (.ofNat 82)).natAbs : Int) = .ofNat 76) : tst W [.resl (.ofNat 250) (lanT 9 1), .res a1 (.ofNat 82) (.ofNat 76) h1] = true := by kernel_rfl
theorem s159 (W : World) (a1 : Int) (h1 : ((a1.tmod (.ofNat 82)).natAbs : Int) = .ofNat 77) : tst W [.resl (.ofNat 250) (lanT 9 1), .res a1 (.ofNat 82) (.ofNat 77) h1] = true := by kernel_rfl
theorem s160 (W : World) (a1 : Int) (h1 : ((a1.tmod (.ofNat 82)).natAbs : Int) = .ofNat 78) : tst W [.resl (.ofNat 250) (lanT 9 1), .res a1 (.ofNat 82) (.ofNat 78) h1] = true := by kernel_rfl
theorem s161 (W : World) (a1 : Int) (h1 : ((a1.tmod (.ofNat 82)).natAbs : Int) = .ofNat 79) : tst W [.resl (.ofNat 250) (lanT 9 1), .res a1 (.ofNat 82) (.ofNat 79) h1] = true := by kernel_rfl
theorem s162 (W : World) (a1 : Int) (h1 : ((a1.tmod (.ofNat 82)).natAbs : Int) = .ofNat 80) : tst W [.resl (.ofNat 250) (lanT 9 1), .res a1 (.ofNat 82) (.ofNat 80) h1] = true := by kernel_rfl
theorem s163 (W : World) (a1 : Int) (h1 : ((a1.tmod (.ofNat 82)).natAbs : Int) = .ofNat 81) : tst W [.resl (.ofNat 250) (lanT 9 1), .res a1 (.ofNat 82) (.ofNat 81) h1] = true := by kernel_rfl
theorem s164 (W : World) (a1 : Int) (h1 : ((a1.tmod (.ofNat 84)).natAbs : Int) = .ofNat 0) : tst W [.resl (.ofNat 250) (lanT 90 10), .res a1 (.ofNat 84) (.ofNat 0) h1] = true := by kernel_rfl
theorem s165 (W : World) (a1 : Int) (h1 : ((a1.tmod (.ofNat 84)).natAbs : Int) = .ofNat 1) : tst W [.resl (.ofNat 250) (lanT 90 10), .res a1 (.ofNat 84) (.ofNat 1) h1] = true := by kernel_rfl
theorem s166 (W : World) (a1 : Int) (h1 : ((a1.tmod (.ofNat 84)).natAbs : Int) = .ofNat 2) : tst W [.resl (.ofNat 250) (lanT 90 10), .res a1 (.ofNat 84) (.ofNat 2) h1] = true := by kernel_rfl
theorem s167 (W : World) (a1 : Int) (h1 : ((a1.tmod (.ofNat 84)).natAbs : Int) = .ofNat 3) : tst W [.resl (.ofNat 250) (lanT 90 10), .res a1 (.ofNat 84) (.ofNat 3) h1] = true := by kernel_rfl
end Go.Proofs.YtjkjkhfmalgenaaGreatDoor.topStream
