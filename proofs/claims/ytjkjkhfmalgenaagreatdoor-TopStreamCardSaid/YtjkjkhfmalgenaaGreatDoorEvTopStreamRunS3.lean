/- TopStream: the evaluator's answers, by the kernel. -/
import Derived.Test.YtjkjkhfmalgenaaGreatDoorEvTopStreamRun
import Derived.KernelRfl
namespace Go.Proofs.YtjkjkhfmalgenaaGreatDoor.topStream
open Go.YtjkjkhfmalgenaaGreatDoorEv
set_option maxRecDepth 100000
theorem s168 (W : World) (a1 : Int) (h1 : ((a1.tmod (.ofNat 84)).natAbs : Int) = .ofNat 4) : tst W [.resl (.ofNat 250) (lanT 90 10), .res a1 (.ofNat 84) (.ofNat 4) h1] = true := by kernel_rfl
theorem s169 (W : World) (a1 : Int) (h1 : ((a1.tmod (.ofNat 84)).natAbs : Int) = .ofNat 5) : tst W [.resl (.ofNat 250) (lanT 90 10), .res a1 (.ofNat 84) (.ofNat 5) h1] = true := by kernel_rfl
theorem s170 (W : World) (a1 : Int) (h1 : ((a1.tmod (.ofNat 84)).natAbs : Int) = .ofNat 6) : tst W [.resl (.ofNat 250) (lanT 90 10), .res a1 (.ofNat 84) (.ofNat 6) h1] = true := by kernel_rfl
theorem s171 (W : World) (a1 : Int) (h1 : ((a1.tmod (.ofNat 84)).natAbs : Int) = .ofNat 7) : tst W [.resl (.ofNat 250) (lanT 90 10), .res a1 (.ofNat 84) (.ofNat 7) h1] = true := by kernel_rfl
theorem s172 (W : World) (a1 : Int) (h1 : ((a1.tmod (.ofNat 84)).natAbs : Int) = .ofNat 8) : tst W [.resl (.ofNat 250) (lanT 90 10), .res a1 (.ofNat 84) (.ofNat 8) h1] = true := by kernel_rfl
theorem s173 (W : World) (a1 : Int) (h1 : ((a1.tmod (.ofNat 84)).natAbs : Int) = .ofNat 9) : tst W [.resl (.ofNat 250) (lanT 90 10), .res a1 (.ofNat 84) (.ofNat 9) h1] = true := by kernel_rfl
theorem s174 (W : World) (a1 : Int) (h1 : ((a1.tmod (.ofNat 84)).natAbs : Int) = .ofNat 10) : tst W [.resl (.ofNat 250) (lanT 90 10), .res a1 (.ofNat 84) (.ofNat 10) h1] = true := by kernel_rfl
theorem s175 (W : World) (a1 : Int) (h1 : ((a1.tmod (.ofNat 84)).natAbs : Int) = .ofNat 11) : tst W [.resl (.ofNat 250) (lanT 90 10), .res a1 (.ofNat 84) (.ofNat 11) h1] = true := by kernel_rfl
theorem s176 (W : World) (a1 : Int) (h1 : ((a1.tmod (.ofNat 84)).natAbs : Int) = .ofNat 12) : tst W [.resl (.ofNat 250) (lanT 90 10), .res a1 (.ofNat 84) (.ofNat 12) h1] = true := by kernel_rfl
theorem s177 (W : World) (a1 : Int) (h1 : ((a1.tmod (.ofNat 84)).natAbs : Int) = .ofNat 13) : tst W [.resl (.ofNat 250) (lanT 90 10), .res a1 (.ofNat 84) (.ofNat 13) h1] = true := by kernel_rfl
theorem s178 (W : World) (a1 : Int) (h1 : ((a1.tmod (.ofNat 84)).natAbs : Int) = .ofNat 14) : tst W [.resl (.ofNat 250) (lanT 90 10), .res a1 (.ofNat 84) (.ofNat 14) h1] = true := by kernel_rfl
theorem s179 (W : World) (a1 : Int) (h1 : ((a1.tmod (.ofNat 84)).natAbs : Int) = .ofNat 15) : tst W [.resl (.ofNat 250) (lanT 90 10), .res a1 (.ofNat 84) (.ofNat 15) h1] = true := by kernel_rfl
theorem s180 (W : World) (a1 : Int) (h1 : ((a1.tmod (.ofNat 84)).natAbs : Int) = .ofNat 16) : tst W [.resl (.ofNat 250) (lanT 90 10), .res a1 (.ofNat 84) (.ofNat 16) h1] = true := by kernel_rfl
theorem s181 (W : World) (a1 : Int) (h1 : ((a1.tmod (.ofNat 84)).natAbs : Int) = .ofNat 17) : tst W [.resl (.ofNat 250) (lanT 90 10), .res a1 (.ofNat 84) (.ofNat 17) h1] = true := by kernel_rfl
theorem s182 (W : World) (a1 : Int) (h1 : ((a1.tmod (.ofNat 84)).natAbs : Int) = .ofNat 18) : tst W [.resl (.ofNat 250) (lanT 90 10), .res a1 (.ofNat 84) (.ofNat 18) h1] = true := by kernel_rfl
theorem s183 (W : World) (a1 : Int) (h1 : ((a1.tmod (.ofNat 84)).natAbs : Int) = .ofNat 19) : tst W [.resl (.ofNat 250) (lanT 90 10), .res a1 (.ofNat 84) (.ofNat 19) h1] = true := by kernel_rfl
theorem s184 (W : World) (a1 : Int) (h1 : ((a1.tmod (.ofNat 84)).natAbs : Int) = .ofNat 20) : tst W [.resl (.ofNat 250) (lanT 90 10), .res a1 (.ofNat 84) (.ofNat 20) h1] = true := by kernel_rfl
theorem s185 (W : World) (a1 : Int) (h1 : ((a1.tmod (.ofNat 84)).natAbs : Int) = .ofNat 21) : tst W [.resl (.ofNat 250) (lanT 90 10), .res a1 (.ofNat 84) (.ofNat 21) h1] = true := by kernel_rfl
theorem s186 (W : World) (a1 : Int) (h1 : ((a1.tmod (.ofNat 84)).natAbs : Int) = .ofNat 22) : tst W [.resl (.ofNat 250) (lanT 90 10), .res a1 (.ofNat 84) (.ofNat 22) h1] = true := by kernel_rfl
theorem s187 (W : World) (a1 : Int) (h1 : ((a1.tmod (.ofNat 84)).natAbs : Int) = .ofNat 23) : tst W [.resl (.ofNat 250) (lanT 90 10), .res a1 (.ofNat 84) (.ofNat 23) h1] = true := by kernel_rfl
theorem s188 (W : World) (a1 : Int) (h1 : ((a1.tmod (.ofNat 84)).natAbs : Int) = .ofNat 24) : tst W [.resl (.ofNat 250) (lanT 90 10), .res a1 (.ofNat 84) (.ofNat 24) h1] = true := by kernel_rfl
theorem s189 (W : World) (a1 : Int) (h1 : ((a1.tmod (.ofNat 84)).natAbs : Int) = .ofNat 25) : tst W [.resl (.ofNat 250) (lanT 90 10), .res a1 (.ofNat 84) (.ofNat 25) h1] = true := by kernel_rfl
theorem s190 (W : World) (a1 : Int) (h1 : ((a1.tmod (.ofNat 84)).natAbs : Int) = .ofNat 26) : tst W [.resl (.ofNat 250) (lanT 90 10), .res a1 (.ofNat 84) (.ofNat 26) h1] = true := by kernel_rfl
theorem s191 (W : World) (a1 : Int) (h1 : ((a1.tmod (.ofNat 84)).natAbs : Int) = .ofNat 27) : tst W [.resl (.ofNat 250) (lanT 90 10), .res a1 (.ofNat 84) (.ofNat 27) h1] = true := by kernel_rfl
theorem s192 (W : World) (a1 : Int) (h1 : ((a1.tmod (.ofNat 84)).natAbs : Int) = .ofNat 28) : tst W [.resl (.ofNat 250) (lanT 90 10), .res a1 (.ofNat 84) (.ofNat 28) h1] = true := by kernel_rfl
theorem s193 (W : World) (a1 : Int) (h1 : ((a1.tmod (.ofNat 84)).natAbs : Int) = .ofNat 29) : tst W [.resl (.ofNat 250) (lanT 90 10), .res a1 (.ofNat 84) (.ofNat 29) h1] = true := by kernel_rfl
theorem s194 (W : World) (a1 : Int) (h1 : ((a1.tmod (.ofNat 84)).natAbs : Int) = .ofNat 30) : tst W [.resl (.ofNat 250) (lanT 90 10), .res a1 (.ofNat 84) (.ofNat 30) h1] = true := by kernel_rfl
theorem s195 (W : World) (a1 : Int) (h1 : ((a1.tmod (.ofNat 84)).natAbs : Int) = .ofNat 31) : tst W [.resl (.ofNat 250) (lanT 90 10), .res a1 (.ofNat 84) (.ofNat 31) h1] = true := by kernel_rfl
theorem s196 (W : World) (a1 : Int) (h1 : ((a1.tmod (.ofNat 84)).natAbs : Int) = .ofNat 32) : tst W [.resl (.ofNat 250) (lanT 90 10), .res a1 (.ofNat 84) (.ofNat 32) h1] = true := by kernel_rfl
theorem s197 (W : World) (a1 : Int) (h1 : ((a1.tmod (.ofNat 84)).natAbs : Int) = .ofNat 33) : tst W [.resl (.ofNat 250) (lanT 90 10), .res a1 (.ofNat 84) (.ofNat 33) h1] = true := by kernel_rfl
theorem s198 (W : World) (a1 : Int) (h1 : ((a1.tmod (.ofNat 84)).natAbs : Int) = .ofNat 34) : tst W [.resl (.ofNat 250) (lanT 90 10), .res a1 (.ofNat 84) (.ofNat 34) h1] = true := by kernel_rfl
theorem s199 (W : World) (a1 : Int) (h1 : ((a1.tmod (.ofNat 84)).natAbs : Int) = .ofNat 35) : tst W [.resl (.ofNat 250) (lanT 90 10), .res a1 (.ofNat 84) (.ofNat 35) h1] = true := by kernel_rfl
theorem s200 (W : World) (a1 : Int) (h1 : ((a1.tmod (.ofNat 84)).natAbs : Int) = .ofNat 36) : tst W [.resl (.ofNat 250) (lanT 90 10), .res a1 (.ofNat 84) (.ofNat 36) h1] = true := by kernel_rfl
theorem s201 (W : World) (a1 : Int) (h1 : ((a1.tmod (.ofNat 84)).natAbs : Int) = .ofNat 37) : tst W [.resl (.ofNat 250) (lanT 90 10), .res a1 (.ofNat 84) (.ofNat 37) h1] = true := by kernel_rfl
theorem s202 (W : World) (a1 : Int) (h1 : ((a1.tmod (.ofNat 84)).natAbs : Int) = .ofNat 38) : tst W [.resl (.ofNat 250) (lanT 90 10), .res a1 (.ofNat 84) (.ofNat 38) h1] = true := by kernel_rfl
theorem s203 (W : World) (a1 : Int) (h1 : ((a1.tmod (.ofNat 84)).natAbs : Int) = .ofNat 39) : tst W [.resl (.ofNat 250) (lanT 90 10), .res a1 (.ofNat 84) (.ofNat 39) h1] = true := by kernel_rfl
theorem s204 (W : World) (a1 : Int) (h1 : ((a1.tmod (.ofNat 84)).natAbs : Int) = .ofNat 40) : tst W [.resl (.ofNat 250) (lanT 90 10), .res a1 (.ofNat 84) (.ofNat 40) h1] = true := by kernel_rfl
theorem s205 (W : World) (a1 : Int) (h1 : ((a1.tmod (.ofNat 84)).natAbs : Int) = .ofNat 41) : tst W [.resl (.ofNat 250) (lanT 90 10), .res a1 (.ofNat 84) (.ofNat 41) h1] = true := by kernel_rfl
theorem s206 (W : World) (a1 : Int) (h1 : ((a1.tmod (.ofNat 84)).natAbs : Int) = .ofNat 42) : tst W [.resl (.ofNat 250) (lanT 90 10), .res a1 (.ofNat 84) (.ofNat 42) h1] = true := by kernel_rfl
theorem s207 (W : World) (a1 : Int) (h1 : ((a1.tmod (.ofNat 84)).natAbs : Int) = .ofNat 43) : tst W [.resl (.ofNat 250) (lanT 90 10), .res a1 (.ofNat 84) (.ofNat 43) h1] = true := by kernel_rfl
theorem s208 (W : World) (a1 : Int) (h1 : ((a1.tmod (.ofNat 84)).natAbs : Int) = .ofNat 44) : tst W [.resl (.ofNat 250) (lanT 90 10), .res a1 (.ofNat 84) (.ofNat 44) h1] = true := by kernel_rfl
theorem s209 (W : World) (a1 : Int) (h1 : ((a1.tmod (.ofNat 84)).natAbs : Int) = .ofNat 45) : tst W [.resl (.ofNat 250) (lanT 90 10), .res a1 (.ofNat 84) (.ofNat 45) h1] = true := by kernel_rfl
theorem s210 (W : World) (a1 : Int) (h1 : ((a1.tmod (.ofNat 84)).natAbs : Int) = .ofNat 46) : tst W [.resl (.ofNat 250) (lanT 90 10), .res a1 (.ofNat 84) (.ofNat 46) h1] = true := by kernel_rfl
theorem s211 (W : World) (a1 : Int) (h1 : ((a1.tmod (.ofNat 84)).natAbs : Int) = .ofNat 47) : tst W [.resl (.ofNat 250) (lanT 90 10), .res a1 (.ofNat 84) (.ofNat 47) h1] = true := by kernel_rfl
theorem s212 (W : World) (a1 : Int) (h1 : ((a1.tmod (.ofNat 84)).natAbs : Int) = .ofNat 48) : tst W [.resl (.ofNat 250) (lanT 90 10), .res a1 (.ofNat 84) (.ofNat 48) h1] = true := by kernel_rfl
theorem s213 (W : World) (a1 : Int) (h1 : ((a1.tmod (.ofNat 84)).natAbs : Int) = .ofNat 49) : tst W [.resl (.ofNat 250) (lanT 90 10), .res a1 (.ofNat 84) (.ofNat 49) h1] = true := by kernel_rfl
theorem s214 (W : World) (a1 : Int) (h1 : ((a1.tmod (.ofNat 84)).natAbs : Int) = .ofNat 50) : tst W [.resl (.ofNat 250) (lanT 90 10), .res a1 (.ofNat 84) (.ofNat 50) h1] = true := by kernel_rfl
theorem s215 (W : World) (a1 : Int) (h1 : ((a1.tmod (.ofNat 84)).natAbs : Int) = .ofNat 51) : tst W [.resl (.ofNat 250) (lanT 90 10), .res a1 (.ofNat 84) (.ofNat 51) h1] = true := by kernel_rfl
theorem s216 (W : World) (a1 : Int) (h1 : ((a1.tmod (.ofNat 84)).natAbs : Int) = .ofNat 52) : tst W [.resl (.ofNat 250) (lanT 90 10), .res a1 (.ofNat 84) (.ofNat 52) h1] = true := by kernel_rfl
theorem s217 (W : World) (a1 : Int) (h1 : ((a1.tmod (.ofNat 84)).natAbs : Int) = .ofNat 53) : tst W [.resl (.ofNat 250) (lanT 90 10), .res a1 (.ofNat 84) (.ofNat 53) h1] = true := by kernel_rfl
theorem s218 (W : World) (a1 : Int) (h1 : ((a1.tmod (.ofNat 84)).natAbs : Int) = .ofNat 54) : tst W [.resl (.ofNat 250) (lanT 90 10), .res a1 (.ofNat 84) (.ofNat 54) h1] = true := by kernel_rfl
theorem s219 (W : World) (a1 : Int) (h1 : ((a1.tmod (.ofNat 84)).natAbs : Int) = .ofNat 55) : tst W [.resl (.ofNat 250) (lanT 90 10), .res a1 (.ofNat 84) (.ofNat 55) h1] = true := by kernel_rfl
theorem s220 (W : World) (a1 : Int) (h1 : ((a1.tmod (.ofNat 84)).natAbs : Int) = .ofNat 56) : tst W [.resl (.ofNat 250) (lanT 90 10), .res a1 (.ofNat 84) (.ofNat 56) h1] = true := by kernel_rfl
theorem s221 (W : World) (a1 : Int) (h1 : ((a1.tmod (.ofNat 84)).natAbs : Int) = .ofNat 57) : tst W [.resl (.ofNat 250) (lanT 90 10), .res a1 (.ofNat 84) (.ofNat 57) h1] = true := by kernel_rfl
theorem s222 (W : World) (a1 : Int) (h1 : ((a1.tmod (.ofNat 84)).natAbs : Int) = .ofNat 58) : tst W [.resl (.ofNat 250) (lanT 90 10), .res a1 (.ofNat 84) (.ofNat 58) h1] = true := by kernel_rfl
theorem s223 (W : World) (a1 : Int) (h1 : ((a1.tmod (.ofNat 84)).natAbs : Int) = .ofNat 59) : tst W [.resl (.ofNat 250) (lanT 90 10), .res a1 (.ofNat 84) (.ofNat 59) h1] = true := by kernel_rfl
end Go.Proofs.YtjkjkhfmalgenaaGreatDoor.topStream
