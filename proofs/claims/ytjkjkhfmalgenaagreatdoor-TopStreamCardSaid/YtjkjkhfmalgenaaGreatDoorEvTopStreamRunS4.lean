/- TopStream: the evaluator's answers, by the kernel. -/
import Derived.Test.YtjkjkhfmalgenaaGreatDoorEvTopStreamRun
import Derived.KernelRfl
namespace Go.Proofs.YtjkjkhfmalgenaaGreatDoor.topStream
open Go.YtjkjkhfmalgenaaGreatDoorEv
set_option maxRecDepth 100000
theorem s224 (W : World) (a1 : Int) (h1 : ((a1.tmod (.ofNat 84)).natAbs : Int) = .ofNat 60) : tst W [.resl (.ofNat 250) (lanT 90 10), .res a1 (.ofNat 84) (.ofNat 60) h1] = true := by kernel_rfl
theorem s225 (W : World) (a1 : Int) (h1 : ((a1.tmod (.ofNat 84)).natAbs : Int) = .ofNat 61) : tst W [.resl (.ofNat 250) (lanT 90 10), .res a1 (.ofNat 84) (.ofNat 61) h1] = true := by kernel_rfl
theorem s226 (W : World) (a1 : Int) (h1 : ((a1.tmod (.ofNat 84)).natAbs : Int) = .ofNat 62) : tst W [.resl (.ofNat 250) (lanT 90 10), .res a1 (.ofNat 84) (.ofNat 62) h1] = true := by kernel_rfl
theorem s227 (W : World) (a1 : Int) (h1 : ((a1.tmod (.ofNat 84)).natAbs : Int) = .ofNat 63) : tst W [.resl (.ofNat 250) (lanT 90 10), .res a1 (.ofNat 84) (.ofNat 63) h1] = true := by kernel_rfl
theorem s228 (W : World) (a1 : Int) (h1 : ((a1.tmod (.ofNat 84)).natAbs : Int) = .ofNat 64) : tst W [.resl (.ofNat 250) (lanT 90 10), .res a1 (.ofNat 84) (.ofNat 64) h1] = true := by kernel_rfl
theorem s229 (W : World) (a1 : Int) (h1 : ((a1.tmod (.ofNat 84)).natAbs : Int) = .ofNat 65) : tst W [.resl (.ofNat 250) (lanT 90 10), .res a1 (.ofNat 84) (.ofNat 65) h1] = true := by kernel_rfl
theorem s230 (W : World) (a1 : Int) (h1 : ((a1.tmod (.ofNat 84)).natAbs : Int) = .ofNat 66) : tst W [.resl (.ofNat 250) (lanT 90 10), .res a1 (.ofNat 84) (.ofNat 66) h1] = true := by kernel_rfl
theorem s231 (W : World) (a1 : Int) (h1 : ((a1.tmod (.ofNat 84)).natAbs : Int) = .ofNat 67) : tst W [.resl (.ofNat 250) (lanT 90 10), .res a1 (.ofNat 84) (.ofNat 67) h1] = true := by kernel_rfl
theorem s232 (W : World) (a1 : Int) (h1 : ((a1.tmod (.ofNat 84)).natAbs : Int) = .ofNat 68) : tst W [.resl (.ofNat 250) (lanT 90 10), .res a1 (.ofNat 84) (.ofNat 68) h1] = true := by kernel_rfl
theorem s233 (W : World) (a1 : Int) (h1 : ((a1.tmod (.ofNat 84)).natAbs : Int) = .ofNat 69) : tst W [.resl (.ofNat 250) (lanT 90 10), .res a1 (.ofNat 84) (.ofNat 69) h1] = true := by kernel_rfl
theorem s234 (W : World) (a1 : Int) (h1 : ((a1.tmod (.ofNat 84)).natAbs : Int) = .ofNat 70) : tst W [.resl (.ofNat 250) (lanT 90 10), .res a1 (.ofNat 84) (.ofNat 70) h1] = true := by kernel_rfl
theorem s235 (W : World) (a1 : Int) (h1 : ((a1.tmod (.ofNat 84)).natAbs : Int) = .ofNat 71) : tst W [.resl (.ofNat 250) (lanT 90 10), .res a1 (.ofNat 84) (.ofNat 71) h1] = true := by kernel_rfl
theorem s236 (W : World) (a1 : Int) (h1 : ((a1.tmod (.ofNat 84)).natAbs : Int) = .ofNat 72) : tst W [.resl (.ofNat 250) (lanT 90 10), .res a1 (.ofNat 84) (.ofNat 72) h1] = true := by kernel_rfl
theorem s237 (W : World) (a1 : Int) (h1 : ((a1.tmod (.ofNat 84)).natAbs : Int) = .ofNat 73) : tst W [.resl (.ofNat 250) (lanT 90 10), .res a1 (.ofNat 84) (.ofNat 73) h1] = true := by kernel_rfl
theorem s238 (W : World) (a1 : Int) (h1 : ((a1.tmod (.ofNat 84)).natAbs : Int) = .ofNat 74) : tst W [.resl (.ofNat 250) (lanT 90 10), .res a1 (.ofNat 84) (.ofNat 74) h1] = true := by kernel_rfl
theorem s239 (W : World) (a1 : Int) (h1 : ((a1.tmod (.ofNat 84)).natAbs : Int) = .ofNat 75) : tst W [.resl (.ofNat 250) (lanT 90 10), .res a1 (.ofNat 84) (.ofNat 75) h1] = true := by kernel_rfl
theorem s240 (W : World) (a1 : Int) (h1 : ((a1.tmod (.ofNat 84)).natAbs : Int) = .ofNat 76) : tst W [.resl (.ofNat 250) (lanT 90 10), .res a1 (.ofNat 84) (.ofNat 76) h1] = true := by kernel_rfl
theorem s241 (W : World) (a1 : Int) (h1 : ((a1.tmod (.ofNat 84)).natAbs : Int) = .ofNat 77) : tst W [.resl (.ofNat 250) (lanT 90 10), .res a1 (.ofNat 84) (.ofNat 77) h1] = true := by kernel_rfl
theorem s242 (W : World) (a1 : Int) (h1 : ((a1.tmod (.ofNat 84)).natAbs : Int) = .ofNat 78) : tst W [.resl (.ofNat 250) (lanT 90 10), .res a1 (.ofNat 84) (.ofNat 78) h1] = true := by kernel_rfl
theorem s243 (W : World) (a1 : Int) (h1 : ((a1.tmod (.ofNat 84)).natAbs : Int) = .ofNat 79) : tst W [.resl (.ofNat 250) (lanT 90 10), .res a1 (.ofNat 84) (.ofNat 79) h1] = true := by kernel_rfl
theorem s244 (W : World) (a1 : Int) (h1 : ((a1.tmod (.ofNat 84)).natAbs : Int) = .ofNat 80) : tst W [.resl (.ofNat 250) (lanT 90 10), .res a1 (.ofNat 84) (.ofNat 80) h1] = true := by kernel_rfl
theorem s245 (W : World) (a1 : Int) (h1 : ((a1.tmod (.ofNat 84)).natAbs : Int) = .ofNat 81) : tst W [.resl (.ofNat 250) (lanT 90 10), .res a1 (.ofNat 84) (.ofNat 81) h1] = true := by kernel_rfl
theorem s246 (W : World) (a1 : Int) (h1 : ((a1.tmod (.ofNat 84)).natAbs : Int) = .ofNat 82) : tst W [.resl (.ofNat 250) (lanT 90 10), .res a1 (.ofNat 84) (.ofNat 82) h1] = true := by kernel_rfl
theorem s247 (W : World) (a1 : Int) (h1 : ((a1.tmod (.ofNat 84)).natAbs : Int) = .ofNat 83) : tst W [.resl (.ofNat 250) (lanT 90 10), .res a1 (.ofNat 84) (.ofNat 83) h1] = true := by kernel_rfl
theorem s248 (W : World) (a1 : Int) (h1 : ((a1.tmod (.ofNat 86)).natAbs : Int) = .ofNat 0) : tst W [.resl (.ofNat 250) (lanT 28 100), .res a1 (.ofNat 86) (.ofNat 0) h1] = true := by kernel_rfl
theorem s249 (W : World) (a1 : Int) (h1 : ((a1.tmod (.ofNat 86)).natAbs : Int) = .ofNat 1) : tst W [.resl (.ofNat 250) (lanT 28 100), .res a1 (.ofNat 86) (.ofNat 1) h1] = true := by kernel_rfl
theorem s250 (W : World) (a1 : Int) (h1 : ((a1.tmod (.ofNat 86)).natAbs : Int) = .ofNat 2) : tst W [.resl (.ofNat 250) (lanT 28 100), .res a1 (.ofNat 86) (.ofNat 2) h1] = true := by kernel_rfl
theorem s251 (W : World) (a1 : Int) (h1 : ((a1.tmod (.ofNat 86)).natAbs : Int) = .ofNat 3) : tst W [.resl (.ofNat 250) (lanT 28 100), .res a1 (.ofNat 86) (.ofNat 3) h1] = true := by kernel_rfl
theorem s252 (W : World) (a1 : Int) (h1 : ((a1.tmod (.ofNat 86)).natAbs : Int) = .ofNat 4) : tst W [.resl (.ofNat 250) (lanT 28 100), .res a1 (.ofNat 86) (.ofNat 4) h1] = true := by kernel_rfl
theorem s253 (W : World) (a1 : Int) (h1 : ((a1.tmod (.ofNat 86)).natAbs : Int) = .ofNat 5) : tst W [.resl (.ofNat 250) (lanT 28 100), .res a1 (.ofNat 86) (.ofNat 5) h1] = true := by kernel_rfl
theorem s254 (W : World) (a1 : Int) (h1 : ((a1.tmod (.ofNat 86)).natAbs : Int) = .ofNat 6) : tst W [.resl (.ofNat 250) (lanT 28 100), .res a1 (.ofNat 86) (.ofNat 6) h1] = true := by kernel_rfl
theorem s255 (W : World) (a1 : Int) (h1 : ((a1.tmod (.ofNat 86)).natAbs : Int) = .ofNat 7) : tst W [.resl (.ofNat 250) (lanT 28 100), .res a1 (.ofNat 86) (.ofNat 7) h1] = true := by kernel_rfl
theorem s256 (W : World) (a1 : Int) (h1 : ((a1.tmod (.ofNat 86)).natAbs : Int) = .ofNat 8) : tst W [.resl (.ofNat 250) (lanT 28 100), .res a1 (.ofNat 86) (.ofNat 8) h1] = true := by kernel_rfl
theorem s257 (W : World) (a1 : Int) (h1 : ((a1.tmod (.ofNat 86)).natAbs : Int) = .ofNat 9) : tst W [.resl (.ofNat 250) (lanT 28 100), .res a1 (.ofNat 86) (.ofNat 9) h1] = true := by kernel_rfl
theorem s258 (W : World) (a1 : Int) (h1 : ((a1.tmod (.ofNat 86)).natAbs : Int) = .ofNat 10) : tst W [.resl (.ofNat 250) (lanT 28 100), .res a1 (.ofNat 86) (.ofNat 10) h1] = true := by kernel_rfl
theorem s259 (W : World) (a1 : Int) (h1 : ((a1.tmod (.ofNat 86)).natAbs : Int) = .ofNat 11) : tst W [.resl (.ofNat 250) (lanT 28 100), .res a1 (.ofNat 86) (.ofNat 11) h1] = true := by kernel_rfl
theorem s260 (W : World) (a1 : Int) (h1 : ((a1.tmod (.ofNat 86)).natAbs : Int) = .ofNat 12) : tst W [.resl (.ofNat 250) (lanT 28 100), .res a1 (.ofNat 86) (.ofNat 12) h1] = true := by kernel_rfl
theorem s261 (W : World) (a1 : Int) (h1 : ((a1.tmod (.ofNat 86)).natAbs : Int) = .ofNat 13) : tst W [.resl (.ofNat 250) (lanT 28 100), .res a1 (.ofNat 86) (.ofNat 13) h1] = true := by kernel_rfl
theorem s262 (W : World) (a1 : Int) (h1 : ((a1.tmod (.ofNat 86)).natAbs : Int) = .ofNat 14) : tst W [.resl (.ofNat 250) (lanT 28 100), .res a1 (.ofNat 86) (.ofNat 14) h1] = true := by kernel_rfl
theorem s263 (W : World) (a1 : Int) (h1 : ((a1.tmod (.ofNat 86)).natAbs : Int) = .ofNat 15) : tst W [.resl (.ofNat 250) (lanT 28 100), .res a1 (.ofNat 86) (.ofNat 15) h1] = true := by kernel_rfl
theorem s264 (W : World) (a1 : Int) (h1 : ((a1.tmod (.ofNat 86)).natAbs : Int) = .ofNat 16) : tst W [.resl (.ofNat 250) (lanT 28 100), .res a1 (.ofNat 86) (.ofNat 16) h1] = true := by kernel_rfl
theorem s265 (W : World) (a1 : Int) (h1 : ((a1.tmod (.ofNat 86)).natAbs : Int) = .ofNat 17) : tst W [.resl (.ofNat 250) (lanT 28 100), .res a1 (.ofNat 86) (.ofNat 17) h1] = true := by kernel_rfl
theorem s266 (W : World) (a1 : Int) (h1 : ((a1.tmod (.ofNat 86)).natAbs : Int) = .ofNat 18) : tst W [.resl (.ofNat 250) (lanT 28 100), .res a1 (.ofNat 86) (.ofNat 18) h1] = true := by kernel_rfl
theorem s267 (W : World) (a1 : Int) (h1 : ((a1.tmod (.ofNat 86)).natAbs : Int) = .ofNat 19) : tst W [.resl (.ofNat 250) (lanT 28 100), .res a1 (.ofNat 86) (.ofNat 19) h1] = true := by kernel_rfl
theorem s268 (W : World) (a1 : Int) (h1 : ((a1.tmod (.ofNat 86)).natAbs : Int) = .ofNat 20) : tst W [.resl (.ofNat 250) (lanT 28 100), .res a1 (.ofNat 86) (.ofNat 20) h1] = true := by kernel_rfl
theorem s269 (W : World) (a1 : Int) (h1 : ((a1.tmod (.ofNat 86)).natAbs : Int) = .ofNat 21) : tst W [.resl (.ofNat 250) (lanT 28 100), .res a1 (.ofNat 86) (.ofNat 21) h1] = true := by kernel_rfl
theorem s270 (W : World) (a1 : Int) (h1 : ((a1.tmod (.ofNat 86)).natAbs : Int) = .ofNat 22) : tst W [.resl (.ofNat 250) (lanT 28 100), .res a1 (.ofNat 86) (.ofNat 22) h1] = true := by kernel_rfl
theorem s271 (W : World) (a1 : Int) (h1 : ((a1.tmod (.ofNat 86)).natAbs : Int) = .ofNat 23) : tst W [.resl (.ofNat 250) (lanT 28 100), .res a1 (.ofNat 86) (.ofNat 23) h1] = true := by kernel_rfl
theorem s272 (W : World) (a1 : Int) (h1 : ((a1.tmod (.ofNat 86)).natAbs : Int) = .ofNat 24) : tst W [.resl (.ofNat 250) (lanT 28 100), .res a1 (.ofNat 86) (.ofNat 24) h1] = true := by kernel_rfl
theorem s273 (W : World) (a1 : Int) (h1 : ((a1.tmod (.ofNat 86)).natAbs : Int) = .ofNat 25) : tst W [.resl (.ofNat 250) (lanT 28 100), .res a1 (.ofNat 86) (.ofNat 25) h1] = true := by kernel_rfl
theorem s274 (W : World) (a1 : Int) (h1 : ((a1.tmod (.ofNat 86)).natAbs : Int) = .ofNat 26) : tst W [.resl (.ofNat 250) (lanT 28 100), .res a1 (.ofNat 86) (.ofNat 26) h1] = true := by kernel_rfl
theorem s275 (W : World) (a1 : Int) (h1 : ((a1.tmod (.ofNat 86)).natAbs : Int) = .ofNat 27) : tst W [.resl (.ofNat 250) (lanT 28 100), .res a1 (.ofNat 86) (.ofNat 27) h1] = true := by kernel_rfl
theorem s276 (W : World) (a1 : Int) (h1 : ((a1.tmod (.ofNat 86)).natAbs : Int) = .ofNat 28) : tst W [.resl (.ofNat 250) (lanT 28 100), .res a1 (.ofNat 86) (.ofNat 28) h1] = true := by kernel_rfl
theorem s277 (W : World) (a1 : Int) (h1 : ((a1.tmod (.ofNat 86)).natAbs : Int) = .ofNat 29) : tst W [.resl (.ofNat 250) (lanT 28 100), .res a1 (.ofNat 86) (.ofNat 29) h1] = true := by kernel_rfl
theorem s278 (W : World) (a1 : Int) (h1 : ((a1.tmod (.ofNat 86)).natAbs : Int) = .ofNat 30) : tst W [.resl (.ofNat 250) (lanT 28 100), .res a1 (.ofNat 86) (.ofNat 30) h1] = true := by kernel_rfl
theorem s279 (W : World) (a1 : Int) (h1 : ((a1.tmod (.ofNat 86)).natAbs : Int) = .ofNat 31) : tst W [.resl (.ofNat 250) (lanT 28 100), .res a1 (.ofNat 86) (.ofNat 31) h1] = true := by kernel_rfl
end Go.Proofs.YtjkjkhfmalgenaaGreatDoor.topStream
