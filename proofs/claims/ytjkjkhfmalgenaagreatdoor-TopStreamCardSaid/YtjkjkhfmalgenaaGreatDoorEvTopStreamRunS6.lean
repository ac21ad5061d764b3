/- TopStream: the evaluator's answers, by the kernel. -/
import Derived.Test.YtjkjkhfmalgenaaGreatDoorEvTopStreamRun
import Derived.KernelRfl
namespace Go.Proofs.YtjkjkhfmalgenaaGreatDoor.topStream
open Go.YtjkjkhfmalgenaaGreatDoorEv
set_option maxRecDepth 100000
theorem s336 (W : World) (a1 : Int) (h1 : ((a1.tmod (.ofNat 86)).natAbs : Int) = .ofNat 2) : tst W [.resl (.ofNat 250) (lanT 122 128), .res a1 (.ofNat 86) (.ofNat 2) h1] = true := by kernel_rfl
theorem s337 (W : World) (a1 : Int) (h1 : ((a1.tmod (.ofNat 86)).natAbs : Int) = .ofNat 3) : tst W [.resl (.ofNat 250) (lanT 122 128), .res a1 (.ofNat 86) (.ofNat 3) h1] = true := by kernel_rfl
theorem s338 (W : World) (a1 : Int) (h1 : ((a1.tmod (.ofNat 86)).natAbs : Int) = .ofNat 4) : tst W [.resl (.ofNat 250) (lanT 122 128), .res a1 (.ofNat 86) (.ofNat 4) h1] = true := by kernel_rfl
theorem s339 (W : World) (a1 : Int) (h1 : ((a1.tmod (.ofNat 86)).natAbs : Int) = .ofNat 5) : tst W [.resl (.ofNat 250) (lanT 122 128), .res a1 (.ofNat 86) (.ofNat 5) h1] = true := by kernel_rfl
theorem s340 (W : World) (a1 : Int) (h1 : ((a1.tmod (.ofNat 86)).natAbs : Int) = .ofNat 6) : tst W [.resl (.ofNat 250) (lanT 122 128), .res a1 (.ofNat 86) (.ofNat 6) h1] = true := by kernel_rfl
theorem s341 (W : World) (a1 : Int) (h1 : ((a1.tmod (.ofNat 86)).natAbs : Int) = .ofNat 7) : tst W [.resl (.ofNat 250) (lanT 122 128), .res a1 (.ofNat 86) (.ofNat 7) h1] = true := by kernel_rfl
theorem s342 (W : World) (a1 : Int) (h1 : ((a1.tmod (.ofNat 86)).natAbs : Int) = .ofNat 8) : tst W [.resl (.ofNat 250) (lanT 122 128), .res a1 (.ofNat 86) (.ofNat 8) h1] = true := by kernel_rfl
theorem s343 (W : World) (a1 : Int) (h1 : ((a1.tmod (.ofNat 86)).natAbs : Int) = .ofNat 9) : tst W [.resl (.ofNat 250) (lanT 122 128), .res a1 (.ofNat 86) (.ofNat 9) h1] = true := by kernel_rfl
theorem s344 (W : World) (a1 : Int) (h1 : ((a1.tmod (.ofNat 86)).natAbs : Int) = .ofNat 10) : tst W [.resl (.ofNat 250) (lanT 122 128), .res a1 (.ofNat 86) (.ofNat 10) h1] = true := by kernel_rfl
theorem s345 (W : World) (a1 : Int) (h1 : ((a1.tmod (.ofNat 86)).natAbs : Int) = .ofNat 11) : tst W [.resl (.ofNat 250) (lanT 122 128), .res a1 (.ofNat 86) (.ofNat 11) h1] = true := by kernel_rfl
theorem s346 (W : World) (a1 : Int) (h1 : ((a1.tmod (.ofNat 86)).natAbs : Int) = .ofNat 12) : tst W [.resl (.ofNat 250) (lanT 122 128), .res a1 (.ofNat 86) (.ofNat 12) h1] = true := by kernel_rfl
theorem s347 (W : World) (a1 : Int) (h1 : ((a1.tmod (.ofNat 86)).natAbs : Int) = .ofNat 13) : tst W [.resl (.ofNat 250) (lanT 122 128), .res a1 (.ofNat 86) (.ofNat 13) h1] = true := by kernel_rfl
theorem s348 (W : World) (a1 : Int) (h1 : ((a1.tmod (.ofNat 86)).natAbs : Int) = .ofNat 14) : tst W [.resl (.ofNat 250) (lanT 122 128), .res a1 (.ofNat 86) (.ofNat 14) h1] = true := by kernel_rfl
theorem s349 (W : World) (a1 : Int) (h1 : ((a1.tmod (.ofNat 86)).natAbs : Int) = .ofNat 15) : tst W [.resl (.ofNat 250) (lanT 122 128), .res a1 (.ofNat 86) (.ofNat 15) h1] = true := by kernel_rfl
theorem s350 (W : World) (a1 : Int) (h1 : ((a1.tmod (.ofNat 86)).natAbs : Int) = .ofNat 16) : tst W [.resl (.ofNat 250) (lanT 122 128), .res a1 (.ofNat 86) (.ofNat 16) h1] = true := by kernel_rfl
theorem s351 (W : World) (a1 : Int) (h1 : ((a1.tmod (.ofNat 86)).natAbs : Int) = .ofNat 17) : tst W [.resl (.ofNat 250) (lanT 122 128), .res a1 (.ofNat 86) (.ofNat 17) h1] = true := by kernel_rfl
theorem s352 (W : World) (a1 : Int) (h1 : ((a1.tmod (.ofNat 86)).natAbs : Int) = .ofNat 18) : tst W [.resl (.ofNat 250) (lanT 122 128), .res a1 (.ofNat 86) (.ofNat 18) h1] = true := by kernel_rfl
theorem s353 (W : World) (a1 : Int) (h1 : ((a1.tmod (.ofNat 86)).natAbs : Int) = .ofNat 19) : tst W [.resl (.ofNat 250) (lanT 122 128), .res a1 (.ofNat 86) (.ofNat 19) h1] = true := by kernel_rfl
theorem s354 (W : World) (a1 : Int) (h1 : ((a1.tmod (.ofNat 86)).natAbs : Int) = .ofNat 20) : tst W [.resl (.ofNat 250) (lanT 122 128), .res a1 (.ofNat 86) (.ofNat 20) h1] = true := by kernel_rfl
theorem s355 (W : World) (a1 : Int) (h1 : ((a1.tmod (.ofNat 86)).natAbs : Int) = .ofNat 21) : tst W [.resl (.ofNat 250) (lanT 122 128), .res a1 (.ofNat 86) (.ofNat 21) h1] = true := by kernel_rfl
theorem s356 (W : World) (a1 : Int) (h1 : ((a1.tmod (.ofNat 86)).natAbs : Int) = .ofNat 22) : tst W [.resl (.ofNat 250) (lanT 122 128), .res a1 (.ofNat 86) (.ofNat 22) h1] = true := by kernel_rfl
theorem s357 (W : World) (a1 : Int) (h1 : ((a1.tmod (.ofNat 86)).natAbs : Int) = .ofNat 23) : tst W [.resl (.ofNat 250) (lanT 122 128), .res a1 (.ofNat 86) (.ofNat 23) h1] = true := by kernel_rfl
theorem s358 (W : World) (a1 : Int) (h1 : ((a1.tmod (.ofNat 86)).natAbs : Int) = .ofNat 24) : tst W [.resl (.ofNat 250) (lanT 122 128), .res a1 (.ofNat 86) (.ofNat 24) h1] = true := by kernel_rfl
theorem s359 (W : World) (a1 : Int) (h1 : ((a1.tmod (.ofNat 86)).natAbs : Int) = .ofNat 25) : tst W [.resl (.ofNat 250) (lanT 122 128), .res a1 (.ofNat 86) (.ofNat 25) h1] = true := by kernel_rfl
theorem s360 (W : World) (a1 : Int) (h1 : ((a1.tmod (.ofNat 86)).natAbs : Int) = .ofNat 26) : tst W [.resl (.ofNat 250) (lanT 122 128), .res a1 (.ofNat 86) (.ofNat 26) h1] = true := by kernel_rfl
theorem s361 (W : World) (a1 : Int) (h1 : ((a1.tmod (.ofNat 86)).natAbs : Int) = .ofNat 27) : tst W [.resl (.ofNat 250) (lanT 122 128), .res a1 (.ofNat 86) (.ofNat 27) h1] = true := by kernel_rfl
theorem s362 (W : World) (a1 : Int) (h1 : ((a1.tmod (.ofNat 86)).natAbs : Int) = .ofNat 28) : tst W [.resl (.ofNat 250) (lanT 122 128), .res a1 (.ofNat 86) (.ofNat 28) h1] = true := by kernel_rfl
theorem s363 (W : World) (a1 : Int) (h1 : ((a1.tmod (.ofNat 86)).natAbs : Int) = .ofNat 29) : tst W [.resl (.ofNat 250) (lanT 122 128), .res a1 (.ofNat 86) (.ofNat 29) h1] = true := by kernel_rfl
theorem s364 (W : World) (a1 : Int) (h1 : ((a1.tmod (.ofNat 86)).natAbs : Int) = .ofNat 30) : tst W [.resl (.ofNat 250) (lanT 122 128), .res a1 (.ofNat 86) (.ofNat 30) h1] = true := by kernel_rfl
theorem s365 (W : World) (a1 : Int) (h1 : ((a1.tmod (.ofNat 86)).natAbs : Int) = .ofNat 31) : tst W [.resl (.ofNat 250) (lanT 122 128), .res a1 (.ofNat 86) (.ofNat 31) h1] = true := by kernel_rfl
theorem s366 (W : World) (a1 : Int) (h1 : ((a1.tmod (.ofNat 86)).natAbs : Int) = .ofNat 32) : tst W [.resl (.ofNat 250) (lanT 122 128), .res a1 (.ofNat 86) (.ofNat 32) h1] = true := by kernel_rfl
theorem s367 (W : World) (a1 : Int) (h1 : ((a1.tmod (.ofNat 86)).natAbs : Int) = .ofNat 33) : tst W [.resl (.ofNat 250) (lanT 122 128), .res a1 (.ofNat 86) (.ofNat 33) h1] = true := by kernel_rfl
theorem s368 (W : World) (a1 : Int) (h1 : ((a1.tmod (.ofNat 86)).natAbs : Int) = .ofNat 34) : tst W [.resl (.ofNat 250) (lanT 122 128), .res a1 (.ofNat 86) (.ofNat 34) h1] = true := by kernel_rfl
theorem s369 (W : World) (a1 : Int) (h1 : ((a1.tmod (.ofNat 86)).natAbs : Int) = .ofNat 35) : tst W [.resl (.ofNat 250) (lanT 122 128), .res a1 (.ofNat 86) (.ofNat 35) h1] = true := by kernel_rfl
theorem s370 (W : World) (a1 : Int) (h1 : ((a1.tmod (.ofNat 86)).natAbs : Int) = .ofNat 36) : tst W [.resl (.ofNat 250) (lanT 122 128), .res a1 (.ofNat 86) (.ofNat 36) h1] = true := by kernel_rfl
theorem s371 (W : World) (a1 : Int) (h1 : ((a1.tmod (.ofNat 86)).natAbs : Int) = .ofNat 37) : tst W [.resl (.ofNat 250) (lanT 122 128), .res a1 (.ofNat 86) (.ofNat 37) h1] = true := by kernel_rfl
theorem s372 (W : World) (a1 : Int) (h1 : ((a1.tmod (.ofNat 86)).natAbs : Int) = .ofNat 38) : tst W [.resl (.ofNat 250) (lanT 122 128), .res a1 (.ofNat 86) (.ofNat 38) h1] = true := by kernel_rfl
theorem s373 (W : World) (a1 : Int) (h1 : ((a1.tmod (.ofNat 86)).natAbs : Int) = .ofNat 39) : tst W [.resl (.ofNat 250) (lanT 122 128), .res a1 (.ofNat 86) (.ofNat 39) h1] = true := by kernel_rfl
theorem s374 (W : World) (a1 : Int) (h1 : ((a1.tmod (.ofNat 86)).natAbs : Int) = .ofNat 40) : tst W [.resl (.ofNat 250) (lanT 122 128), .res a1 (.ofNat 86) (.ofNat 40) h1] = true := by kernel_rfl
theorem s375 (W : World) (a1 : Int) (h1 : ((a1.tmod (.ofNat 86)).natAbs : Int) = .ofNat 41) : tst W [.resl (.ofNat 250) (lanT 122 128), .res a1 (.ofNat 86) (.ofNat 41) h1] = true := by kernel_rfl
theorem s376 (W : World) (a1 : Int) (h1 : ((a1.tmod (.ofNat 86)).natAbs : Int) = .ofNat 42) : tst W [.resl (.ofNat 250) (lanT 122 128), .res a1 (.ofNat 86) (.ofNat 42) h1] = true := by kernel_rfl
theorem s377 (W : World) (a1 : Int) (h1 : ((a1.tmod (.ofNat 86)).natAbs : Int) = .ofNat 43) : tst W [.resl (.ofNat 250) (lanT 122 128), .res a1 (.ofNat 86) (.ofNat 43) h1] = true := by kernel_rfl
theorem s378 (W : World) (a1 : Int) (h1 : ((a1.tmod (.ofNat 86)).natAbs : Int) = .ofNat 44) : tst W [.resl (.ofNat 250) (lanT 122 128), .res a1 (.ofNat 86) (.ofNat 44) h1] = true := by kernel_rfl
theorem s379 (W : World) (a1 : Int) (h1 : ((a1.tmod (.ofNat 86)).natAbs : Int) = .ofNat 45) : tst W [.resl (.ofNat 250) (lanT 122 128), .res a1 (.ofNat 86) (.ofNat 45) h1] = true := by kernel_rfl
theorem s380 (W : World) (a1 : Int) (h1 : ((a1.tmod (.ofNat 86)).natAbs : Int) = .ofNat 46) : tst W [.resl (.ofNat 250) (lanT 122 128), .res a1 (.ofNat 86) (.ofNat 46) h1] = true := by kernel_rfl
theorem s381 (W : World) (a1 : Int) (h1 : ((a1.tmod (.ofNat 86)).natAbs : Int) = .ofNat 47) : tst W [.resl (.ofNat 250) (lanT 122 128), .res a1 (.ofNat 86) (.ofNat 47) h1] = true := by kernel_rfl
theorem s382 (W : World) (a1 : Int) (h1 : ((a1.tmod (.ofNat 86)).natAbs : Int) = .ofNat 48) : tst W [.resl (.ofNat 250) (lanT 122 128), .res a1 (.ofNat 86) (.ofNat 48) h1] = true := by kernel_rfl
theorem s383 (W : World) (a1 : Int) (h1 : ((a1.tmod (.ofNat 86)).natAbs : Int) = .ofNat 49) : tst W [.resl (.ofNat 250) (lanT 122 128), .res a1 (.ofNat 86) (.ofNat 49) h1] = true := by kernel_rfl
theorem s384 (W : World) (a1 : Int) (h1 : ((a1.tmod (.ofNat 86)).natAbs : Int) = .ofNat 50) : tst W [.resl (.ofNat 250) (lanT 122 128), .res a1 (.ofNat 86) (.ofNat 50) h1] = true := by kernel_rfl
theorem s385 (W : World) (a1 : Int) (h1 : ((a1.tmod (.ofNat 86)).natAbs : Int) = .ofNat 51) : tst W [.resl (.ofNat 250) (lanT 122 128), .res a1 (.ofNat 86) (.ofNat 51) h1] = true := by kernel_rfl
theorem s386 (W : World) (a1 : Int) (h1 : ((a1.tmod (.ofNat 86)).natAbs : Int) = .ofNat 52) : tst W [.resl (.ofNat 250) (lanT 122 128), .res a1 (.ofNat 86) (.ofNat 52) h1] = true := by kernel_rfl
theorem s387 (W : World) (a1 : Int) (h1 : ((a1.tmod (.ofNat 86)).natAbs : Int) = .ofNat 53) : tst W [.resl (.ofNat 250) (lanT 122 128), .res a1 (.ofNat 86) (.ofNat 53) h1] = true := by kernel_rfl
theorem s388 (W : World) (a1 : Int) (h1 : ((a1.tmod (.ofNat 86)).natAbs : Int) = .ofNat 54) : tst W [.resl (.ofNat 250) (lanT 122 128), .res a1 (.ofNat 86) (.ofNat 54) h1] = true := by kernel_rfl
theorem s389 (W : World) (a1 : Int) (h1 : ((a1.tmod (.ofNat 86)).natAbs : Int) = .ofNat 55) : tst W [.resl (.ofNat 250) (lanT 122 128), .res a1 (.ofNat 86) (.ofNat 55) h1] = true := by kernel_rfl
theorem s390 (W : World) (a1 : Int) (h1 : ((a1.tmod (.ofNat 86)).natAbs : Int) = .ofNat 56) : tst W [.resl (.ofNat 250) (lanT 122 128), .res a1 (.ofNat 86) (.ofNat 56) h1] = true := by kernel_rfl
theorem s391 (W : World) (a1 : Int) (h1 : ((a1.tmod (.ofNat 86)).natAbs : Int) = .ofNat 57) : tst W [.resl (.ofNat 250) (lanT 122 128), .res a1 (.ofNat 86) (.ofNat 57) h1] = true := by kernel_rfl
end Go.Proofs.YtjkjkhfmalgenaaGreatDoor.topStream
