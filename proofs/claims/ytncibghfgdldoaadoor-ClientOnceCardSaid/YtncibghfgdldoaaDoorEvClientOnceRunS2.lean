/- ClientOnce: the evaluator's answers, by the kernel. -/
import Derived.Test.YtncibghfgdldoaaDoorEvClientOnceRun
import Derived.KernelRfl
namespace Go.Proofs.YtncibghfgdldoaaDoor.clientOnce
open Go.YtncibghfgdldoaaDoorEv
set_option maxRecDepth 100000
theorem s360 (m2 : Nat) : tst [.int .i64 (.ofNat 8), .int .i64 (.ofNat 3), .int .i64 (.negSucc m2)] = true := by kernel_rfl
theorem s361 (m2 : Nat) : tst [.int .i64 (.ofNat 8), .int .i64 (.ofNat 3), .int .i64 (.ofNat (m2 + 6))] = true := by kernel_rfl
theorem s362 (m2 : Nat) : tst [.int .i64 (.ofNat 8), .int .i64 (.ofNat 4), .int .i64 (.negSucc m2)] = true := by kernel_rfl
theorem s363 (m2 : Nat) : tst [.int .i64 (.ofNat 8), .int .i64 (.ofNat 4), .int .i64 (.ofNat (m2 + 6))] = true := by kernel_rfl
theorem s364 (m2 : Nat) : tst [.int .i64 (.ofNat 8), .int .i64 (.ofNat 5), .int .i64 (.negSucc m2)] = true := by kernel_rfl
theorem s365 (m2 : Nat) : tst [.int .i64 (.ofNat 8), .int .i64 (.ofNat 5), .int .i64 (.ofNat (m2 + 6))] = true := by kernel_rfl
theorem s366 (m2 : Nat) : tst [.int .i64 (.ofNat 8), .int .i64 (.ofNat 6), .int .i64 (.negSucc m2)] = true := by kernel_rfl
theorem s367 (m2 : Nat) : tst [.int .i64 (.ofNat 8), .int .i64 (.ofNat 6), .int .i64 (.ofNat (m2 + 6))] = true := by kernel_rfl
theorem s368 (m2 : Nat) : tst [.int .i64 (.ofNat 8), .int .i64 (.ofNat 7), .int .i64 (.negSucc m2)] = true := by kernel_rfl
theorem s369 (m2 : Nat) : tst [.int .i64 (.ofNat 8), .int .i64 (.ofNat 7), .int .i64 (.ofNat (m2 + 6))] = true := by kernel_rfl
theorem s370 (m2 : Nat) : tst [.int .i64 (.ofNat 8), .int .i64 (.ofNat 8), .int .i64 (.negSucc m2)] = true := by kernel_rfl
theorem s371 (m2 : Nat) : tst [.int .i64 (.ofNat 8), .int .i64 (.ofNat 8), .int .i64 (.ofNat (m2 + 6))] = true := by kernel_rfl
theorem s372 (m2 : Nat) : tst [.int .i64 (.ofNat 8), .int .i64 (.ofNat 9), .int .i64 (.negSucc m2)] = true := by kernel_rfl
theorem s373 (m2 : Nat) : tst [.int .i64 (.ofNat 8), .int .i64 (.ofNat 9), .int .i64 (.ofNat (m2 + 6))] = true := by kernel_rfl
theorem s374 (m2 : Nat) : tst [.int .i64 (.ofNat 8), .int .i64 (.ofNat 10), .int .i64 (.negSucc m2)] = true := by kernel_rfl
theorem s375 (m2 : Nat) : tst [.int .i64 (.ofNat 8), .int .i64 (.ofNat 10), .int .i64 (.ofNat (m2 + 6))] = true := by kernel_rfl
theorem s376 (m2 : Nat) : tst [.int .i64 (.ofNat 8), .int .i64 (.ofNat 11), .int .i64 (.negSucc m2)] = true := by kernel_rfl
theorem s377 (m2 : Nat) : tst [.int .i64 (.ofNat 8), .int .i64 (.ofNat 11), .int .i64 (.ofNat (m2 + 6))] = true := by kernel_rfl
theorem s378 (m2 : Nat) : tst [.int .i64 (.ofNat 8), .int .i64 (.ofNat 12), .int .i64 (.negSucc m2)] = true := by kernel_rfl
theorem s379 (m2 : Nat) : tst [.int .i64 (.ofNat 8), .int .i64 (.ofNat 12), .int .i64 (.ofNat (m2 + 6))] = true := by kernel_rfl
theorem s380 (m2 : Nat) : tst [.int .i64 (.ofNat 8), .int .i64 (.ofNat 13), .int .i64 (.negSucc m2)] = true := by kernel_rfl
theorem s381 (m2 : Nat) : tst [.int .i64 (.ofNat 8), .int .i64 (.ofNat 13), .int .i64 (.ofNat (m2 + 6))] = true := by kernel_rfl
theorem s382 (m2 : Nat) : tst [.int .i64 (.ofNat 8), .int .i64 (.ofNat 14), .int .i64 (.negSucc m2)] = true := by kernel_rfl
theorem s383 (m2 : Nat) : tst [.int .i64 (.ofNat 8), .int .i64 (.ofNat 14), .int .i64 (.ofNat (m2 + 6))] = true := by kernel_rfl
theorem s384 (m2 : Nat) : tst [.int .i64 (.ofNat 8), .int .i64 (.ofNat 15), .int .i64 (.negSucc m2)] = true := by kernel_rfl
theorem s385 (m2 : Nat) : tst [.int .i64 (.ofNat 8), .int .i64 (.ofNat 15), .int .i64 (.ofNat (m2 + 6))] = true := by kernel_rfl
theorem s386 (m2 : Nat) : tst [.int .i64 (.ofNat 8), .int .i64 (.ofNat 16), .int .i64 (.negSucc m2)] = true := by kernel_rfl
theorem s387 (m2 : Nat) : tst [.int .i64 (.ofNat 8), .int .i64 (.ofNat 16), .int .i64 (.ofNat (m2 + 6))] = true := by kernel_rfl
theorem s388 (m2 : Nat) : tst [.int .i64 (.ofNat 8), .int .i64 (.ofNat 17), .int .i64 (.negSucc m2)] = true := by kernel_rfl
theorem s389 (m2 : Nat) : tst [.int .i64 (.ofNat 8), .int .i64 (.ofNat 17), .int .i64 (.ofNat (m2 + 6))] = true := by kernel_rfl
theorem s390 (m2 : Nat) : tst [.int .i64 (.ofNat 8), .int .i64 (.ofNat 18), .int .i64 (.negSucc m2)] = true := by kernel_rfl
theorem s391 (m2 : Nat) : tst [.int .i64 (.ofNat 8), .int .i64 (.ofNat 18), .int .i64 (.ofNat (m2 + 6))] = true := by kernel_rfl
theorem s392 (m2 : Nat) : tst [.int .i64 (.ofNat 8), .int .i64 (.ofNat 19), .int .i64 (.negSucc m2)] = true := by kernel_rfl
theorem s393 (m2 : Nat) : tst [.int .i64 (.ofNat 8), .int .i64 (.ofNat 19), .int .i64 (.ofNat (m2 + 6))] = true := by kernel_rfl
theorem s394 (m2 : Nat) : tst [.int .i64 (.ofNat 8), .int .i64 (.ofNat 20), .int .i64 (.negSucc m2)] = true := by kernel_rfl
theorem s395 (m2 : Nat) : tst [.int .i64 (.ofNat 8), .int .i64 (.ofNat 20), .int .i64 (.ofNat (m2 + 6))] = true := by kernel_rfl
theorem s396 (m1 : Nat) (a2 : Int) : tst [.int .i64 (.ofNat 8), .int .i64 (.ofNat (m1 + 21)), .int .i64 a2] = true := by kernel_rfl
theorem s397 (m1 : Nat) (a2 : Int) : tst [.int .i64 (.ofNat 9), .int .i64 (.negSucc m1), .int .i64 a2] = true := by kernel_rfl
theorem s398 (m2 : Nat) : tst [.int .i64 (.ofNat 9), .int .i64 (.ofNat 0), .int .i64 (.negSucc m2)] = true := by kernel_rfl
theorem s399 (m2 : Nat) : tst [.int .i64 (.ofNat 9), .int .i64 (.ofNat 0), .int .i64 (.ofNat (m2 + 6))] = true := by kernel_rfl
theorem s400 (m2 : Nat) : tst [.int .i64 (.ofNat 9), .int .i64 (.ofNat 1), .int .i64 (.negSucc m2)] = true := by kernel_rfl
theorem s401 (m2 : Nat) : tst [.int .i64 (.ofNat 9), .int .i64 (.ofNat 1), .int .i64 (.ofNat (m2 + 6))] = true := by kernel_rfl
theorem s402 (m2 : Nat) : tst [.int .i64 (.ofNat 9), .int .i64 (.ofNat 2), .int .i64 (.negSucc m2)] = true := by kernel_rfl
theorem s403 (m2 : Nat) : tst [.int .i64 (.ofNat 9), .int .i64 (.ofNat 2), .int .i64 (.ofNat (m2 + 6))] = true := by kernel_rfl
theorem s404 (m2 : Nat) : tst [.int .i64 (.ofNat 9), .int .i64 (.ofNat 3), .int .i64 (.negSucc m2)] = true := by kernel_rfl
theorem s405 (m2 : Nat) : tst [.int .i64 (.ofNat 9), .int .i64 (.ofNat 3), .int .i64 (.ofNat (m2 + 6))] = true := by kernel_rfl
theorem s406 (m2 : Nat) : tst [.int .i64 (.ofNat 9), .int .i64 (.ofNat 4), .int .i64 (.negSucc m2)] = true := by kernel_rfl
theorem s407 (m2 : Nat) : tst [.int .i64 (.ofNat 9), .int .i64 (.ofNat 4), .int .i64 (.ofNat (m2 + 6))] = true := by kernel_rfl
theorem s408 (m2 : Nat) : tst [.int .i64 (.ofNat 9), .int .i64 (.ofNat 5), .int .i64 (.negSucc m2)] = true := by kernel_rfl
theorem s409 (m2 : Nat) : tst [.int .i64 (.ofNat 9), .int .i64 (.ofNat 5), .int .i64 (.ofNat (m2 + 6))] = true := by kernel_rfl
theorem s410 (m2 : Nat) : tst [.int .i64 (.ofNat 9), .int .i64 (.ofNat 6), .int .i64 (.negSucc m2)] = true := by kernel_rfl
theorem s411 (m2 : Nat) : tst [.int .i64 (.ofNat 9), .int .i64 (.ofNat 6), .int .i64 (.ofNat (m2 + 6))] = true := by kernel_rfl
theorem s412 (m2 : Nat) : tst [.int .i64 (.ofNat 9), .int .i64 (.ofNat 7), .int .i64 (.negSucc m2)] = true := by kernel_rfl
theorem s413 (m2 : Nat) : tst [.int .i64 (.ofNat 9), .int .i64 (.ofNat 7), .int .i64 (.ofNat (m2 + 6))] = true := by kernel_rfl
theorem s414 (m2 : Nat) : tst [.int .i64 (.ofNat 9), .int .i64 (.ofNat 8), .int .i64 (.negSucc m2)] = true := by kernel_rfl
theorem s415 (m2 : Nat) : tst [.int .i64 (.ofNat 9), .int .i64 (.ofNat 8), .int .i64 (.ofNat (m2 + 6))] = true := by kernel_rfl
theorem s416 (m2 : Nat) : tst [.int .i64 (.ofNat 9), .int .i64 (.ofNat 9), .int .i64 (.negSucc m2)] = true := by kernel_rfl
theorem s417 (m2 : Nat) : tst [.int .i64 (.ofNat 9), .int .i64 (.ofNat 9), .int .i64 (.ofNat (m2 + 6))] = true := by kernel_rfl
theorem s418 (m2 : Nat) : tst [.int .i64 (.ofNat 9), .int .i64 (.ofNat 10), .int .i64 (.negSucc m2)] = true := by kernel_rfl
theorem s419 (m2 : Nat) : tst [.int .i64 (.ofNat 9), .int .i64 (.ofNat 10), .int .i64 (.ofNat (m2 + 6))] = true := by kernel_rfl
theorem s420 (m2 : Nat) : tst [.int .i64 (.ofNat 9), .int .i64 (.ofNat 11), .int .i64 (.negSucc m2)] = true := by kernel_rfl
theorem s421 (m2 : Nat) : tst [.int .i64 (.ofNat 9), .int .i64 (.ofNat 11), .int .i64 (.ofNat (m2 + 6))] = true := by kernel_rfl
theorem s422 (m2 : Nat) : tst [.int .i64 (.ofNat 9), .int .i64 (.ofNat 12), .int .i64 (.negSucc m2)] = true := by kernel_rfl
theorem s423 (m2 : Nat) : tst [.int .i64 (.ofNat 9), .int .i64 (.ofNat 12), .int .i64 (.ofNat (m2 + 6))] = true := by kernel_rfl
theorem s424 (m2 : Nat) : tst [.int .i64 (.ofNat 9), .int .i64 (.ofNat 13), .int .i64 (.negSucc m2)] = true := by kernel_rfl
theorem s425 (m2 : Nat) : tst [.int .i64 (.ofNat 9), .int .i64 (.ofNat 13), .int .i64 (.ofNat (m2 + 6))] = true := by kernel_rfl
theorem s426 (m2 : Nat) : tst [.int .i64 (.ofNat 9), .int .i64 (.ofNat 14), .int .i64 (.negSucc m2)] = true := by kernel_rfl
theorem s427 (m2 : Nat) : tst [.int .i64 (.ofNat 9), .int .i64 (.ofNat 14), .int .i64 (.ofNat (m2 + 6))] = true := by kernel_rfl
theorem s428 (m2 : Nat) : tst [.int .i64 (.ofNat 9), .int .i64 (.ofNat 15), .int .i64 (.negSucc m2)] = true := by kernel_rfl
theorem s429 (m2 : Nat) : tst [.int .i64 (.ofNat 9), .int .i64 (.ofNat 15), .int .i64 (.ofNat (m2 + 6))] = true := by kernel_rfl
theorem s430 (m2 : Nat) : tst [.int .i64 (.ofNat 9), .int .i64 (.ofNat 16), .int .i64 (.negSucc m2)] = true := by kernel_rfl
theorem s431 (m2 : Nat) : tst [.int .i64 (.ofNat 9), .int .i64 (.ofNat 16), .int .i64 (.ofNat (m2 + 6))] = true := by kernel_rfl
theorem s432 (m2 : Nat) : tst [.int .i64 (.ofNat 9), .int .i64 (.ofNat 17), .int .i64 (.negSucc m2)] = true := by kernel_rfl
theorem s433 (m2 : Nat) : tst [.int .i64 (.ofNat 9), .int .i64 (.ofNat 17), .int .i64 (.ofNat (m2 + 6))] = true := by kernel_rfl
theorem s434 (m2 : Nat) : tst [.int .i64 (.ofNat 9), .int .i64 (.ofNat 18), .int .i64 (.negSucc m2)] = true := by kernel_rfl
theorem s435 (m2 : Nat) : tst [.int .i64 (.ofNat 9), .int .i64 (.ofNat 18), .int .i64 (.ofNat (m2 + 6))] = true := by kernel_rfl
theorem s436 (m2 : Nat) : tst [.int .i64 (.ofNat 9), .int .i64 (.ofNat 19), .int .i64 (.negSucc m2)] = true := by kernel_rfl
theorem s437 (m2 : Nat) : tst [.int .i64 (.ofNat 9), .int .i64 (.ofNat 19), .int .i64 (.ofNat (m2 + 6))] = true := by kernel_rfl
theorem s438 (m2 : Nat) : tst [.int .i64 (.ofNat 9), .int .i64 (.ofNat 20), .int .i64 (.negSucc m2)] = true := by kernel_rfl
theorem s439 (m2 : Nat) : tst [.int .i64 (.ofNat 9), .int .i64 (.ofNat 20), .int .i64 (.ofNat (m2 + 6))] = true := by kernel_rfl
theorem s440 (m1 : Nat) (a2 : Int) : tst [.int .i64 (.ofNat 9), .int .i64 (.ofNat (m1 + 21)), .int .i64 a2] = true := by kernel_rfl
theorem s441 (m1 : Nat) (a2 : Int) : tst [.int .i64 (.ofNat 10), .int .i64 (.negSucc m1), .int .i64 a2] = true := by kernel_rfl
theorem s442 (m2 : Nat) : tst [.int .i64 (.ofNat 10), .int .i64 (.ofNat 0), .int .i64 (.negSucc m2)] = true := by kernel_rfl
theorem s443 (m2 : Nat) : tst [.int .i64 (.ofNat 10), .int .i64 (.ofNat 0), .int .i64 (.ofNat (m2 + 6))] = true := by kernel_rfl
theorem s444 (m2 : Nat) : tst [.int .i64 (.ofNat 10), .int .i64 (.ofNat 1), .int .i64 (.negSucc m2)] = true := by kernel_rfl
theorem s445 (m2 : Nat) : tst [.int .i64 (.ofNat 10), .int .i64 (.ofNat 1), .int .i64 (.ofNat (m2 + 6))] = true := by kernel_rfl
theorem s446 (m2 : Nat) : tst [.int .i64 (.ofNat 10), .int .i64 (.ofNat 2), .int .i64 (.negSucc m2)] = true := by kernel_rfl
theorem s447 (m2 : Nat) : tst [.int .i64 (.ofNat 10), .int .i64 (.ofNat 2), .int .i64 (.ofNat (m2 + 6))] = true := by kernel_rfl
theorem s448 (m2 : Nat) : tst [.int .i64 (.ofNat 10), .int .i64 (.ofNat 3), .int .i64 (.negSucc m2)] = true := by kernel_rfl
theorem s449 (m2 : Nat) : tst [.int .i64 (.ofNat 10), .int .i64 (.ofNat 3), .int .i64 (.ofNat (m2 + 6))] = true := by kernel_rfl
theorem s450 (m2 : Nat) : tst [.int .i64 (.ofNat 10), .int .i64 (.ofNat 4), .int .i64 (.negSucc m2)] = true := by kernel_rfl
theorem s451 (m2 : Nat) : tst [.int .i64 (.ofNat 10), .int .i64 (.ofNat 4), .int .i64 (.ofNat (m2 + 6))] = true := by kernel_rfl
theorem s452 (m2 : Nat) : tst [.int .i64 (.ofNat 10), .int .i64 (.ofNat 5), .int .i64 (.negSucc m2)] = true := by kernel_rfl
theorem s453 (m2 : Nat) : tst [.int .i64 (.ofNat 10), .int .i64 (.ofNat 5), .int .i64 (.ofNat (m2 + 6))] = true := by kernel_rfl
theorem s454 (m2 : Nat) : tst [.int .i64 (.ofNat 10), .int .i64 (.ofNat 6), .int .i64 (.negSucc m2)] = true := by kernel_rfl
theorem s455 (m2 : Nat) : tst [.int .i64 (.ofNat 10), .int .i64 (.ofNat 6), .int .i64 (.ofNat (m2 + 6))] = true := by kernel_rfl
theorem s456 (m2 : Nat) : tst [.int .i64 (.ofNat 10), .int .i64 (.ofNat 7), .int .i64 (.negSucc m2)] = true := by kernel_rfl
theorem s457 (m2 : Nat) : tst [.int .i64 (.ofNat 10), .int .i64 (.ofNat 7), .int .i64 (.ofNat (m2 + 6))] = true := by kernel_rfl
theorem s458 (m2 : Nat) : tst [.int .i64 (.ofNat 10), .int .i64 (.ofNat 8), .int .i64 (.negSucc m2)] = true := by kernel_rfl
theorem s459 (m2 : Nat) : tst [.int .i64 (.ofNat 10), .int .i64 (.ofNat 8), .int .i64 (.ofNat (m2 + 6))] = true := by kernel_rfl
theorem s460 (m2 : Nat) : tst [.int .i64 (.ofNat 10), .int .i64 (.ofNat 9), .int .i64 (.negSucc m2)] = true := by kernel_rfl
theorem s461 (m2 : Nat) : tst [.int .i64 (.ofNat 10), .int .i64 (.ofNat 9), .int .i64 (.ofNat (m2 + 6))] = true := by kernel_rfl
theorem s462 (m2 : Nat) : tst [.int .i64 (.ofNat 10), .int .i64 (.ofNat 10), .int .i64 (.negSucc m2)] = true := by kernel_rfl
theorem s463 (m2 : Nat) : tst [.int .i64 (.ofNat 10), .int .i64 (.ofNat 10), .int .i64 (.ofNat (m2 + 6))] = true := by kernel_rfl
theorem s464 (m2 : Nat) : tst [.int .i64 (.ofNat 10), .int .i64 (.ofNat 11), .int .i64 (.negSucc m2)] = true := by kernel_rfl
theorem s465 (m2 : Nat) : tst [.int .i64 (.ofNat 10), .int .i64 (.ofNat 11), .int .i64 (.ofNat (m2 + 6))] = true := by kernel_rfl
theorem s466 (m2 : Nat) : tst [.int .i64 (.ofNat 10), .int .i64 (.ofNat 12), .int .i64 (.negSucc m2)] = true := by kernel_rfl
theorem s467 (m2 : Nat) : tst [.int .i64 (.ofNat 10), .int .i64 (.ofNat 12), .int .i64 (.ofNat (m2 + 6))] = true := by kernel_rfl
theorem s468 (m2 : Nat) : tst [.int .i64 (.ofNat 10), .int .i64 (.ofNat 13), .int .i64 (.negSucc m2)] = true := by kernel_rfl
theorem s469 (m2 : Nat) : tst [.int .i64 (.ofNat 10), .int .i64 (.ofNat 13), .int .i64 (.ofNat (m2 + 6))] = true := by kernel_rfl
theorem s470 (m2 : Nat) : tst [.int .i64 (.ofNat 10), .int .i64 (.ofNat 14), .int .i64 (.negSucc m2)] = true := by kernel_rfl
theorem s471 (m2 : Nat) : tst [.int .i64 (.ofNat 10), .int .i64 (.ofNat 14), .int .i64 (.ofNat (m2 + 6))] = true := by kernel_rfl
theorem s472 (m2 : Nat) : tst [.int .i64 (.ofNat 10), .int .i64 (.ofNat 15), .int .i64 (.negSucc m2)] = true := by kernel_rfl
theorem s473 (m2 : Nat) : tst [.int .i64 (.ofNat 10), .int .i64 (.ofNat 15), .int .i64 (.ofNat (m2 + 6))] = true := by kernel_rfl
theorem s474 (m2 : Nat) : tst [.int .i64 (.ofNat 10), .int .i64 (.ofNat 16), .int .i64 (.negSucc m2)] = true := by kernel_rfl
theorem s475 (m2 : Nat) : tst [.int .i64 (.ofNat 10), .int .i64 (.ofNat 16), .int .i64 (.ofNat (m2 + 6))] = true := by kernel_rfl
theorem s476 (m2 : Nat) : tst [.int .i64 (.ofNat 10), .int .i64 (.ofNat 17), .int .i64 (.negSucc m2)] = true := by kernel_rfl
theorem s477 (m2 : Nat) : tst [.int .i64 (.ofNat 10), .int .i64 (.ofNat 17), .int .i64 (.ofNat (m2 + 6))] = true := by kernel_rfl
theorem s478 (m2 : Nat) : tst [.int .i64 (.ofNat 10), .int .i64 (.ofNat 18), .int .i64 (.negSucc m2)] = true := by kernel_rfl
theorem s479 (m2 : Nat) : tst [.int .i64 (.ofNat 10), .int .i64 (.ofNat 18), .int .i64 (.ofNat (m2 + 6))] = true := by kernel_rfl
theorem s480 (m2 : Nat) : tst [.int .i64 (.ofNat 10), .int .i64 (.ofNat 19), .int .i64 (.negSucc m2)] = true := by kernel_rfl
theorem s481 (m2 : Nat) : tst [.int .i64 (.ofNat 10), .int .i64 (.ofNat 19), .int .i64 (.ofNat (m2 + 6))] = true := by kernel_rfl
theorem s482 (m2 : Nat) : tst [.int .i64 (.ofNat 10), .int .i64 (.ofNat 20), .int .i64 (.negSucc m2)] = true := by kernel_rfl
theorem s483 (m2 : Nat) : tst [.int .i64 (.ofNat 10), .int .i64 (.ofNat 20), .int .i64 (.ofNat (m2 + 6))] = true := by kernel_rfl
theorem s484 (m1 : Nat) (a2 : Int) : tst [.int .i64 (.ofNat 10), .int .i64 (.ofNat (m1 + 21)), .int .i64 a2] = true := by kernel_rfl
theorem s485 (m0 : Nat) (a1 : Int) (a2 : Int) : tst [.int .i64 (.ofNat (m0 + 11)), .int .i64 a1, .int .i64 a2] = true := by kernel_rfl
end Go.Proofs.YtncibghfgdldoaaDoor.clientOnce
