/- TopLink: pieces of its runs, by the kernel. -/
import Derived.Test.YtaijiiohebcakaaGreatDoorEvTopLinkLit
import Derived.Test.YtaijiiohebcakaaGreatDoorRows
import Derived.KernelRfl
namespace Go.Proofs.YtaijiiohebcakaaGreatDoor.topLink
open Go.YtaijiiohebcakaaGreatDoorEv
set_option maxRecDepth 100000
theorem ok_c389 : OrcOk Tryz.prog c389 := okOf fun W => by kernel_rfl
theorem ok_c390 : OrcOk Tryz.prog c390 := okOf fun W => by kernel_rfl
theorem ok_c391 : OrcOk Tryz.prog c391 := okOf fun W => by kernel_rfl
theorem ok_c392 : OrcOk Tryz.prog c392 := okOf fun W => by kernel_rfl
theorem ok_c393 : OrcOk Tryz.prog c393 := okOf fun W => by kernel_rfl
theorem ok_c394 : OrcOk Tryz.prog c394 := okOf fun W => by kernel_rfl
theorem ok_c395 : OrcOk Tryz.prog c395 := okOf fun W => by kernel_rfl
theorem ok_c396 : OrcOk Tryz.prog c396 := okOf fun W => by kernel_rfl
theorem ok_c397 : OrcOk Tryz.prog c397 := okOf fun W => by kernel_rfl
theorem ok_c398 : OrcOk Tryz.prog c398 := okOf fun W => by kernel_rfl
theorem ok_c399 : OrcOk Tryz.prog c399 := okOf fun W => by kernel_rfl
theorem ok_c400 : OrcOk Tryz.prog c400 := okOf fun W => by kernel_rfl
theorem ok_c401 : OrcOk Tryz.prog c401 := okOf fun W => by kernel_rfl
theorem ok_c402 : OrcOk Tryz.prog c402 := okOf fun W => by kernel_rfl
theorem ok_c403 : OrcOk Tryz.prog c403 := okOf fun W => by kernel_rfl
theorem ok_c404 : OrcOk Tryz.prog c404 := okOf fun W => by kernel_rfl
theorem ok_c405 : OrcOk Tryz.prog c405 := okOf fun W => by kernel_rfl
theorem ok_c406 : OrcOk Tryz.prog c406 := okOf fun W => by kernel_rfl
theorem ok_c407 : OrcOk Tryz.prog c407 := okOf fun W => by kernel_rfl
theorem ok_c408 : OrcOk Tryz.prog c408 := okOf fun W => by kernel_rfl
theorem ok_c409 : OrcOk Tryz.prog c409 := okOf fun W => by kernel_rfl
theorem ok_c410 : OrcOk Tryz.prog c410 := okOf fun W => by kernel_rfl
theorem ok_c411 : OrcOk Tryz.prog c411 := okOf fun W => by kernel_rfl
theorem ok_c412 : OrcOk Tryz.prog c412 := okOf fun W => by kernel_rfl
theorem ok_c413 : OrcOk Tryz.prog c413 := okOf fun W => by kernel_rfl
theorem ok_c414 : OrcOk Tryz.prog c414 := okOf fun W => by kernel_rfl
theorem ok_c415 : OrcOk Tryz.prog c415 := okOf fun W => by kernel_rfl
theorem ok_c416 : OrcOk Tryz.prog c416 := okOf fun W => by kernel_rfl
theorem ok_c417 : OrcOk Tryz.prog c417 := okOf fun W => by kernel_rfl
theorem ok_c418 : OrcOk Tryz.prog c418 := okOf fun W => by kernel_rfl
theorem ok_c419 : OrcOk Tryz.prog c419 := okOf fun W => by kernel_rfl
theorem ok_c420 : OrcOk Tryz.prog c420 := okOf fun W => by kernel_rfl
theorem ok_c421 : OrcOk Tryz.prog c421 := okOf fun W => by kernel_rfl
theorem ok_c422 : OrcOk Tryz.prog c422 := okOf fun W => by kernel_rfl
theorem ok_c423 : OrcOk Tryz.prog c423 := okOf fun W => by kernel_rfl
theorem ok_c424 : OrcOk Tryz.prog c424 := okOf fun W => by kernel_rfl
theorem ok_c425 : OrcOk Tryz.prog c425 := okOf fun W => by kernel_rfl
theorem ok_c426 : OrcOk Tryz.prog c426 := okOf fun W => by kernel_rfl
theorem ok_c427 : OrcOk Tryz.prog c427 := okOf fun W => by kernel_rfl
theorem ok_c428 : OrcOk Tryz.prog c428 := okOf fun W => by kernel_rfl
theorem ok_c429 : OrcOk Tryz.prog c429 := okOf fun W => by kernel_rfl
theorem ok_c430 : OrcOk Tryz.prog c430 := okOf fun W => by kernel_rfl
theorem ok_c431 : OrcOk Tryz.prog c431 := okOf fun W => by kernel_rfl
theorem ok_c432 : OrcOk Tryz.prog c432 := okOf fun W => by kernel_rfl
theorem ok_c433 : OrcOk Tryz.prog c433 := okOf fun W => by kernel_rfl
theorem ok_c434 : OrcOk Tryz.prog c434 := okOf fun W => by kernel_rfl
theorem ok_c435 : OrcOk Tryz.prog c435 := okOf fun W => by kernel_rfl
theorem ok_c436 : OrcOk Tryz.prog c436 := okOf fun W => by kernel_rfl
theorem ok_c437 : OrcOk Tryz.prog c437 := okOf fun W => by kernel_rfl
theorem ok_c438 : OrcOk Tryz.prog c438 := okOf fun W => by kernel_rfl
theorem ok_c439 : OrcOk Tryz.prog c439 := okOf fun W => by kernel_rfl
theorem ok_c440 : OrcOk Tryz.prog c440 := okOf fun W => by kernel_rfl
theorem ok_c441 : OrcOk Tryz.prog c441 := okOf fun W => by kernel_rfl
theorem ok_c442 : OrcOk Tryz.prog c442 := okOf fun W => by kernel_rfl
theorem ok_c443 : OrcOk Tryz.prog c443 := okOf fun W => by kernel_rfl
theorem ok_c444 : OrcOk Tryz.prog c444 := okOf fun W => by kernel_rfl
theorem ok_c445 : OrcOk Tryz.prog c445 := okOf fun W => by kernel_rfl
theorem ok_c446 : OrcOk Tryz.prog c446 := okOf fun W => by kernel_rfl
theorem ok_c447 : OrcOk Tryz.prog c447 := okOf fun W => by kernel_rfl
theorem ok_c448 : OrcOk Tryz.prog c448 := okOf fun W => by kernel_rfl
theorem ok_c449 : OrcOk Tryz.prog c449 := okOf fun W => by kernel_rfl
theorem ok_c450 : OrcOk Tryz.prog c450 := okOf fun W => by kernel_rfl
theorem ok_c451 : OrcOk Tryz.prog c451 := okOf fun W => by kernel_rfl
theorem ok_c452 : OrcOk Tryz.prog c452 := okOf fun W => by kernel_rfl
theorem ok_c453 : OrcOk Tryz.prog c453 := okOf fun W => by kernel_rfl
theorem ok_c454 : OrcOk Tryz.prog c454 := okOf fun W => by kernel_rfl
theorem ok_c455 : OrcOk Tryz.prog c455 := okOf fun W => by kernel_rfl
theorem ok_c456 : OrcOk Tryz.prog c456 := okOf fun W => by kernel_rfl
theorem ok_c457 : OrcOk Tryz.prog c457 := okOf fun W => by kernel_rfl
theorem ok_c458 : OrcOk Tryz.prog c458 := okOf fun W => by kernel_rfl
theorem ok_c459 : OrcOk Tryz.prog c459 := okOf fun W => by kernel_rfl
theorem ok_c460 : OrcOk Tryz.prog c460 := okOf fun W => by kernel_rfl
theorem ok_c461 : OrcOk Tryz.prog c461 := okOf fun W => by kernel_rfl
theorem ok_c462 : OrcOk Tryz.prog c462 := okOf fun W => by kernel_rfl
theorem ok_c463 : OrcOk Tryz.prog c463 := okOf fun W => by kernel_rfl
theorem ok_c464 : OrcOk Tryz.prog c464 := okOf fun W => by kernel_rfl
end Go.Proofs.YtaijiiohebcakaaGreatDoor.topLink
