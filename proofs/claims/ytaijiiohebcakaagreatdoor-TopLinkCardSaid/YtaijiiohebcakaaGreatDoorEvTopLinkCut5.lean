/- TopLink: pieces of its runs, by the kernel. -/
import Derived.Test.YtaijiiohebcakaaGreatDoorEvTopLinkLit
import Derived.Test.YtaijiiohebcakaaGreatDoorRows
import Derived.KernelRfl
namespace Go.Proofs.YtaijiiohebcakaaGreatDoor.topLink
open Go.YtaijiiohebcakaaGreatDoorEv
set_option maxRecDepth 100000
theorem ok_c465 : OrcOk Tryz.prog c465 := okOf fun W => by kernel_rfl
theorem ok_c466 : OrcOk Tryz.prog c466 := okOf fun W => by kernel_rfl
theorem ok_c467 : OrcOk Tryz.prog c467 := okOf fun W => by kernel_rfl
theorem ok_c468 : OrcOk Tryz.prog c468 := okOf fun W => by kernel_rfl
theorem ok_c469 : OrcOk Tryz.prog c469 := okOf fun W => by kernel_rfl
theorem ok_c470 : OrcOk Tryz.prog c470 := okOf fun W => by kernel_rfl
theorem ok_c471 : OrcOk Tryz.prog c471 := okOf fun W => by kernel_rfl
theorem ok_c472 : OrcOk Tryz.prog c472 := okOf fun W => by kernel_rfl
theorem ok_c473 : OrcOk Tryz.prog c473 := okOf fun W => by kernel_rfl
theorem ok_c474 : OrcOk Tryz.prog c474 := okOf fun W => by kernel_rfl
theorem ok_c475 : OrcOk Tryz.prog c475 := okOf fun W => by kernel_rfl
theorem ok_c476 : OrcOk Tryz.prog c476 := okOf fun W => by kernel_rfl
theorem ok_c477 : OrcOk Tryz.prog c477 := okOf fun W => by kernel_rfl
theorem ok_c478 : OrcOk Tryz.prog c478 := okOf fun W => by kernel_rfl
theorem ok_c479 : OrcOk Tryz.prog c479 := okOf fun W => by kernel_rfl
theorem ok_c480 : OrcOk Tryz.prog c480 := okOf fun W => by kernel_rfl
theorem ok_c481 : OrcOk Tryz.prog c481 := okOf fun W => by kernel_rfl
theorem ok_c482 : OrcOk Tryz.prog c482 := okOf fun W => by kernel_rfl
theorem ok_c483 : OrcOk Tryz.prog c483 := okOf fun W => by kernel_rfl
theorem ok_c484 : OrcOk Tryz.prog c484 := okOf fun W => by kernel_rfl
theorem ok_c485 : OrcOk Tryz.prog c485 := okOf fun W => by kernel_rfl
theorem ok_c486 : OrcOk Tryz.prog c486 := okOf fun W => by kernel_rfl
theorem ok_c487 : OrcOk Tryz.prog c487 := okOf fun W => by kernel_rfl
theorem ok_c488 : OrcOk Tryz.prog c488 := okOf fun W => by kernel_rfl
theorem ok_c489 : OrcOk Tryz.prog c489 := okOf fun W => by kernel_rfl
theorem ok_c490 : OrcOk Tryz.prog c490 := okOf fun W => by kernel_rfl
theorem ok_c491 : OrcOk Tryz.prog c491 := okOf fun W => by kernel_rfl
theorem ok_c492 : OrcOk Tryz.prog c492 := okOf fun W => by kernel_rfl
theorem ok_c493 : OrcOk Tryz.prog c493 := okOf fun W => by kernel_rfl
theorem ok_c494 : OrcOk Tryz.prog c494 := okOf fun W => by kernel_rfl
theorem ok_c495 : OrcOk Tryz.prog c495 := okOf fun W => by kernel_rfl
theorem ok_c496 : OrcOk Tryz.prog c496 := okOf fun W => by kernel_rfl
theorem ok_c497 : OrcOk Tryz.prog c497 := okOf fun W => by kernel_rfl
theorem ok_c498 : OrcOk Tryz.prog c498 := okOf fun W => by kernel_rfl
theorem ok_c499 : OrcOk Tryz.prog c499 := okOf fun W => by kernel_rfl
theorem ok_c500 : OrcOk Tryz.prog c500 := okOf fun W => by kernel_rfl
theorem ok_c501 : OrcOk Tryz.prog c501 := okOf fun W => by kernel_rfl
theorem ok_c502 : OrcOk Tryz.prog c502 := okOf fun W => by kernel_rfl
theorem ok_c503 : OrcOk Tryz.prog c503 := okOf fun W => by kernel_rfl
theorem ok_c504 : OrcOk Tryz.prog c504 := okOf fun W => by kernel_rfl
theorem ok_c505 : OrcOk Tryz.prog c505 := okOf fun W => by kernel_rfl
theorem ok_c506 : OrcOk Tryz.prog c506 := okOf fun W => by kernel_rfl
theorem ok_c507 : OrcOk Tryz.prog c507 := okOf fun W => by kernel_rfl
theorem ok_c508 : OrcOk Tryz.prog c508 := okOf fun W => by kernel_rfl
theorem ok_c509 : OrcOk Tryz.prog c509 := okOf fun W => by kernel_rfl
theorem ok_c510 : OrcOk Tryz.prog c510 := okOf fun W => by kernel_rfl
theorem ok_c511 : OrcOk Tryz.prog c511 := okOf fun W => by kernel_rfl
theorem ok_c512 : OrcOk Tryz.prog c512 := okOf fun W => by kernel_rfl
theorem ok_c513 : OrcOk Tryz.prog c513 := okOf fun W => by kernel_rfl
theorem ok_c514 : OrcOk Tryz.prog c514 := okOf fun W => by kernel_rfl
theorem ok_c515 : OrcOk Tryz.prog c515 := okOf fun W => by kernel_rfl
theorem ok_c516 : OrcOk Tryz.prog c516 := okOf fun W => by kernel_rfl
theorem ok_c517 : OrcOk Tryz.prog c517 := okOf fun W => by kernel_rfl
theorem ok_c518 : OrcOk Tryz.prog c518 := okOf fun W => by kernel_rfl
theorem ok_c519 : OrcOk Tryz.prog c519 := okOf fun W => by kernel_rfl
theorem ok_c520 : OrcOk Tryz.prog c520 := okOf fun W => by kernel_rfl
theorem ok_c521 : OrcOk Tryz.prog c521 := okOf fun W => by kernel_rfl
theorem ok_c522 : OrcOk Tryz.prog c522 := okOf fun W => by kernel_rfl
theorem ok_c523 : OrcOk Tryz.prog c523 := okOf fun W => by kernel_rfl
theorem ok_c524 : OrcOk Tryz.prog c524 := okOf fun W => by kernel_rfl
theorem ok_c525 : OrcOk Tryz.prog c525 := okOf fun W => by kernel_rfl
theorem ok_c526 : OrcOk Tryz.prog c526 := okOf fun W => by kernel_rfl
theorem ok_c527 : OrcOk Tryz.prog c527 := okOf fun W => by kernel_rfl
theorem ok_c528 : OrcOk Tryz.prog c528 := okOf fun W => by kernel_rfl
theorem ok_c529 : OrcOk Tryz.prog c529 := okOf fun W => by kernel_rfl
theorem ok_c530 : OrcOk Tryz.prog c530 := okOf fun W => by kernel_rfl
theorem ok_c531 : OrcOk Tryz.prog c531 := okOf fun W => by kernel_rfl
theorem ok_c532 : OrcOk Tryz.prog c532 := okOf fun W => by kernel_rfl
theorem ok_c533 : OrcOk Tryz.prog c533 := okOf fun W => by kernel_rfl
theorem ok_c534 : OrcOk Tryz.prog c534 := okOf fun W => by kernel_rfl
theorem ok_c535 : OrcOk Tryz.prog c535 := okOf fun W => by kernel_rfl
end Go.Proofs.YtaijiiohebcakaaGreatDoor.topLink
