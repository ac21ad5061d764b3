/- TopLink: pieces of its runs, by the kernel. -/
import Derived.Test.YtaijiiohebcakaaGreatDoorEvTopLinkLit
import Derived.Test.YtaijiiohebcakaaGreatDoorRows
import Derived.KernelRfl
namespace Go.Proofs.YtaijiiohebcakaaGreatDoor.topLink
open Go.YtaijiiohebcakaaGreatDoorEv
set_option maxRecDepth 100000
theorem ok_c536 : OrcOk Tryz.prog c536 := okOf fun W => by kernel_rfl
theorem ok_c537 : OrcOk Tryz.prog c537 := okOf fun W => by kernel_rfl
theorem ok_c538 : OrcOk Tryz.prog c538 := okOf fun W => by kernel_rfl
theorem ok_c539 : OrcOk Tryz.prog c539 := okOf fun W => by kernel_rfl
theorem ok_c540 : OrcOk Tryz.prog c540 := okOf fun W => by kernel_rfl
theorem ok_c541 : OrcOk Tryz.prog c541 := okOf fun W => by kernel_rfl
theorem ok_c542 : OrcOk Tryz.prog c542 := okOf fun W => by kernel_rfl
theorem ok_c543 : OrcOk Tryz.prog c543 := okOf fun W => by kernel_rfl
theorem ok_c544 : OrcOk Tryz.prog c544 := okOf fun W => by kernel_rfl
theorem ok_c545 : OrcOk Tryz.prog c545 := okOf fun W => by kernel_rfl
theorem ok_c546 : OrcOk Tryz.prog c546 := okOf fun W => by kernel_rfl
theorem ok_c547 : OrcOk Tryz.prog c547 := okOf fun W => by kernel_rfl
theorem ok_c548 : OrcOk Tryz.prog c548 := okOf fun W => by kernel_rfl
theorem ok_c549 : OrcOk Tryz.prog c549 := okOf fun W => by kernel_rfl
theorem ok_c550 : OrcOk Tryz.prog c550 := okOf fun W => by kernel_rfl
theorem ok_c551 : OrcOk Tryz.prog c551 := okOf fun W => by kernel_rfl
theorem ok_c552 : OrcOk Tryz.prog c552 := okOf fun W => by kernel_rfl
theorem ok_c553 : OrcOk Tryz.prog c553 := okOf fun W => by kernel_rfl
theorem ok_c554 : OrcOk Tryz.prog c554 := okOf fun W => by kernel_rfl
theorem ok_c555 : OrcOk Tryz.prog c555 := okOf fun W => by kernel_rfl
theorem ok_c556 : OrcOk Tryz.prog c556 := okOf fun W => by kernel_rfl
theorem ok_c557 : OrcOk Tryz.prog c557 := okOf fun W => by kernel_rfl
theorem ok_c558 : OrcOk Tryz.prog c558 := okOf fun W => by kernel_rfl
theorem ok_c559 : OrcOk Tryz.prog c559 := okOf fun W => by kernel_rfl
theorem ok_c560 : OrcOk Tryz.prog c560 := okOf fun W => by kernel_rfl
theorem ok_c561 : OrcOk Tryz.prog c561 := okOf fun W => by kernel_rfl
theorem ok_c562 : OrcOk Tryz.prog c562 := okOf fun W => by kernel_rfl
theorem ok_c563 : OrcOk Tryz.prog c563 := okOf fun W => by kernel_rfl
theorem ok_c564 : OrcOk Tryz.prog c564 := okOf fun W => by kernel_rfl
theorem ok_c565 : OrcOk Tryz.prog c565 := okOf fun W => by kernel_rfl
theorem ok_c566 : OrcOk Tryz.prog c566 := okOf fun W => by kernel_rfl
theorem ok_c567 : OrcOk Tryz.prog c567 := okOf fun W => by kernel_rfl
theorem ok_c568 : OrcOk Tryz.prog c568 := okOf fun W => by kernel_rfl
theorem ok_c569 : OrcOk Tryz.prog c569 := okOf fun W => by kernel_rfl
theorem ok_c570 : OrcOk Tryz.prog c570 := okOf fun W => by kernel_rfl
theorem ok_c571 : OrcOk Tryz.prog c571 := okOf fun W => by kernel_rfl
theorem ok_c572 : OrcOk Tryz.prog c572 := okOf fun W => by kernel_rfl
theorem ok_c573 : OrcOk Tryz.prog c573 := okOf fun W => by kernel_rfl
theorem ok_c574 : OrcOk Tryz.prog c574 := okOf fun W => by kernel_rfl
theorem ok_c575 : OrcOk Tryz.prog c575 := okOf fun W => by kernel_rfl
theorem ok_c576 : OrcOk Tryz.prog c576 := okOf fun W => by kernel_rfl
theorem ok_c577 : OrcOk Tryz.prog c577 := okOf fun W => by kernel_rfl
theorem ok_c578 : OrcOk Tryz.prog c578 := okOf fun W => by kernel_rfl
theorem ok_c579 : OrcOk Tryz.prog c579 := okOf fun W => by kernel_rfl
theorem ok_c580 : OrcOk Tryz.prog c580 := okOf fun W => by kernel_rfl
theorem ok_c581 : OrcOk Tryz.prog c581 := okOf fun W => by kernel_rfl
theorem ok_c582 : OrcOk Tryz.prog c582 := okOf fun W => by kernel_rfl
theorem ok_c583 : OrcOk Tryz.prog c583 := okOf fun W => by kernel_rfl
theorem ok_c584 : OrcOk Tryz.prog c584 := okOf fun W => by kernel_rfl
theorem ok_c585 : OrcOk Tryz.prog c585 := okOf fun W => by kernel_rfl
theorem ok_c586 : OrcOk Tryz.prog c586 := okOf fun W => by kernel_rfl
theorem ok_c587 : OrcOk Tryz.prog c587 := okOf fun W => by kernel_rfl
theorem ok_c588 : OrcOk Tryz.prog c588 := okOf fun W => by kernel_rfl
theorem ok_c589 : OrcOk Tryz.prog c589 := okOf fun W => by kernel_rfl
theorem ok_c590 : OrcOk Tryz.prog c590 := okOf fun W => by kernel_rfl
theorem ok_c591 : OrcOk Tryz.prog c591 := okOf fun W => by kernel_rfl
theorem ok_c592 : OrcOk Tryz.prog c592 := okOf fun W => by kernel_rfl
theorem ok_c593 : OrcOk Tryz.prog c593 := okOf fun W => by kernel_rfl
theorem ok_c594 : OrcOk Tryz.prog c594 := okOf fun W => by kernel_rfl
theorem ok_c595 : OrcOk Tryz.prog c595 := okOf fun W => by kernel_rfl
theorem ok_c596 : OrcOk Tryz.prog c596 := okOf fun W => by kernel_rfl
theorem ok_c597 : OrcOk Tryz.prog c597 := okOf fun W => by kernel_rfl
theorem ok_c598 : OrcOk Tryz.prog c598 := okOf fun W => by kernel_rfl
theorem ok_c599 : OrcOk Tryz.prog c599 := okOf fun W => by kernel_rfl
theorem ok_c600 : OrcOk Tryz.prog c600 := okOf fun W => by kernel_rfl
theorem ok_c601 : OrcOk Tryz.prog c601 := okOf fun W => by kernel_rfl
theorem ok_c602 : OrcOk Tryz.prog c602 := okOf fun W => by kernel_rfl
end Go.Proofs.YtaijiiohebcakaaGreatDoor.topLink
