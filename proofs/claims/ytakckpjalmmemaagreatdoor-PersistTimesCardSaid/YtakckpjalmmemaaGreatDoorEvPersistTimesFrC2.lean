/- PersistTimes: pieces of its runs, by the kernel. -/
import Derived.Test.YtakckpjalmmemaaGreatDoorEvPersistTimesFr
import Derived.Test.YtakckpjalmmemaaGreatDoorEvPersistTimesFrC0
import Derived.KernelRfl
namespace Go.Proofs.YtakckpjalmmemaaGreatDoor.persistTimes
open Go.YtakckpjalmmemaaGreatDoorEv
set_option linter.unusedSectionVars false
variable [Lane]
set_option maxRecDepth 100000
theorem okf103_ : OrcOk Tryz.prog f103_ := orcFr_ok (n := 1000000) (fr := ⟨.nil, []⟩) (orc := (f1_.or O_)) hmo (OrcOk.or okf1_ OO_) (by kernel_rfl) fun W => by kernel_rfl
theorem okf104_ : OrcOk Tryz.prog f104_ := orcFr_ok (n := 1000000) (fr := ⟨.nil, []⟩) (orc := (f2_.or O_)) hmo (OrcOk.or okf2_ OO_) (by kernel_rfl) fun W => by kernel_rfl
end Go.Proofs.YtakckpjalmmemaaGreatDoor.persistTimes
