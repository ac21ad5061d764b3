/- TopReload: pieces of its runs, by the kernel. -/
import Derived.Test.YtgijbobfiocopaaGreatDoorEvTopReloadFr
import Derived.Test.YtgijbobfiocopaaGreatDoorEvTopReloadFrC0
import Derived.Test.YtgijbobfiocopaaGreatDoorEvTopReloadFrC1
import Derived.KernelRfl
namespace Go.Proofs.YtgijbobfiocopaaGreatDoor.topReload
open Go.YtgijbobfiocopaaGreatDoorEv
set_option linter.unusedSectionVars false
variable [Lane]
set_option maxRecDepth 100000
theorem okf53_ : OrcOk Tryz.prog f53_ := orcFr_ok (n := 1000000) (fr := ⟨.nil, []⟩) (orc := (f4_.or (f27_.or (f15_.or (f14_.or O_))))) hmo (OrcOk.or okf4_ (OrcOk.or okf27_ (OrcOk.or okf15_ (OrcOk.or okf14_ OO_)))) (by kernel_rfl) fun W => by kernel_rfl
theorem okf54_ : OrcOk Tryz.prog f54_ := orcFr_ok (n := 1000000) (fr := ⟨.nil, []⟩) (orc := (f4_.or (f27_.or (f18_.or (f17_.or O_))))) hmo (OrcOk.or okf4_ (OrcOk.or okf27_ (OrcOk.or okf18_ (OrcOk.or okf17_ OO_)))) (by kernel_rfl) fun W => by kernel_rfl
theorem okf55_ : OrcOk Tryz.prog f55_ := orcFr_ok (n := 1000000) (fr := ⟨.nil, []⟩) (orc := (f4_.or (f27_.or (f21_.or (f20_.or O_))))) hmo (OrcOk.or okf4_ (OrcOk.or okf27_ (OrcOk.or okf21_ (OrcOk.or okf20_ OO_)))) (by kernel_rfl) fun W => by kernel_rfl
end Go.Proofs.YtgijbobfiocopaaGreatDoor.topReload
