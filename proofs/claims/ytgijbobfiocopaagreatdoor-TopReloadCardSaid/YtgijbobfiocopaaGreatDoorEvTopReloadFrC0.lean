/- TopReload: pieces of its runs, by the kernel. -/
import Derived.Test.YtgijbobfiocopaaGreatDoorEvTopReloadFr
import Derived.KernelRfl
namespace Go.Proofs.YtgijbobfiocopaaGreatDoor.topReload
open Go.YtgijbobfiocopaaGreatDoorEv
set_option linter.unusedSectionVars false
variable [Lane]
set_option maxRecDepth 100000
theorem okf0_ : OrcOk Tryz.prog f0_ := okFr (by kernel_rfl) fun W => by kernel_rfl
theorem okf1_ : OrcOk Tryz.prog f1_ := okFr (by kernel_rfl) fun W => by kernel_rfl
theorem okf2_ : OrcOk Tryz.prog f2_ := okFr (by kernel_rfl) fun W => by kernel_rfl
theorem okf3_ : OrcOk Tryz.prog f3_ := okFr (by kernel_rfl) fun W => by kernel_rfl
theorem okf4_ : OrcOk Tryz.prog f4_ := okFr (by kernel_rfl) fun W => by kernel_rfl
theorem okf5_ : OrcOk Tryz.prog f5_ := okFr (by kernel_rfl) fun W => by kernel_rfl
theorem okf6_ : OrcOk Tryz.prog f6_ := okFr (by kernel_rfl) fun W => by kernel_rfl
theorem okf7_ : OrcOk Tryz.prog f7_ := okFr (by kernel_rfl) fun W => by kernel_rfl
theorem okf8_ : OrcOk Tryz.prog f8_ := okFr (by kernel_rfl) fun W => by kernel_rfl
theorem okf9_ : OrcOk Tryz.prog f9_ := okFr (by kernel_rfl) fun W => by kernel_rfl
theorem okf10_ : OrcOk Tryz.prog f10_ := okFr (by kernel_rfl) fun W => by kernel_rfl
theorem okf11_ : OrcOk Tryz.prog f11_ := okFr (by kernel_rfl) fun W => by kernel_rfl
theorem okf12_ : OrcOk Tryz.prog f12_ := okFr (by kernel_rfl) fun W => by kernel_rfl
theorem okf13_ : OrcOk Tryz.prog f13_ := okFr (by kernel_rfl) fun W => by kernel_rfl
theorem okf14_ : OrcOk Tryz.prog f14_ := okFr (by kernel_rfl) fun W => by kernel_rfl
theorem okf15_ : OrcOk Tryz.prog f15_ := okFr (by kernel_rfl) fun W => by kernel_rfl
theorem okf16_ : OrcOk Tryz.prog f16_ := okFr (by kernel_rfl) fun W => by kernel_rfl
theorem okf17_ : OrcOk Tryz.prog f17_ := okFr (by kernel_rfl) fun W => by kernel_rfl
theorem okf18_ : OrcOk Tryz.prog f18_ := okFr (by kernel_rfl) fun W => by kernel_rfl
theorem okf19_ : OrcOk Tryz.prog f19_ := okFr (by kernel_rfl) fun W => by kernel_rfl
theorem okf20_ : OrcOk Tryz.prog f20_ := okFr (by kernel_rfl) fun W => by kernel_rfl
theorem okf21_ : OrcOk Tryz.prog f21_ := okFr (by kernel_rfl) fun W => by kernel_rfl
theorem okf22_ : OrcOk Tryz.prog f22_ := okFr (by kernel_rfl) fun W => by kernel_rfl
theorem okf23_ : OrcOk Tryz.prog f23_ := okFr (by kernel_rfl) fun W => by kernel_rfl
theorem okf24_ : OrcOk Tryz.prog f24_ := okFr (by kernel_rfl) fun W => by kernel_rfl
end Go.Proofs.YtgijbobfiocopaaGreatDoor.topReload
