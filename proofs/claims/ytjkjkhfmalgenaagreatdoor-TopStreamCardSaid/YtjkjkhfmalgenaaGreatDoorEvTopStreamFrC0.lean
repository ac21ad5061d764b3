/- TopStream: pieces of its runs, by the kernel. -/
import Derived.Test.YtjkjkhfmalgenaaGreatDoorEvTopStreamFr
import Derived.KernelRfl
namespace Go.Proofs.YtjkjkhfmalgenaaGreatDoor.topStream
open Go.YtjkjkhfmalgenaaGreatDoorEv
set_option linter.unusedSectionVars false
variable [Lane]
set_option maxRecDepth 100000
theorem okf0_ : OrcOk Tryz.prog f0_ := okFr (by kernel_rfl) fun W => by kernel_rfl
theorem okf1_ : OrcOk Tryz.prog f1_ := okFr (by kernel_rfl) fun W => by kernel_rfl
theorem okf2_ : OrcOk Tryz.prog f2_ := okFr (by kernel_rfl) fun W => by kernel_rfl
theorem okf3_ : OrcOk Tryz.prog f3_ := okFr (by kernel_rfl) fun W => by kernel_rfl
theorem okf4_ : OrcOk Tryz.prog f4_ := okFr (by kernel_rfl) fun W => by kernel_rfl
theorem okf5_ : OrcOk Tryz.prog f5_ := okFr (by kernel_rfl) fun W => by kernel_rfl
theorem okf6_ : OrcOk Tryz.prog f6_ := okFr (by kernel_rfl) fun W => by kernel_rfl
theorem okf7_ : OrcOk Tryz.prog f7_ := okFr (by kernel_rfl) fun W => by kernel_rfl
theorem okf8_ : OrcOk Tryz.prog f8_ := okFr (by kernel_rfl) fun W => by kernel_rfl
theorem okf9_ : OrcOk Tryz.prog f9_ := okFr (by kernel_rfl) fun W => by kernel_rfl
theorem okf10_ : OrcOk Tryz.prog f10_ := okFr (by kernel_rfl) fun W => by kernel_rfl
theorem okf11_ : OrcOk Tryz.prog f11_ := okFr (by kernel_rfl) fun W => by kernel_rfl
theorem okf12_ : OrcOk Tryz.prog f12_ := okFr (by kernel_rfl) fun W => by kernel_rfl
theorem okf13_ : OrcOk Tryz.prog f13_ := okFr (by kernel_rfl) fun W => by kernel_rfl
theorem okf14_ : OrcOk Tryz.prog f14_ := okFr (by kernel_rfl) fun W => by kernel_rfl
theorem okf15_ : OrcOk Tryz.prog f15_ := okFr (by kernel_rfl) fun W => by kernel_rfl
theorem okf16_ : OrcOk Tryz.prog f16_ := okFr (by kernel_rfl) fun W => by kernel_rfl
theorem okf17_ : OrcOk Tryz.prog f17_ := okFr (by kernel_rfl) fun W => by kernel_rfl
theorem okf18_ : OrcOk Tryz.prog f18_ := okFr (by kernel_rfl) fun W => by kernel_rfl
theorem okf19_ : OrcOk Tryz.prog f19_ := okFr (by kernel_rfl) fun W => by kernel_rfl
theorem okf20_ : OrcOk Tryz.prog f20_ := okFr (by kernel_rfl) fun W => by kernel_rfl
theorem okf21_ : OrcOk Tryz.prog f21_ := okFr (by kernel_rfl) fun W => by kernel_rfl
theorem okf22_ : OrcOk Tryz.prog f22_ := okFr (by kernel_rfl) fun W => by kernel_rfl
theorem okf23_ : OrcOk Tryz.prog f23_ := okFr (by kernel_rfl) fun W => by kernel_rfl
theorem okf24_ : OrcOk Tryz.prog f24_ := okFr (by kernel_rfl) fun W => by kernel_rfl
theorem okf25_ : OrcOk Tryz.prog f25_ := okFr (by kernel_rfl) fun W => by kernel_rfl
theorem okf26_ : OrcOk Tryz.prog f26_ := okFr (by kernel_rfl) fun W => by kernel_rfl
theorem okf27_ : OrcOk Tryz.prog f27_ := okFr (by kernel_rfl) fun W => by kernel_rfl
theorem okf28_ : OrcOk Tryz.prog f28_ := okFr (by kernel_rfl) fun W => by kernel_rfl
theorem okf29_ : OrcOk Tryz.prog f29_ := okFr (by kernel_rfl) fun W => by kernel_rfl
theorem okf30_ : OrcOk Tryz.prog f30_ := okFr (by kernel_rfl) fun W => by kernel_rfl
theorem okf31_ : OrcOk Tryz.prog f31_ := okFr (by kernel_rfl) fun W => by kernel_rfl
theorem okf32_ : OrcOk Tryz.prog f32_ := okFr (by kernel_rfl) fun W => by kernel_rfl
theorem okf33_ : OrcOk Tryz.prog f33_ := okFr (by kernel_rfl) fun W => by kernel_rfl
theorem okf34_ : OrcOk Tryz.prog f34_ := okFr (by kernel_rfl) fun W => by kernel_rfl
theorem okf35_ : OrcOk Tryz.prog f35_ := okFr (by kernel_rfl) fun W => by kernel_rfl
theorem okf36_ : OrcOk Tryz.prog f36_ := okFr (by kernel_rfl) fun W => by kernel_rfl
theorem okf37_ : OrcOk Tryz.prog f37_ := okFr (by kernel_rfl) fun W => by kernel_rfl
theorem okf38_ : OrcOk Tryz.prog f38_ := okFr (by kernel_rfl) fun W => by kernel_rfl
theorem okf39_ : OrcOk Tryz.prog f39_ := okFr (by kernel_rfl) fun W => by kernel_rfl
theorem okf40_ : OrcOk Tryz.prog f40_ := okFr (by kernel_rfl) fun W => by kernel_rfl
theorem okf41_ : OrcOk Tryz.prog f41_ := okFr (by kernel_rfl) fun W => by kernel_rfl
theorem okf42_ : OrcOk Tryz.prog f42_ := okFr (by kernel_rfl) fun W => by kernel_rfl
theorem okf43_ : OrcOk Tryz.prog f43_ := okFr (by kernel_rfl) fun W => by kernel_rfl
theorem okf44_ : OrcOk Tryz.prog f44_ := okFr (by kernel_rfl) fun W => by kernel_rfl
theorem okf45_ : OrcOk Tryz.prog f45_ := okFr (by kernel_rfl) fun W => by kernel_rfl
theorem okf46_ : OrcOk Tryz.prog f46_ := okFr (by kernel_rfl) fun W => by kernel_rfl
theorem okf47_ : OrcOk Tryz.prog f47_ := okFr (by kernel_rfl) fun W => by kernel_rfl
theorem okf48_ : OrcOk Tryz.prog f48_ := okFr (by kernel_rfl) fun W => by kernel_rfl
end Go.Proofs.YtjkjkhfmalgenaaGreatDoor.topStream
