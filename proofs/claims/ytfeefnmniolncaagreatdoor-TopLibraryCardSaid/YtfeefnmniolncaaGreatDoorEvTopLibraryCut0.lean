/- TopLibrary: pieces of its runs, by the kernel. -/
import Derived.Test.YtfeefnmniolncaaGreatDoorEvTopLibraryLit
import Derived.Test.YtfeefnmniolncaaGreatDoorRows
import Derived.KernelRfl
namespace Go.Proofs.YtfeefnmniolncaaGreatDoor.topLibrary
open Go.YtfeefnmniolncaaGreatDoorEv
set_option linter.unusedSectionVars false
variable [Lane]
set_option maxRecDepth 100000
theorem ok_c0 : OrcOk Tryz.prog c0 := okOf fun W => by kernel_rfl
theorem ok_c1 : OrcOk Tryz.prog c1 := okOf fun W => by kernel_rfl
theorem ok_c2 : OrcOk Tryz.prog c2 := okOf fun W => by kernel_rfl
theorem ok_c3 : OrcOk Tryz.prog c3 := okOf fun W => by kernel_rfl
theorem ok_c4 : OrcOk Tryz.prog c4 := okOf fun W => by kernel_rfl
theorem ok_c5 : OrcOk Tryz.prog c5 := okOf fun W => by kernel_rfl
end Go.Proofs.YtfeefnmniolncaaGreatDoor.topLibrary
