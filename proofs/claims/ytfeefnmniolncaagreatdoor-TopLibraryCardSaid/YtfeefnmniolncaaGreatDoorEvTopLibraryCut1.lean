/- TopLibrary: pieces of its runs, by the kernel. -/
import Derived.Test.YtfeefnmniolncaaGreatDoorEvTopLibraryLit
import Derived.Test.YtfeefnmniolncaaGreatDoorRows
import Derived.KernelRfl
namespace Go.Proofs.YtfeefnmniolncaaGreatDoor.topLibrary
open Go.YtfeefnmniolncaaGreatDoorEv
set_option linter.unusedSectionVars false
variable [Lane]
set_option maxRecDepth 100000
theorem ok_c6 : OrcOk Tryz.prog c6 := okOf fun W => by kernel_rfl
theorem ok_c7 : OrcOk Tryz.prog c7 := okOf fun W => by kernel_rfl
theorem ok_c8 : OrcOk Tryz.prog c8 := okOf fun W => by kernel_rfl
theorem ok_c9 : OrcOk Tryz.prog c9 := okOf fun W => by kernel_rfl
end Go.Proofs.YtfeefnmniolncaaGreatDoor.topLibrary
