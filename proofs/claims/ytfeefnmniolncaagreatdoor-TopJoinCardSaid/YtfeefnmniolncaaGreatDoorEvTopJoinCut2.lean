/- TopJoin: pieces of its runs, by the kernel. -/
import Derived.Test.YtfeefnmniolncaaGreatDoorEvTopJoinLit
import Derived.Test.YtfeefnmniolncaaGreatDoorRows
import Derived.KernelRfl
namespace Go.Proofs.YtfeefnmniolncaaGreatDoor.topJoin
open Go.YtfeefnmniolncaaGreatDoorEv
set_option linter.unusedSectionVars false
variable [Lane]
set_option maxRecDepth 100000
theorem ok_c67 : OrcOk Tryz.prog c67 := okOf fun W => by kernel_rfl
theorem ok_c68 : OrcOk Tryz.prog c68 := okOf fun W => by kernel_rfl
theorem ok_c69 : OrcOk Tryz.prog c69 := okOf fun W => by kernel_rfl
theorem ok_c70 : OrcOk Tryz.prog c70 := okOf fun W => by kernel_rfl
theorem ok_c71 : OrcOk Tryz.prog c71 := okOf fun W => by kernel_rfl
theorem ok_c72 : OrcOk Tryz.prog c72 := okOf fun W => by kernel_rfl
theorem ok_c73 : OrcOk Tryz.prog c73 := okOf fun W => by kernel_rfl
theorem ok_c74 : OrcOk Tryz.prog c74 := okOf fun W => by kernel_rfl
theorem ok_c75 : OrcOk Tryz.prog c75 := okOf fun W => by kernel_rfl
theorem ok_c76 : OrcOk Tryz.prog c76 := okOf fun W => by kernel_rfl
theorem ok_c77 : OrcOk Tryz.prog c77 := okOf fun W => by kernel_rfl
theorem ok_c78 : OrcOk Tryz.prog c78 := okOf fun W => by kernel_rfl
theorem ok_c79 : OrcOk Tryz.prog c79 := okOf fun W => by kernel_rfl
theorem ok_c80 : OrcOk Tryz.prog c80 := okOf fun W => by kernel_rfl
theorem ok_c81 : OrcOk Tryz.prog c81 := okOf fun W => by kernel_rfl
theorem ok_c82 : OrcOk Tryz.prog c82 := okOf fun W => by kernel_rfl
theorem ok_c83 : OrcOk Tryz.prog c83 := okOf fun W => by kernel_rfl
theorem ok_c84 : OrcOk Tryz.prog c84 := okOf fun W => by kernel_rfl
theorem ok_c85 : OrcOk Tryz.prog c85 := okOf fun W => by kernel_rfl
theorem ok_c86 : OrcOk Tryz.prog c86 := okOf fun W => by kernel_rfl
theorem ok_c87 : OrcOk Tryz.prog c87 := okOf fun W => by kernel_rfl
theorem ok_c88 : OrcOk Tryz.prog c88 := okOf fun W => by kernel_rfl
theorem ok_c89 : OrcOk Tryz.prog c89 := okOf fun W => by kernel_rfl
theorem ok_c90 : OrcOk Tryz.prog c90 := okOf fun W => by kernel_rfl
theorem ok_c91 : OrcOk Tryz.prog c91 := okOf fun W => by kernel_rfl
theorem ok_c92 : OrcOk Tryz.prog c92 := okOf fun W => by kernel_rfl
theorem ok_c93 : OrcOk Tryz.prog c93 := okOf fun W => by kernel_rfl
theorem ok_c94 : OrcOk Tryz.prog c94 := okOf fun W => by kernel_rfl
theorem ok_c95 : OrcOk Tryz.prog c95 := okOf fun W => by kernel_rfl
theorem ok_c96 : OrcOk Tryz.prog c96 := okOf fun W => by kernel_rfl
theorem ok_c97 : OrcOk Tryz.prog c97 := okOf fun W => by kernel_rfl
theorem ok_c98 : OrcOk Tryz.prog c98 := okOf fun W => by kernel_rfl
theorem ok_c99 : OrcOk Tryz.prog c99 := okOf fun W => by kernel_rfl
end Go.Proofs.YtfeefnmniolncaaGreatDoor.topJoin
