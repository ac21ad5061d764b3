/- TopJoin: pieces of its runs, by the kernel. -/
import Derived.Test.YtfeefnmniolncaaGreatDoorEvTopJoinLit
import Derived.Test.YtfeefnmniolncaaGreatDoorRows
import Derived.KernelRfl
namespace Go.Proofs.YtfeefnmniolncaaGreatDoor.topJoin
open Go.YtfeefnmniolncaaGreatDoorEv
set_option linter.unusedSectionVars false
variable [Lane]
set_option maxRecDepth 100000
theorem ok_c0 : OrcOk Tryz.prog c0 := okOf fun W => by kernel_rfl
theorem ok_c1 : OrcOk Tryz.prog c1 := okOf fun W => by kernel_rfl
theorem ok_c2 : OrcOk Tryz.prog c2 := okOf fun W => by kernel_rfl
theorem ok_c3 : OrcOk Tryz.prog c3 := okOf fun W => by kernel_rfl
theorem ok_c4 : OrcOk Tryz.prog c4 := okOf fun W => by kernel_rfl
theorem ok_c5 : OrcOk Tryz.prog c5 := okOf fun W => by kernel_rfl
theorem ok_c6 : OrcOk Tryz.prog c6 := okOf fun W => by kernel_rfl
theorem ok_c7 : OrcOk Tryz.prog c7 := okOf fun W => by kernel_rfl
theorem ok_c8 : OrcOk Tryz.prog c8 := okOf fun W => by kernel_rfl
theorem ok_c9 : OrcOk Tryz.prog c9 := okOf fun W => by kernel_rfl
theorem ok_c10 : OrcOk Tryz.prog c10 := okOf fun W => by kernel_rfl
theorem ok_c11 : OrcOk Tryz.prog c11 := okOf fun W => by kernel_rfl
theorem ok_c12 : OrcOk Tryz.prog c12 := okOf fun W => by kernel_rfl
theorem ok_c13 : OrcOk Tryz.prog c13 := okOf fun W => by kernel_rfl
theorem ok_c14 : OrcOk Tryz.prog c14 := okOf fun W => by kernel_rfl
theorem ok_c15 : OrcOk Tryz.prog c15 := okOf fun W => by kernel_rfl
theorem ok_c16 : OrcOk Tryz.prog c16 := okOf fun W => by kernel_rfl
theorem ok_c17 : OrcOk Tryz.prog c17 := okOf fun W => by kernel_rfl
theorem ok_c18 : OrcOk Tryz.prog c18 := okOf fun W => by kernel_rfl
theorem ok_c19 : OrcOk Tryz.prog c19 := okOf fun W => by kernel_rfl
theorem ok_c20 : OrcOk Tryz.prog c20 := okOf fun W => by kernel_rfl
theorem ok_c21 : OrcOk Tryz.prog c21 := okOf fun W => by kernel_rfl
theorem ok_c22 : OrcOk Tryz.prog c22 := okOf fun W => by kernel_rfl
theorem ok_c23 : OrcOk Tryz.prog c23 := okOf fun W => by kernel_rfl
theorem ok_c24 : OrcOk Tryz.prog c24 := okOf fun W => by kernel_rfl
theorem ok_c25 : OrcOk Tryz.prog c25 := okOf fun W => by kernel_rfl
theorem ok_c26 : OrcOk Tryz.prog c26 := okOf fun W => by kernel_rfl
theorem ok_c27 : OrcOk Tryz.prog c27 := okOf fun W => by kernel_rfl
theorem ok_c28 : OrcOk Tryz.prog c28 := okOf fun W => by kernel_rfl
theorem ok_c29 : OrcOk Tryz.prog c29 := okOf fun W => by kernel_rfl
theorem ok_c30 : OrcOk Tryz.prog c30 := okOf fun W => by kernel_rfl
theorem ok_c31 : OrcOk Tryz.prog c31 := okOf fun W => by kernel_rfl
theorem ok_c32 : OrcOk Tryz.prog c32 := okOf fun W => by kernel_rfl
theorem ok_c33 : OrcOk Tryz.prog c33 := okOf fun W => by kernel_rfl
end Go.Proofs.YtfeefnmniolncaaGreatDoor.topJoin
