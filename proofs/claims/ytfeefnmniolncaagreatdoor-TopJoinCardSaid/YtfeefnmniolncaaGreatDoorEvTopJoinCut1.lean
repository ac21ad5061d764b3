/- TopJoin: pieces of its runs, by the kernel. -/
import Derived.Test.YtfeefnmniolncaaGreatDoorEvTopJoinLit
import Derived.Test.YtfeefnmniolncaaGreatDoorRows
import Derived.KernelRfl
namespace Go.Proofs.YtfeefnmniolncaaGreatDoor.topJoin
open Go.YtfeefnmniolncaaGreatDoorEv
set_option linter.unusedSectionVars false
variable [Lane]
set_option maxRecDepth 100000
theorem ok_c34 : OrcOk Tryz.prog c34 := okOf fun W => by kernel_rfl
theorem ok_c35 : OrcOk Tryz.prog c35 := okOf fun W => by kernel_rfl
theorem ok_c36 : OrcOk Tryz.prog c36 := okOf fun W => by kernel_rfl
theorem ok_c37 : OrcOk Tryz.prog c37 := okOf fun W => by kernel_rfl
theorem ok_c38 : OrcOk Tryz.prog c38 := okOf fun W => by kernel_rfl
theorem ok_c39 : OrcOk Tryz.prog c39 := okOf fun W => by kernel_rfl
theorem ok_c40 : OrcOk Tryz.prog c40 := okOf fun W => by kernel_rfl
theorem ok_c41 : OrcOk Tryz.prog c41 := okOf fun W => by kernel_rfl
theorem ok_c42 : OrcOk Tryz.prog c42 := okOf fun W => by kernel_rfl
theorem ok_c43 : OrcOk Tryz.prog c43 := okOf fun W => by kernel_rfl
theorem ok_c44 : OrcOk Tryz.prog c44 := okOf fun W => by kernel_rfl
theorem ok_c45 : OrcOk Tryz.prog c45 := okOf fun W => by kernel_rfl
theorem ok_c46 : OrcOk Tryz.prog c46 := okOf fun W => by kernel_rfl
theorem ok_c47 : OrcOk Tryz.prog c47 := okOf fun W => by kernel_rfl
theorem ok_c48 : OrcOk Tryz.prog c48 := okOf fun W => by kernel_rfl
theorem ok_c49 : OrcOk Tryz.prog c49 := okOf fun W => by kernel_rfl
theorem ok_c50 : OrcOk Tryz.prog c50 := okOf fun W => by kernel_rfl
theorem ok_c51 : OrcOk Tryz.prog c51 := okOf fun W => by kernel_rfl
theorem ok_c52 : OrcOk Tryz.prog c52 := okOf fun W => by kernel_rfl
theorem ok_c53 : OrcOk Tryz.prog c53 := okOf fun W => by kernel_rfl
theorem ok_c54 : OrcOk Tryz.prog c54 := okOf fun W => by kernel_rfl
theorem ok_c55 : OrcOk Tryz.prog c55 := okOf fun W => by kernel_rfl
theorem ok_c56 : OrcOk Tryz.prog c56 := okOf fun W => by kernel_rfl
theorem ok_c57 : OrcOk Tryz.prog c57 := okOf fun W => by kernel_rfl
theorem ok_c58 : OrcOk Tryz.prog c58 := okOf fun W => by kernel_rfl
theorem ok_c59 : OrcOk Tryz.prog c59 := okOf fun W => by kernel_rfl
theorem ok_c60 : OrcOk Tryz.prog c60 := okOf fun W => by kernel_rfl
theorem ok_c61 : OrcOk Tryz.prog c61 := okOf fun W => by kernel_rfl
theorem ok_c62 : OrcOk Tryz.prog c62 := okOf fun W => by kernel_rfl
theorem ok_c63 : OrcOk Tryz.prog c63 := okOf fun W => by kernel_rfl
theorem ok_c64 : OrcOk Tryz.prog c64 := okOf fun W => by kernel_rfl
theorem ok_c65 : OrcOk Tryz.prog c65 := okOf fun W => by kernel_rfl
theorem ok_c66 : OrcOk Tryz.prog c66 := okOf fun W => by kernel_rfl
end Go.Proofs.YtfeefnmniolncaaGreatDoor.topJoin
