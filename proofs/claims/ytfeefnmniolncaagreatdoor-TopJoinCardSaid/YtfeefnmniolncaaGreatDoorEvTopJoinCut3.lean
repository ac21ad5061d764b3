/- TopJoin: pieces of its runs, by the kernel. -/
import Derived.Test.YtfeefnmniolncaaGreatDoorEvTopJoinLit
import Derived.Test.YtfeefnmniolncaaGreatDoorRows
import Derived.KernelRfl
namespace Go.Proofs.YtfeefnmniolncaaGreatDoor.topJoin
open Go.YtfeefnmniolncaaGreatDoorEv
set_option linter.unusedSectionVars false
variable [Lane]
set_option maxRecDepth 100000
theorem ok_c100 : OrcOk Tryz.prog c100 := okOf fun W => by kernel_rfl
theorem ok_c101 : OrcOk Tryz.prog c101 := okOf fun W => by kernel_rfl
theorem ok_c102 : OrcOk Tryz.prog c102 := okOf fun W => by kernel_rfl
theorem ok_c103 : OrcOk Tryz.prog c103 := okOf fun W => by kernel_rfl
theorem ok_c104 : OrcOk Tryz.prog c104 := okOf fun W => by kernel_rfl
theorem ok_c105 : OrcOk Tryz.prog c105 := okOf fun W => by kernel_rfl
theorem ok_c106 : OrcOk Tryz.prog c106 := okOf fun W => by kernel_rfl
theorem ok_c107 : OrcOk Tryz.prog c107 := okOf fun W => by kernel_rfl
theorem ok_c108 : OrcOk Tryz.prog c108 := okOf fun W => by kernel_rfl
theorem ok_c109 : OrcOk Tryz.prog c109 := okOf fun W => by kernel_rfl
theorem ok_c110 : OrcOk Tryz.prog c110 := okOf fun W => by kernel_rfl
theorem ok_c111 : OrcOk Tryz.prog c111 := okOf fun W => by kernel_rfl
theorem ok_c112 : OrcOk Tryz.prog c112 := okOf fun W => by kernel_rfl
theorem ok_c113 : OrcOk Tryz.prog c113 := okOf fun W => by kernel_rfl
theorem ok_c114 : OrcOk Tryz.prog c114 := okOf fun W => by kernel_rfl
theorem ok_c115 : OrcOk Tryz.prog c115 := okOf fun W => by kernel_rfl
theorem ok_c116 : OrcOk Tryz.prog c116 := okOf fun W => by kernel_rfl
theorem ok_c117 : OrcOk Tryz.prog c117 := okOf fun W => by kernel_rfl
theorem ok_c118 : OrcOk Tryz.prog c118 := okOf fun W => by kernel_rfl
theorem ok_c119 : OrcOk Tryz.prog c119 := okOf fun W => by kernel_rfl
theorem ok_c120 : OrcOk Tryz.prog c120 := okOf fun W => by kernel_rfl
theorem ok_c121 : OrcOk Tryz.prog c121 := okOf fun W => by kernel_rfl
theorem ok_c122 : OrcOk Tryz.prog c122 := okOf fun W => by kernel_rfl
theorem ok_c123 : OrcOk Tryz.prog c123 := okOf fun W => by kernel_rfl
theorem ok_c124 : OrcOk Tryz.prog c124 := okOf fun W => by kernel_rfl
theorem ok_c125 : OrcOk Tryz.prog c125 := okOf fun W => by kernel_rfl
theorem ok_c126 : OrcOk Tryz.prog c126 := okOf fun W => by kernel_rfl
theorem ok_c127 : OrcOk Tryz.prog c127 := okOf fun W => by kernel_rfl
theorem ok_c128 : OrcOk Tryz.prog c128 := okOf fun W => by kernel_rfl
theorem ok_c129 : OrcOk Tryz.prog c129 := okOf fun W => by kernel_rfl
theorem ok_c130 : OrcOk Tryz.prog c130 := okOf fun W => by kernel_rfl
theorem ok_c131 : OrcOk Tryz.prog c131 := okOf fun W => by kernel_rfl
theorem ok_c132 : OrcOk Tryz.prog c132 := okOf fun W => by kernel_rfl
end Go.Proofs.YtfeefnmniolncaaGreatDoor.topJoin
