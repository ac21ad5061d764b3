/- TopJoin: pieces of its runs, by the kernel. -/
import Derived.Test.YtfeefnmniolncaaGreatDoorEvTopJoinLit
import Derived.Test.YtfeefnmniolncaaGreatDoorRows
import Derived.KernelRfl
namespace Go.Proofs.YtfeefnmniolncaaGreatDoor.topJoin
open Go.YtfeefnmniolncaaGreatDoorEv
set_option linter.unusedSectionVars false
variable [Lane]
set_option maxRecDepth 100000
theorem ok_c133 : OrcOk Tryz.prog c133 := okOf fun W => by kernel_rfl
theorem ok_c134 : OrcOk Tryz.prog c134 := okOf fun W => by kernel_rfl
theorem ok_c135 : OrcOk Tryz.prog c135 := okOf fun W => by kernel_rfl
theorem ok_c136 : OrcOk Tryz.prog c136 := okOf fun W => by kernel_rfl
theorem ok_c137 : OrcOk Tryz.prog c137 := okOf fun W => by kernel_rfl
theorem ok_c138 : OrcOk Tryz.prog c138 := okOf fun W => by kernel_rfl
theorem ok_c139 : OrcOk Tryz.prog c139 := okOf fun W => by kernel_rfl
theorem ok_c140 : OrcOk Tryz.prog c140 := okOf fun W => by kernel_rfl
theorem ok_c141 : OrcOk Tryz.prog c141 := okOf fun W => by kernel_rfl
theorem ok_c142 : OrcOk Tryz.prog c142 := okOf fun W => by kernel_rfl
theorem ok_c143 : OrcOk Tryz.prog c143 := okOf fun W => by kernel_rfl
theorem ok_c144 : OrcOk Tryz.prog c144 := okOf fun W => by kernel_rfl
theorem ok_c145 : OrcOk Tryz.prog c145 := okOf fun W => by kernel_rfl
theorem ok_c146 : OrcOk Tryz.prog c146 := okOf fun W => by kernel_rfl
theorem ok_c147 : OrcOk Tryz.prog c147 := okOf fun W => by kernel_rfl
theorem ok_c148 : OrcOk Tryz.prog c148 := okOf fun W => by kernel_rfl
theorem ok_c149 : OrcOk Tryz.prog c149 := okOf fun W => by kernel_rfl
theorem ok_c150 : OrcOk Tryz.prog c150 := okOf fun W => by kernel_rfl
theorem ok_c151 : OrcOk Tryz.prog c151 := okOf fun W => by kernel_rfl
theorem ok_c152 : OrcOk Tryz.prog c152 := okOf fun W => by kernel_rfl
theorem ok_c153 : OrcOk Tryz.prog c153 := okOf fun W => by kernel_rfl
theorem ok_c154 : OrcOk Tryz.prog c154 := okOf fun W => by kernel_rfl
theorem ok_c155 : OrcOk Tryz.prog c155 := okOf fun W => by kernel_rfl
theorem ok_c156 : OrcOk Tryz.prog c156 := okOf fun W => by kernel_rfl
theorem ok_c157 : OrcOk Tryz.prog c157 := okOf fun W => by kernel_rfl
theorem ok_c158 : OrcOk Tryz.prog c158 := okOf fun W => by kernel_rfl
theorem ok_c159 : OrcOk Tryz.prog c159 := okOf fun W => by kernel_rfl
theorem ok_c160 : OrcOk Tryz.prog c160 := okOf fun W => by kernel_rfl
theorem ok_c161 : OrcOk Tryz.prog c161 := okOf fun W => by kernel_rfl
theorem ok_c162 : OrcOk Tryz.prog c162 := okOf fun W => by kernel_rfl
theorem ok_c163 : OrcOk Tryz.prog c163 := okOf fun W => by kernel_rfl
theorem ok_c164 : OrcOk Tryz.prog c164 := okOf fun W => by kernel_rfl
theorem ok_c165 : OrcOk Tryz.prog c165 := okOf fun W => by kernel_rfl
end Go.Proofs.YtfeefnmniolncaaGreatDoor.topJoin
