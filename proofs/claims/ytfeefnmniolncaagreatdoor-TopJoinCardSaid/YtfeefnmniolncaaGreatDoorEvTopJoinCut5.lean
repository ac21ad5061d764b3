/- TopJoin: pieces of its runs, by the kernel. -/
import Derived.Test.YtfeefnmniolncaaGreatDoorEvTopJoinLit
import Derived.Test.YtfeefnmniolncaaGreatDoorRows
import Derived.KernelRfl
namespace Go.Proofs.YtfeefnmniolncaaGreatDoor.topJoin
open Go.YtfeefnmniolncaaGreatDoorEv
set_option linter.unusedSectionVars false
variable [Lane]
set_option maxRecDepth 100000
theorem ok_c166 : OrcOk Tryz.prog c166 := okOf fun W => by kernel_rfl
theorem ok_c167 : OrcOk Tryz.prog c167 := okOf fun W => by kernel_rfl
theorem ok_c168 : OrcOk Tryz.prog c168 := okOf fun W => by kernel_rfl
theorem ok_c169 : OrcOk Tryz.prog c169 := okOf fun W => by kernel_rfl
theorem ok_c170 : OrcOk Tryz.prog c170 := okOf fun W => by kernel_rfl
theorem ok_c171 : OrcOk Tryz.prog c171 := okOf fun W => by kernel_rfl
theorem ok_c172 : OrcOk Tryz.prog c172 := okOf fun W => by kernel_rfl
theorem ok_c173 : OrcOk Tryz.prog c173 := okOf fun W => by kernel_rfl
theorem ok_c174 : OrcOk Tryz.prog c174 := okOf fun W => by kernel_rfl
theorem ok_c175 : OrcOk Tryz.prog c175 := okOf fun W => by kernel_rfl
theorem ok_c176 : OrcOk Tryz.prog c176 := okOf fun W => by kernel_rfl
theorem ok_c177 : OrcOk Tryz.prog c177 := okOf fun W => by kernel_rfl
theorem ok_c178 : OrcOk Tryz.prog c178 := okOf fun W => by kernel_rfl
theorem ok_c179 : OrcOk Tryz.prog c179 := okOf fun W => by kernel_rfl
theorem ok_c180 : OrcOk Tryz.prog c180 := okOf fun W => by kernel_rfl
theorem ok_c181 : OrcOk Tryz.prog c181 := okOf fun W => by kernel_rfl
theorem ok_c182 : OrcOk Tryz.prog c182 := okOf fun W => by kernel_rfl
theorem ok_c183 : OrcOk Tryz.prog c183 := okOf fun W => by kernel_rfl
theorem ok_c184 : OrcOk Tryz.prog c184 := okOf fun W => by kernel_rfl
theorem ok_c185 : OrcOk Tryz.prog c185 := okOf fun W => by kernel_rfl
end Go.Proofs.YtfeefnmniolncaaGreatDoor.topJoin
