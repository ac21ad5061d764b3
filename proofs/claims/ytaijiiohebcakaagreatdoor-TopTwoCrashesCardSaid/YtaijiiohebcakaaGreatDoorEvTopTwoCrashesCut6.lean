/- TopTwoCrashes: pieces of its runs, by the kernel. -/
import Derived.Test.YtaijiiohebcakaaGreatDoorEvTopTwoCrashesLit
import Derived.Test.YtaijiiohebcakaaGreatDoorRows
import Derived.KernelRfl
namespace Go.Proofs.YtaijiiohebcakaaGreatDoor.topTwoCrashes
open Go.YtaijiiohebcakaaGreatDoorEv
set_option maxRecDepth 100000
theorem ok_c106 : OrcOk Tryz.prog c106 := okOf fun W => by kernel_rfl
theorem ok_c107 : OrcOk Tryz.prog c107 := okOf fun W => by kernel_rfl
theorem ok_c108 : OrcOk Tryz.prog c108 := okOf fun W => by kernel_rfl
theorem ok_c109 : OrcOk Tryz.prog c109 := okOf fun W => by kernel_rfl
theorem ok_c110 : OrcOk Tryz.prog c110 := okOf fun W => by kernel_rfl
theorem ok_c111 : OrcOk Tryz.prog c111 := okOf fun W => by kernel_rfl
theorem ok_c112 : OrcOk Tryz.prog c112 := okOf fun W => by kernel_rfl
theorem ok_c113 : OrcOk Tryz.prog c113 := okOf fun W => by kernel_rfl
theorem ok_c114 : OrcOk Tryz.prog c114 := okOf fun W => by kernel_rfl
end Go.Proofs.YtaijiiohebcakaaGreatDoor.topTwoCrashes
