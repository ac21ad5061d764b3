/- TopTwoCrashes: pieces of its runs, by the kernel. -/
import Derived.Test.YtaijiiohebcakaaGreatDoorEvTopTwoCrashesLit
import Derived.Test.YtaijiiohebcakaaGreatDoorRows
import Derived.KernelRfl
namespace Go.Proofs.YtaijiiohebcakaaGreatDoor.topTwoCrashes
open Go.YtaijiiohebcakaaGreatDoorEv
set_option maxRecDepth 100000
theorem ok_c97 : OrcOk Tryz.prog c97 := okOf fun W => by kernel_rfl
theorem ok_c98 : OrcOk Tryz.prog c98 := okOf fun W => by kernel_rfl
theorem ok_c99 : OrcOk Tryz.prog c99 := okOf fun W => by kernel_rfl
theorem ok_c100 : OrcOk Tryz.prog c100 := okOf fun W => by kernel_rfl
theorem ok_c101 : OrcOk Tryz.prog c101 := okOf fun W => by kernel_rfl
theorem ok_c102 : OrcOk Tryz.prog c102 := okOf fun W => by kernel_rfl
theorem ok_c103 : OrcOk Tryz.prog c103 := okOf fun W => by kernel_rfl
theorem ok_c104 : OrcOk Tryz.prog c104 := okOf fun W => by kernel_rfl
theorem ok_c105 : OrcOk Tryz.prog c105 := okOf fun W => by kernel_rfl
end Go.Proofs.YtaijiiohebcakaaGreatDoor.topTwoCrashes
