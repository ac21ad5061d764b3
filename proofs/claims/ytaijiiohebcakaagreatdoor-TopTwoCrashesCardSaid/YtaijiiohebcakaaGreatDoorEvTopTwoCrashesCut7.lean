/- TopTwoCrashes: pieces of its runs, by the kernel. -/
import Derived.Test.YtaijiiohebcakaaGreatDoorEvTopTwoCrashesLit
import Derived.Test.YtaijiiohebcakaaGreatDoorRows
import Derived.KernelRfl
namespace Go.Proofs.YtaijiiohebcakaaGreatDoor.topTwoCrashes
open Go.YtaijiiohebcakaaGreatDoorEv
set_option maxRecDepth 100000
theorem ok_c115 : OrcOk Tryz.prog c115 := okOf fun W => by kernel_rfl
theorem ok_c116 : OrcOk Tryz.prog c116 := okOf fun W => by kernel_rfl
theorem ok_c117 : OrcOk Tryz.prog c117 := okOf fun W => by kernel_rfl
theorem ok_c118 : OrcOk Tryz.prog c118 := okOf fun W => by kernel_rfl
theorem ok_c119 : OrcOk Tryz.prog c119 := okOf fun W => by kernel_rfl
theorem ok_c120 : OrcOk Tryz.prog c120 := okOf fun W => by kernel_rfl
theorem ok_c121 : OrcOk Tryz.prog c121 := okOf fun W => by kernel_rfl
theorem ok_c122 : OrcOk Tryz.prog c122 := okOf fun W => by kernel_rfl
end Go.Proofs.YtaijiiohebcakaaGreatDoor.topTwoCrashes
