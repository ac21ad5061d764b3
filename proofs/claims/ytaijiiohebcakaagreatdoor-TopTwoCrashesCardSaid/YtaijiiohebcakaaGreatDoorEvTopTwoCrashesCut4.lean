/- TopTwoCrashes: pieces of its runs, by the kernel. -/
import Derived.Test.YtaijiiohebcakaaGreatDoorEvTopTwoCrashesLit
import Derived.Test.YtaijiiohebcakaaGreatDoorRows
import Derived.KernelRfl
namespace Go.Proofs.YtaijiiohebcakaaGreatDoor.topTwoCrashes
open Go.YtaijiiohebcakaaGreatDoorEv
set_option maxRecDepth 100000
theorem ok_c87 : OrcOk Tryz.prog c87 := okOf fun W => by kernel_rfl
theorem ok_c88 : OrcOk Tryz.prog c88 := okOf fun W => by kernel_rfl
theorem ok_c89 : OrcOk Tryz.prog c89 := okOf fun W => by kernel_rfl
theorem ok_c90 : OrcOk Tryz.prog c90 := okOf fun W => by kernel_rfl
theorem ok_c91 : OrcOk Tryz.prog c91 := okOf fun W => by kernel_rfl
theorem ok_c92 : OrcOk Tryz.prog c92 := okOf fun W => by kernel_rfl
theorem ok_c93 : OrcOk Tryz.prog c93 := okOf fun W => by kernel_rfl
theorem ok_c94 : OrcOk Tryz.prog c94 := okOf fun W => by kernel_rfl
theorem ok_c95 : OrcOk Tryz.prog c95 := okOf fun W => by kernel_rfl
theorem ok_c96 : OrcOk Tryz.prog c96 := okOf fun W => by kernel_rfl
end Go.Proofs.YtaijiiohebcakaaGreatDoor.topTwoCrashes
