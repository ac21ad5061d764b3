/- TopTwoCrashes: pieces of its runs, by the kernel. -/
import Derived.Test.YtaijiiohebcakaaGreatDoorEvTopTwoCrashesLit
import Derived.Test.YtaijiiohebcakaaGreatDoorRows
import Derived.KernelRfl
namespace Go.Proofs.YtaijiiohebcakaaGreatDoor.topTwoCrashes
open Go.YtaijiiohebcakaaGreatDoorEv
set_option maxRecDepth 100000
theorem ok_c75 : OrcOk Tryz.prog c75 := okOf fun W => by kernel_rfl
theorem ok_c76 : OrcOk Tryz.prog c76 := okOf fun W => by kernel_rfl
theorem ok_c77 : OrcOk Tryz.prog c77 := okOf fun W => by kernel_rfl
theorem ok_c78 : OrcOk Tryz.prog c78 := okOf fun W => by kernel_rfl
theorem ok_c79 : OrcOk Tryz.prog c79 := okOf fun W => by kernel_rfl
theorem ok_c80 : OrcOk Tryz.prog c80 := okOf fun W => by kernel_rfl
theorem ok_c81 : OrcOk Tryz.prog c81 := okOf fun W => by kernel_rfl
theorem ok_c82 : OrcOk Tryz.prog c82 := okOf fun W => by kernel_rfl
theorem ok_c83 : OrcOk Tryz.prog c83 := okOf fun W => by kernel_rfl
theorem ok_c84 : OrcOk Tryz.prog c84 := okOf fun W => by kernel_rfl
theorem ok_c85 : OrcOk Tryz.prog c85 := okOf fun W => by kernel_rfl
theorem ok_c86 : OrcOk Tryz.prog c86 := okOf fun W => by kernel_rfl
end Go.Proofs.YtaijiiohebcakaaGreatDoor.topTwoCrashes
