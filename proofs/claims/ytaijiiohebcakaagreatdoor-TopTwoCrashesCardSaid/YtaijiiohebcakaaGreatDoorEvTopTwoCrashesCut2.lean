/- TopTwoCrashes: pieces of its runs, by the kernel. -/
import Derived.Test.YtaijiiohebcakaaGreatDoorEvTopTwoCrashesLit
import Derived.Test.YtaijiiohebcakaaGreatDoorRows
import Derived.KernelRfl
namespace Go.Proofs.YtaijiiohebcakaaGreatDoor.topTwoCrashes
open Go.YtaijiiohebcakaaGreatDoorEv
set_option maxRecDepth 100000
theorem ok_c60 : OrcOk Tryz.prog c60 := okOf fun W => by kernel_rfl
theorem ok_c61 : OrcOk Tryz.prog c61 := okOf fun W => by kernel_rfl
theorem ok_c62 : OrcOk Tryz.prog c62 := okOf fun W => by kernel_rfl
theorem ok_c63 : OrcOk Tryz.prog c63 := okOf fun W => by kernel_rfl
theorem ok_c64 : OrcOk Tryz.prog c64 := okOf fun W => by kernel_rfl
theorem ok_c65 : OrcOk Tryz.prog c65 := okOf fun W => by kernel_rfl
theorem ok_c66 : OrcOk Tryz.prog c66 := okOf fun W => by kernel_rfl
theorem ok_c67 : OrcOk Tryz.prog c67 := okOf fun W => by kernel_rfl
theorem ok_c68 : OrcOk Tryz.prog c68 := okOf fun W => by kernel_rfl
theorem ok_c69 : OrcOk Tryz.prog c69 := okOf fun W => by kernel_rfl
theorem ok_c70 : OrcOk Tryz.prog c70 := okOf fun W => by kernel_rfl
theorem ok_c71 : OrcOk Tryz.prog c71 := okOf fun W => by kernel_rfl
theorem ok_c72 : OrcOk Tryz.prog c72 := okOf fun W => by kernel_rfl
theorem ok_c73 : OrcOk Tryz.prog c73 := okOf fun W => by kernel_rfl
theorem ok_c74 : OrcOk Tryz.prog c74 := okOf fun W => by kernel_rfl
end Go.Proofs.YtaijiiohebcakaaGreatDoor.topTwoCrashes
