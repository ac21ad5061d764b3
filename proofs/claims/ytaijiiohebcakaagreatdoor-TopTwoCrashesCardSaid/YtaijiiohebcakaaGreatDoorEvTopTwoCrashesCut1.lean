/- TopTwoCrashes: pieces of its runs, by the kernel. -/
import Derived.Test.YtaijiiohebcakaaGreatDoorEvTopTwoCrashesLit
import Derived.Test.YtaijiiohebcakaaGreatDoorRows
import Derived.KernelRfl
namespace Go.Proofs.YtaijiiohebcakaaGreatDoor.topTwoCrashes
open Go.YtaijiiohebcakaaGreatDoorEv
set_option maxRecDepth 100000
theorem ok_c40 : OrcOk Tryz.prog c40 := okOf fun W => by kernel_rfl
theorem ok_c41 : OrcOk Tryz.prog c41 := okOf fun W => by kernel_rfl
theorem ok_c42 : OrcOk Tryz.prog c42 := okOf fun W => by kernel_rfl
theorem ok_c43 : OrcOk Tryz.prog c43 := okOf fun W => by kernel_rfl
theorem ok_c44 : OrcOk Tryz.prog c44 := okOf fun W => by kernel_rfl
theorem ok_c45 : OrcOk Tryz.prog c45 := okOf fun W => by kernel_rfl
theorem ok_c46 : OrcOk Tryz.prog c46 := okOf fun W => by kernel_rfl
theorem ok_c47 : OrcOk Tryz.prog c47 := okOf fun W => by kernel_rfl
theorem ok_c48 : OrcOk Tryz.prog c48 := okOf fun W => by kernel_rfl
theorem ok_c49 : OrcOk Tryz.prog c49 := okOf fun W => by kernel_rfl
theorem ok_c50 : OrcOk Tryz.prog c50 := okOf fun W => by kernel_rfl
theorem ok_c51 : OrcOk Tryz.prog c51 := okOf fun W => by kernel_rfl
theorem ok_c52 : OrcOk Tryz.prog c52 := okOf fun W => by kernel_rfl
theorem ok_c53 : OrcOk Tryz.prog c53 := okOf fun W => by kernel_rfl
theorem ok_c54 : OrcOk Tryz.prog c54 := okOf fun W => by kernel_rfl
theorem ok_c55 : OrcOk Tryz.prog c55 := okOf fun W => by kernel_rfl
theorem ok_c56 : OrcOk Tryz.prog c56 := okOf fun W => by kernel_rfl
theorem ok_c57 : OrcOk Tryz.prog c57 := okOf fun W => by kernel_rfl
theorem ok_c58 : OrcOk Tryz.prog c58 := okOf fun W => by kernel_rfl
theorem ok_c59 : OrcOk Tryz.prog c59 := okOf fun W => by kernel_rfl
end Go.Proofs.YtaijiiohebcakaaGreatDoor.topTwoCrashes
