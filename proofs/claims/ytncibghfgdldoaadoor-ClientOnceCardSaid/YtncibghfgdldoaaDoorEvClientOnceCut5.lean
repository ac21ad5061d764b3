/- ClientOnce: pieces of its runs, by the kernel. -/
import Derived.Test.YtncibghfgdldoaaDoorEvClientOnceLit
import Derived.Test.YtncibghfgdldoaaDoorRows
import Derived.KernelRfl
namespace Go.Proofs.YtncibghfgdldoaaDoor.clientOnce
open Go.YtncibghfgdldoaaDoorEv
set_option maxRecDepth 100000
theorem ok_c1393 : OrcOk Tryd.prog c1393 := okOf fun W => by kernel_rfl
theorem ok_c1394 : OrcOk Tryd.prog c1394 := okOf fun W => by kernel_rfl
theorem ok_c1395 : OrcOk Tryd.prog c1395 := okOf fun W => by kernel_rfl
theorem ok_c1396 : OrcOk Tryd.prog c1396 := okOf fun W => by kernel_rfl
end Go.Proofs.YtncibghfgdldoaaDoor.clientOnce
