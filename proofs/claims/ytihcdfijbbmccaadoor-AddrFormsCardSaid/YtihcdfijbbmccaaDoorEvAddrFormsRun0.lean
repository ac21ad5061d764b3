/- AddrForms: the evaluator's answers, by the kernel. -/
import Derived.Test.YtihcdfijbbmccaaDoorEvAddrFormsRun
import Derived.KernelRfl
namespace Go.Proofs.YtihcdfijbbmccaaDoor.addrForms
open Go.YtihcdfijbbmccaaDoorEv
set_option maxRecDepth 100000
theorem g0 (W : World) : tsts W [[]] = true := by kernel_rfl
theorem g0_0 (W : World) : tst W [] = true := (tsts_cons (g0 W)).1
end Go.Proofs.YtihcdfijbbmccaaDoor.addrForms
