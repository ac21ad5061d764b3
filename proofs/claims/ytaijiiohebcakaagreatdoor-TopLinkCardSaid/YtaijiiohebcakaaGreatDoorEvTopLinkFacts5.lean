/- TopLink: closed facts of its row, each by itself. -/
import Derived.Test.YtaijiiohebcakaaGreatDoorRows
import Derived.JoinedOf
import Derived.SevenTiedAt
import Derived.KernelRfl
namespace Go.Proofs.YtaijiiohebcakaaGreatDoor.topLink
open Go
set_option maxRecDepth 100000
theorem noGo : Tryz.prog.funcs.any Func.goes = false := by kernel_rfl
end Go.Proofs.YtaijiiohebcakaaGreatDoor.topLink
