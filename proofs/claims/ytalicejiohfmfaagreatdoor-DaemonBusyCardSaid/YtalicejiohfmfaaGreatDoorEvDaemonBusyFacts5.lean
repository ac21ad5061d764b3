/- DaemonBusy: closed facts of its row, each by itself. -/
import Derived.Test.YtalicejiohfmfaaGreatDoorRows
import Derived.JoinedOf
import Derived.SevenTiedAt
import Derived.KernelRfl
namespace Go.Proofs.YtalicejiohfmfaaGreatDoor.daemonBusy
open Go
set_option maxRecDepth 100000
theorem noGo : Tryz.prog.funcs.any Func.goes = false := by kernel_rfl
end Go.Proofs.YtalicejiohfmfaaGreatDoor.daemonBusy
