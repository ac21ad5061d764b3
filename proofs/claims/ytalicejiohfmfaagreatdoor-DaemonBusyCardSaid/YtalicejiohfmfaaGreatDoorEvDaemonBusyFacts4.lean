/- DaemonBusy: closed facts of its row, each by itself. -/
import Derived.Test.YtalicejiohfmfaaGreatDoorRows
import Derived.JoinedOf
import Derived.SevenTiedAt
import Derived.KernelRfl
namespace Go.Proofs.YtalicejiohfmfaaGreatDoor.daemonBusy
open Go
set_option maxRecDepth 100000
theorem k4 : (namedTie Tryz.prog Rows.daemonBusyRow.named Rows.daemonBusySpec.vars) = true := by kernel_rfl
theorem k31 : (Rows.daemonBusyRow.veiledFits Tryz.prog Tryz.f3.params.toList (Tryz.f3.params.toList ++ Rows.daemonBusySpec.plain.varTypes Tryz.prog ++ Tryz.f3.resultTypes.toList)) = true := by kernel_rfl
theorem k24 : (Tryz.prog.stopsHeard) = true := by kernel_rfl
theorem k13 : (Rows.daemonBusyRow.maps == (Tryz.f3.params.toList ++ Rows.daemonBusySpec.plain.varTypes Tryz.prog).any (Tryz.prog.mapsRec ·)) = true := by kernel_rfl
theorem k18 : (Rows.daemonBusySpec.vars.all (Tryz.prog.varReadable ·)) = true := by kernel_rfl
theorem k27 : (Tryz.prog.make == some Rows.daemonBusyRow.make) = true := by kernel_rfl
theorem named : Tryz.prog.funcNamed Rows.daemonBusyRow.func = some 3 := by kernel_rfl
end Go.Proofs.YtalicejiohfmfaaGreatDoor.daemonBusy
