/- DaemonBusy: closed facts of its row, each by itself. -/
import Derived.Test.YtalicejiohfmfaaGreatDoorRows
import Derived.JoinedOf
import Derived.SevenTiedAt
import Derived.KernelRfl
namespace Go.Proofs.YtalicejiohfmfaaGreatDoor.daemonBusy
open Go
set_option maxRecDepth 100000
theorem k1 : (laidOutB Tryz.prog) = true := by kernel_rfl
theorem k26 : (Rows.daemonBusyRow.lifted == Tryz.prog.liftsFinal) = true := by kernel_rfl
theorem k6 : (Tryz.prog.stops == []) = true := by kernel_rfl
theorem k3 : (Tryz.f3.params.all (Tryz.prog.readableRec ·)) = true := by kernel_rfl
theorem k15 : (Rows.daemonBusyRow.mapsOut == Tryz.prog.mapsAmong Tryz.f3.resultTypes.toList) = true := by kernel_rfl
theorem k20 : (Rows.daemonBusyRow.ifacesOut == Tryz.f3.resultTypes.toList.any (Tryz.prog.ifacesRec ·)) = true := by kernel_rfl
theorem k29 : (Rows.daemonBusyRow.pinned == Rows.daemonBusyRow.pinnedBy) = true := by kernel_rfl
theorem wfText : Rows.daemonBusyRow.wfByText (OpenSpec.ofChange Rows.daemonBusySpec) = true := by kernel_rfl
end Go.Proofs.YtalicejiohfmfaaGreatDoor.daemonBusy
