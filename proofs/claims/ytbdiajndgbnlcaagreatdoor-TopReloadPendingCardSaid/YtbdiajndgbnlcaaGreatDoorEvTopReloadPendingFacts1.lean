/- TopReloadPending: closed facts of its row, each by itself. -/
import Derived.Test.YtbdiajndgbnlcaaGreatDoorRows
import Derived.JoinedOf
import Derived.SevenTiedAt
import Derived.KernelRfl
namespace Go.Proofs.YtbdiajndgbnlcaaGreatDoor.topReloadPending
open Go
set_option maxRecDepth 100000
theorem k1 : (laidOutB Tryz.prog) = true := by kernel_rfl
theorem k26 : (Rows.topReloadPendingRow.lifted == Tryz.prog.liftsFinal) = true := by kernel_rfl
theorem k6 : (Tryz.prog.stops == []) = true := by kernel_rfl
theorem k3 : (Tryz.f5.params.all (Tryz.prog.readableRec ·)) = true := by kernel_rfl
theorem k15 : (Rows.topReloadPendingRow.mapsOut == Tryz.prog.mapsAmong Tryz.f5.resultTypes.toList) = true := by kernel_rfl
theorem k20 : (Rows.topReloadPendingRow.ifacesOut == Tryz.f5.resultTypes.toList.any (Tryz.prog.ifacesRec ·)) = true := by kernel_rfl
theorem k29 : (Rows.topReloadPendingRow.pinned == Rows.topReloadPendingRow.pinnedBy) = true := by kernel_rfl
theorem wfText : Rows.topReloadPendingRow.wfByText (OpenSpec.ofChange Rows.topReloadPendingSpec) = true := by kernel_rfl
end Go.Proofs.YtbdiajndgbnlcaaGreatDoor.topReloadPending
