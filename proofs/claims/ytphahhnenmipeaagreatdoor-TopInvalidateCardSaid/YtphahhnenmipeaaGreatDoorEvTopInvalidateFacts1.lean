/- TopInvalidate: closed facts of its row, each by itself. -/
import Derived.Test.YtphahhnenmipeaaGreatDoorRows
import Derived.JoinedOf
import Derived.SevenTiedAt
import Derived.KernelRfl
namespace Go.Proofs.YtphahhnenmipeaaGreatDoor.topInvalidate
open Go
set_option maxRecDepth 100000
theorem k1 : (laidOutB Tryz.prog) = true := by kernel_rfl
theorem k26 : (Rows.topInvalidateRow.lifted == Tryz.prog.liftsFinal) = true := by kernel_rfl
theorem k6 : (Tryz.prog.stops == []) = true := by kernel_rfl
theorem k3 : (Tryz.f5.params.all (Tryz.prog.readableRec ·)) = true := by kernel_rfl
theorem k15 : (Rows.topInvalidateRow.mapsOut == Tryz.prog.mapsAmong Tryz.f5.resultTypes.toList) = true := by kernel_rfl
theorem k20 : (Rows.topInvalidateRow.ifacesOut == Tryz.f5.resultTypes.toList.any (Tryz.prog.ifacesRec ·)) = true := by kernel_rfl
theorem k29 : (Rows.topInvalidateRow.pinned == Rows.topInvalidateRow.pinnedBy) = true := by kernel_rfl
theorem wfText : Rows.topInvalidateRow.wfByText (OpenSpec.ofChange Rows.topInvalidateSpec) = true := by kernel_rfl
end Go.Proofs.YtphahhnenmipeaaGreatDoor.topInvalidate
