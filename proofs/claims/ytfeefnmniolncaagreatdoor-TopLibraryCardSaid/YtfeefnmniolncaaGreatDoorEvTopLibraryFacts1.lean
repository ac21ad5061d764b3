/- TopLibrary: closed facts of its row, each by itself. -/
import Derived.Test.YtfeefnmniolncaaGreatDoorRows
import Derived.JoinedOf
import Derived.SevenTiedAt
import Derived.KernelRfl
namespace Go.Proofs.YtfeefnmniolncaaGreatDoor.topLibrary
open Go
set_option maxRecDepth 100000
theorem k1 : (laidOutB Tryz.prog) = true := by kernel_rfl
theorem k26 : (Rows.topLibraryRow.lifted == Tryz.prog.liftsFinal) = true := by kernel_rfl
theorem k6 : (Tryz.prog.stops == []) = true := by kernel_rfl
theorem k3 : (Tryz.f5.params.all (Tryz.prog.readableRec ·)) = true := by kernel_rfl
theorem k15 : (Rows.topLibraryRow.mapsOut == Tryz.prog.mapsAmong Tryz.f5.resultTypes.toList) = true := by kernel_rfl
theorem k20 : (Rows.topLibraryRow.ifacesOut == Tryz.f5.resultTypes.toList.any (Tryz.prog.ifacesRec ·)) = true := by kernel_rfl
theorem k29 : (Rows.topLibraryRow.pinned == Rows.topLibraryRow.pinnedBy) = true := by kernel_rfl
theorem wfText : Rows.topLibraryRow.wfByText (OpenSpec.ofChange Rows.topLibrarySpec) = true := by kernel_rfl
end Go.Proofs.YtfeefnmniolncaaGreatDoor.topLibrary
