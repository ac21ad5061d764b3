/- TopUncached: closed facts of its row, each by itself. -/
import Derived.Test.YtomboeilpmhheaaGreatDoorRows
import Derived.JoinedOf
import Derived.SevenTiedAt
import Derived.KernelRfl
namespace Go.Proofs.YtomboeilpmhheaaGreatDoor.topUncached
open Go
set_option maxRecDepth 100000
theorem k1 : (laidOutB Tryz.prog) = true := by kernel_rfl
theorem k26 : (Rows.topUncachedRow.lifted == Tryz.prog.liftsFinal) = true := by kernel_rfl
theorem k6 : (Tryz.prog.stops == []) = true := by kernel_rfl
theorem k3 : (Tryz.f6.params.all (Tryz.prog.readableRec ·)) = true := by kernel_rfl
theorem k15 : (Rows.topUncachedRow.mapsOut == Tryz.prog.mapsAmong Tryz.f6.resultTypes.toList) = true := by kernel_rfl
theorem k20 : (Rows.topUncachedRow.ifacesOut == Tryz.f6.resultTypes.toList.any (Tryz.prog.ifacesRec ·)) = true := by kernel_rfl
theorem k29 : (Rows.topUncachedRow.pinned == Rows.topUncachedRow.pinnedBy) = true := by kernel_rfl
theorem wfText : Rows.topUncachedRow.wfByText (OpenSpec.ofChange Rows.topUncachedSpec) = true := by kernel_rfl
end Go.Proofs.YtomboeilpmhheaaGreatDoor.topUncached
