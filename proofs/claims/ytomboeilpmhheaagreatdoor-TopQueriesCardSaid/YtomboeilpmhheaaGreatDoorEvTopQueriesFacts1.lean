/- TopQueries: closed facts of its row, each by itself. -/
import Derived.Test.YtomboeilpmhheaaGreatDoorRows
import Derived.JoinedOf
import Derived.SevenTiedAt
import Derived.KernelRfl
namespace Go.Proofs.YtomboeilpmhheaaGreatDoor.topQueries
open Go
set_option maxRecDepth 100000
theorem k1 : (laidOutB Tryz.prog) = true := by kernel_rfl
theorem k26 : (Rows.topQueriesRow.lifted == Tryz.prog.liftsFinal) = true := by kernel_rfl
theorem k6 : (Tryz.prog.stops == []) = true := by kernel_rfl
theorem k3 : (Tryz.f4.params.all (Tryz.prog.readableRec ·)) = true := by kernel_rfl
theorem k15 : (Rows.topQueriesRow.mapsOut == Tryz.prog.mapsAmong Tryz.f4.resultTypes.toList) = true := by kernel_rfl
theorem k20 : (Rows.topQueriesRow.ifacesOut == Tryz.f4.resultTypes.toList.any (Tryz.prog.ifacesRec ·)) = true := by kernel_rfl
theorem k29 : (Rows.topQueriesRow.pinned == Rows.topQueriesRow.pinnedBy) = true := by kernel_rfl
theorem wfText : Rows.topQueriesRow.wfByText (OpenSpec.ofChange Rows.topQueriesSpec) = true := by kernel_rfl
end Go.Proofs.YtomboeilpmhheaaGreatDoor.topQueries
