/- TopReloadPending: closed facts of its row, each by itself. -/
import Derived.Test.YtbdiajndgbnlcaaGreatDoorRows
import Derived.JoinedOf
import Derived.SevenTiedAt
import Derived.KernelRfl
namespace Go.Proofs.YtbdiajndgbnlcaaGreatDoor.topReloadPending
open Go
set_option maxRecDepth 100000
theorem k4 : (namedTie Tryz.prog Rows.topReloadPendingRow.named Rows.topReloadPendingSpec.vars) = true := by kernel_rfl
theorem k31 : (Rows.topReloadPendingRow.veiledFits Tryz.prog Tryz.f5.params.toList (Tryz.f5.params.toList ++ Rows.topReloadPendingSpec.plain.varTypes Tryz.prog ++ Tryz.f5.resultTypes.toList)) = true := by kernel_rfl
theorem k24 : (Tryz.prog.stopsHeard) = true := by kernel_rfl
theorem k13 : (Rows.topReloadPendingRow.maps == (Tryz.f5.params.toList ++ Rows.topReloadPendingSpec.plain.varTypes Tryz.prog).any (Tryz.prog.mapsRec ·)) = true := by kernel_rfl
theorem k18 : (Rows.topReloadPendingSpec.vars.all (Tryz.prog.varReadable ·)) = true := by kernel_rfl
theorem k27 : (Tryz.prog.make == some Rows.topReloadPendingRow.make) = true := by kernel_rfl
theorem named : Tryz.prog.funcNamed Rows.topReloadPendingRow.func = some 5 := by kernel_rfl
end Go.Proofs.YtbdiajndgbnlcaaGreatDoor.topReloadPending
