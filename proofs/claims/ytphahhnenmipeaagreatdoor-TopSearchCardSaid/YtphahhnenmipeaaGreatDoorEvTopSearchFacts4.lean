/- TopSearch: closed facts of its row, each by itself. -/
import Derived.Test.YtphahhnenmipeaaGreatDoorRows
import Derived.JoinedOf
import Derived.SevenTiedAt
import Derived.KernelRfl
namespace Go.Proofs.YtphahhnenmipeaaGreatDoor.topSearch
open Go
set_option maxRecDepth 100000
theorem k4 : (namedTie Tryz.prog Rows.topSearchRow.named Rows.topSearchSpec.vars) = true := by kernel_rfl
theorem k31 : (Rows.topSearchRow.veiledFits Tryz.prog Tryz.f4.params.toList (Tryz.f4.params.toList ++ Rows.topSearchSpec.plain.varTypes Tryz.prog ++ Tryz.f4.resultTypes.toList)) = true := by kernel_rfl
theorem k24 : (Tryz.prog.stopsHeard) = true := by kernel_rfl
theorem k13 : (Rows.topSearchRow.maps == (Tryz.f4.params.toList ++ Rows.topSearchSpec.plain.varTypes Tryz.prog).any (Tryz.prog.mapsRec ·)) = true := by kernel_rfl
theorem k18 : (Rows.topSearchSpec.vars.all (Tryz.prog.varReadable ·)) = true := by kernel_rfl
theorem k27 : (Tryz.prog.make == some Rows.topSearchRow.make) = true := by kernel_rfl
theorem named : Tryz.prog.funcNamed Rows.topSearchRow.func = some 4 := by kernel_rfl
end Go.Proofs.YtphahhnenmipeaaGreatDoor.topSearch
