/- TopNegative: closed facts of its row, each by itself. -/
import Derived.Test.YtaijiiohebcakaaGreatDoorRows
import Derived.JoinedOf
import Derived.SevenTiedAt
import Derived.KernelRfl
namespace Go.Proofs.YtaijiiohebcakaaGreatDoor.topNegative
open Go
set_option maxRecDepth 100000
theorem k4 : (namedTie Tryz.prog Rows.topNegativeRow.named Rows.topNegativeSpec.vars) = true := by kernel_rfl
theorem k31 : (Rows.topNegativeRow.veiledFits Tryz.prog Tryz.f3.params.toList (Tryz.f3.params.toList ++ Rows.topNegativeSpec.plain.varTypes Tryz.prog ++ Tryz.f3.resultTypes.toList)) = true := by kernel_rfl
theorem k24 : (Tryz.prog.stopsHeard) = true := by kernel_rfl
theorem k13 : (Rows.topNegativeRow.maps == (Tryz.f3.params.toList ++ Rows.topNegativeSpec.plain.varTypes Tryz.prog).any (Tryz.prog.mapsRec ·)) = true := by kernel_rfl
theorem k18 : (Rows.topNegativeSpec.vars.all (Tryz.prog.varReadable ·)) = true := by kernel_rfl
theorem k27 : (Tryz.prog.make == some Rows.topNegativeRow.make) = true := by kernel_rfl
theorem named : Tryz.prog.funcNamed Rows.topNegativeRow.func = some 3 := by kernel_rfl
end Go.Proofs.YtaijiiohebcakaaGreatDoor.topNegative
