/- TopInvalidate: closed facts of its row, each by itself. -/
import Derived.Test.YtphahhnenmipeaaGreatDoorRows
import Derived.JoinedOf
import Derived.SevenTiedAt
import Derived.KernelRfl
namespace Go.Proofs.YtphahhnenmipeaaGreatDoor.topInvalidate
open Go
set_option maxRecDepth 100000
theorem k4 : (namedTie Tryz.prog Rows.topInvalidateRow.named Rows.topInvalidateSpec.vars) = true := by kernel_rfl
theorem k31 : (Rows.topInvalidateRow.veiledFits Tryz.prog Tryz.f5.params.toList (Tryz.f5.params.toList ++ Rows.topInvalidateSpec.plain.varTypes Tryz.prog ++ Tryz.f5.resultTypes.toList)) = true := by kernel_rfl
theorem k24 : (Tryz.prog.stopsHeard) = true := by kernel_rfl
theorem k13 : (Rows.topInvalidateRow.maps == (Tryz.f5.params.toList ++ Rows.topInvalidateSpec.plain.varTypes Tryz.prog).any (Tryz.prog.mapsRec ·)) = true := by kernel_rfl
theorem k18 : (Rows.topInvalidateSpec.vars.all (Tryz.prog.varReadable ·)) = true := by kernel_rfl
theorem k27 : (Tryz.prog.make == some Rows.topInvalidateRow.make) = true := by kernel_rfl
theorem named : Tryz.prog.funcNamed Rows.topInvalidateRow.func = some 5 := by kernel_rfl
end Go.Proofs.YtphahhnenmipeaaGreatDoor.topInvalidate
