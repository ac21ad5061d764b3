/- TopRotate: closed facts of its row, each by itself. -/
import Derived.Test.YtphahhnenmipeaaGreatDoorRows
import Derived.JoinedOf
import Derived.SevenTiedAt
import Derived.KernelRfl
namespace Go.Proofs.YtphahhnenmipeaaGreatDoor.topRotate
open Go
set_option maxRecDepth 100000
theorem k4 : (namedTie Tryz.prog Rows.topRotateRow.named Rows.topRotateSpec.vars) = true := by kernel_rfl
theorem k31 : (Rows.topRotateRow.veiledFits Tryz.prog Tryz.f3.params.toList (Tryz.f3.params.toList ++ Rows.topRotateSpec.plain.varTypes Tryz.prog ++ Tryz.f3.resultTypes.toList)) = true := by kernel_rfl
theorem k24 : (Tryz.prog.stopsHeard) = true := by kernel_rfl
theorem k13 : (Rows.topRotateRow.maps == (Tryz.f3.params.toList ++ Rows.topRotateSpec.plain.varTypes Tryz.prog).any (Tryz.prog.mapsRec ·)) = true := by kernel_rfl
theorem k18 : (Rows.topRotateSpec.vars.all (Tryz.prog.varReadable ·)) = true := by kernel_rfl
theorem k27 : (Tryz.prog.make == some Rows.topRotateRow.make) = true := by kernel_rfl
theorem named : Tryz.prog.funcNamed Rows.topRotateRow.func = some 3 := by kernel_rfl
end Go.Proofs.YtphahhnenmipeaaGreatDoor.topRotate
