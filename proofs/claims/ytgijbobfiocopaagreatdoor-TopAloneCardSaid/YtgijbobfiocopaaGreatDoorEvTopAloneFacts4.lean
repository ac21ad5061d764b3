/- TopAlone: closed facts of its row, each by itself. -/
import Derived.Test.YtgijbobfiocopaaGreatDoorRows
import Derived.JoinedOf
import Derived.SevenTiedAt
import Derived.KernelRfl
namespace Go.Proofs.YtgijbobfiocopaaGreatDoor.topAlone
open Go
set_option maxRecDepth 100000
theorem k4 : (namedTie Tryz.prog Rows.topAloneRow.named Rows.topAloneSpec.vars) = true := by kernel_rfl
theorem k31 : (Rows.topAloneRow.veiledFits Tryz.prog Tryz.f3.params.toList (Tryz.f3.params.toList ++ Rows.topAloneSpec.plain.varTypes Tryz.prog ++ Tryz.f3.resultTypes.toList)) = true := by kernel_rfl
theorem k24 : (Tryz.prog.stopsHeard) = true := by kernel_rfl
theorem k13 : (Rows.topAloneRow.maps == (Tryz.f3.params.toList ++ Rows.topAloneSpec.plain.varTypes Tryz.prog).any (Tryz.prog.mapsRec ·)) = true := by kernel_rfl
theorem k18 : (Rows.topAloneSpec.vars.all (Tryz.prog.varReadable ·)) = true := by kernel_rfl
theorem k27 : (Tryz.prog.make == some Rows.topAloneRow.make) = true := by kernel_rfl
theorem named : Tryz.prog.funcNamed Rows.topAloneRow.func = some 3 := by kernel_rfl
end Go.Proofs.YtgijbobfiocopaaGreatDoor.topAlone
