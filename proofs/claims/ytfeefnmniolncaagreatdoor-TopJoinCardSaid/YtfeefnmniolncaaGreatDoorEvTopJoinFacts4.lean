/- TopJoin: closed facts of its row, each by itself. -/
import Derived.Test.YtfeefnmniolncaaGreatDoorRows
import Derived.JoinedOf
import Derived.SevenTiedAt
import Derived.KernelRfl
namespace Go.Proofs.YtfeefnmniolncaaGreatDoor.topJoin
open Go
set_option maxRecDepth 100000
theorem k4 : (namedTie Tryz.prog Rows.topJoinRow.named Rows.topJoinSpec.vars) = true := by kernel_rfl
theorem k31 : (Rows.topJoinRow.veiledFits Tryz.prog Tryz.f3.params.toList (Tryz.f3.params.toList ++ Rows.topJoinSpec.plain.varTypes Tryz.prog ++ Tryz.f3.resultTypes.toList)) = true := by kernel_rfl
theorem k24 : (Tryz.prog.stopsHeard) = true := by kernel_rfl
theorem k13 : (Rows.topJoinRow.maps == (Tryz.f3.params.toList ++ Rows.topJoinSpec.plain.varTypes Tryz.prog).any (Tryz.prog.mapsRec ·)) = true := by kernel_rfl
theorem k18 : (Rows.topJoinSpec.vars.all (Tryz.prog.varReadable ·)) = true := by kernel_rfl
theorem k27 : (Tryz.prog.make == some Rows.topJoinRow.make) = true := by kernel_rfl
theorem named : Tryz.prog.funcNamed Rows.topJoinRow.func = some 3 := by kernel_rfl
end Go.Proofs.YtfeefnmniolncaaGreatDoor.topJoin
