/- DaemonNone: closed facts of its row, each by itself. -/
import Derived.Test.YtamnfhbpjmmcbaaGreatDoorRows
import Derived.JoinedOf
import Derived.SevenTiedAt
import Derived.KernelRfl
namespace Go.Proofs.YtamnfhbpjmmcbaaGreatDoor.daemonNone
open Go
set_option maxRecDepth 100000
theorem k4 : (namedTie Tryz.prog Rows.daemonNoneRow.named Rows.daemonNoneSpec.vars) = true := by kernel_rfl
theorem k31 : (Rows.daemonNoneRow.veiledFits Tryz.prog Tryz.f3.params.toList (Tryz.f3.params.toList ++ Rows.daemonNoneSpec.plain.varTypes Tryz.prog ++ Tryz.f3.resultTypes.toList)) = true := by kernel_rfl
theorem k24 : (Tryz.prog.stopsHeard) = true := by kernel_rfl
theorem k13 : (Rows.daemonNoneRow.maps == (Tryz.f3.params.toList ++ Rows.daemonNoneSpec.plain.varTypes Tryz.prog).any (Tryz.prog.mapsRec ·)) = true := by kernel_rfl
theorem k18 : (Rows.daemonNoneSpec.vars.all (Tryz.prog.varReadable ·)) = true := by kernel_rfl
theorem k27 : (Tryz.prog.make == some Rows.daemonNoneRow.make) = true := by kernel_rfl
theorem named : Tryz.prog.funcNamed Rows.daemonNoneRow.func = some 3 := by kernel_rfl
end Go.Proofs.YtamnfhbpjmmcbaaGreatDoor.daemonNone
