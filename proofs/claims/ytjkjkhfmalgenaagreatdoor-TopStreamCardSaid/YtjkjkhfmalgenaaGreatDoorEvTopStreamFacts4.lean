/- TopStream: closed facts of its row, each by itself. -/
import Derived.Test.YtjkjkhfmalgenaaGreatDoorRows
import Derived.JoinedOf
import Derived.SevenTiedAt
import Derived.KernelRfl
namespace Go.Proofs.YtjkjkhfmalgenaaGreatDoor.topStream
open Go
set_option maxRecDepth 100000
theorem k4 : (namedTie Tryz.prog Rows.topStreamRow.named Rows.topStreamSpec.vars) = true := by kernel_rfl
theorem k31 : (Rows.topStreamRow.veiledFits Tryz.prog Tryz.f3.params.toList (Tryz.f3.params.toList ++ Rows.topStreamSpec.plain.varTypes Tryz.prog ++ Tryz.f3.resultTypes.toList)) = true := by kernel_rfl
theorem k24 : (Tryz.prog.stopsHeard) = true := by kernel_rfl
theorem k13 : (Rows.topStreamRow.maps == (Tryz.f3.params.toList ++ Rows.topStreamSpec.plain.varTypes Tryz.prog).any (Tryz.prog.mapsRec ·)) = true := by kernel_rfl
theorem k18 : (Rows.topStreamSpec.vars.all (Tryz.prog.varReadable ·)) = true := by kernel_rfl
theorem k27 : (Tryz.prog.make == some Rows.topStreamRow.make) = true := by kernel_rfl
theorem named : Tryz.prog.funcNamed Rows.topStreamRow.func = some 3 := by kernel_rfl
end Go.Proofs.YtjkjkhfmalgenaaGreatDoor.topStream
