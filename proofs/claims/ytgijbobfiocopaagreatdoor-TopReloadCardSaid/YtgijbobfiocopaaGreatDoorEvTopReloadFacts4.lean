/- TopReload: closed facts of its row, each by itself. -/
import Derived.Test.YtgijbobfiocopaaGreatDoorRows
import Derived.JoinedOf
import Derived.SevenTiedAt
import Derived.KernelRfl
namespace Go.Proofs.YtgijbobfiocopaaGreatDoor.topReload
open Go
set_option maxRecDepth 100000
theorem k4 : (namedTie Tryz.prog Rows.topReloadRow.named Rows.topReloadSpec.vars) = true := by kernel_rfl
theorem k31 : (Rows.topReloadRow.veiledFits Tryz.prog Tryz.f4.params.toList (Tryz.f4.params.toList ++ Rows.topReloadSpec.plain.varTypes Tryz.prog ++ Tryz.f4.resultTypes.toList)) = true := by kernel_rfl
theorem k24 : (Tryz.prog.stopsHeard) = true := by kernel_rfl
theorem k13 : (Rows.topReloadRow.maps == (Tryz.f4.params.toList ++ Rows.topReloadSpec.plain.varTypes Tryz.prog).any (Tryz.prog.mapsRec ·)) = true := by kernel_rfl
theorem k18 : (Rows.topReloadSpec.vars.all (Tryz.prog.varReadable ·)) = true := by kernel_rfl
theorem k27 : (Tryz.prog.make == some Rows.topReloadRow.make) = true := by kernel_rfl
theorem named : Tryz.prog.funcNamed Rows.topReloadRow.func = some 4 := by kernel_rfl
end Go.Proofs.YtgijbobfiocopaaGreatDoor.topReload
