/- TopLibrary: closed facts of its row, each by itself. -/
import Derived.Test.YtfeefnmniolncaaGreatDoorRows
import Derived.JoinedOf
import Derived.SevenTiedAt
import Derived.KernelRfl
namespace Go.Proofs.YtfeefnmniolncaaGreatDoor.topLibrary
open Go
set_option maxRecDepth 100000
theorem k4 : (namedTie Tryz.prog Rows.topLibraryRow.named Rows.topLibrarySpec.vars) = true := by kernel_rfl
theorem k31 : (Rows.topLibraryRow.veiledFits Tryz.prog Tryz.f5.params.toList (Tryz.f5.params.toList ++ Rows.topLibrarySpec.plain.varTypes Tryz.prog ++ Tryz.f5.resultTypes.toList)) = true := by kernel_rfl
theorem k24 : (Tryz.prog.stopsHeard) = true := by kernel_rfl
theorem k13 : (Rows.topLibraryRow.maps == (Tryz.f5.params.toList ++ Rows.topLibrarySpec.plain.varTypes Tryz.prog).any (Tryz.prog.mapsRec ·)) = true := by kernel_rfl
theorem k18 : (Rows.topLibrarySpec.vars.all (Tryz.prog.varReadable ·)) = true := by kernel_rfl
theorem k27 : (Tryz.prog.make == some Rows.topLibraryRow.make) = true := by kernel_rfl
theorem named : Tryz.prog.funcNamed Rows.topLibraryRow.func = some 5 := by kernel_rfl
end Go.Proofs.YtfeefnmniolncaaGreatDoor.topLibrary
