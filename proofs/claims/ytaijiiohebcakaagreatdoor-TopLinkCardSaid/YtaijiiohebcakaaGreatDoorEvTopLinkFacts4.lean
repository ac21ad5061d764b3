/- TopLink: closed facts of its row, each by itself. -/
import Derived.Test.YtaijiiohebcakaaGreatDoorRows
import Derived.JoinedOf
import Derived.SevenTiedAt
import Derived.KernelRfl
namespace Go.Proofs.YtaijiiohebcakaaGreatDoor.topLink
open Go
set_option maxRecDepth 100000
theorem k4 : (namedTie Tryz.prog Rows.topLinkRow.named Rows.topLinkSpec.vars) = true := by kernel_rfl
theorem k31 : (Rows.topLinkRow.veiledFits Tryz.prog Tryz.f4.params.toList (Tryz.f4.params.toList ++ Rows.topLinkSpec.plain.varTypes Tryz.prog ++ Tryz.f4.resultTypes.toList)) = true := by kernel_rfl
theorem k24 : (Tryz.prog.stopsHeard) = true := by kernel_rfl
theorem k13 : (Rows.topLinkRow.maps == (Tryz.f4.params.toList ++ Rows.topLinkSpec.plain.varTypes Tryz.prog).any (Tryz.prog.mapsRec ·)) = true := by kernel_rfl
theorem k18 : (Rows.topLinkSpec.vars.all (Tryz.prog.varReadable ·)) = true := by kernel_rfl
theorem k27 : (Tryz.prog.make == some Rows.topLinkRow.make) = true := by kernel_rfl
theorem named : Tryz.prog.funcNamed Rows.topLinkRow.func = some 4 := by kernel_rfl
end Go.Proofs.YtaijiiohebcakaaGreatDoor.topLink
