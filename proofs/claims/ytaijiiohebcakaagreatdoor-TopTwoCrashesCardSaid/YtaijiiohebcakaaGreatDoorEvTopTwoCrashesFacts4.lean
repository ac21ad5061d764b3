/- TopTwoCrashes: closed facts of its row, each by itself. -/
import Derived.Test.YtaijiiohebcakaaGreatDoorRows
import Derived.JoinedOf
import Derived.SevenTiedAt
import Derived.KernelRfl
namespace Go.Proofs.YtaijiiohebcakaaGreatDoor.topTwoCrashes
open Go
set_option maxRecDepth 100000
theorem k4 : (namedTie Tryz.prog Rows.topTwoCrashesRow.named Rows.topTwoCrashesSpec.vars) = true := by kernel_rfl
theorem k31 : (Rows.topTwoCrashesRow.veiledFits Tryz.prog Tryz.f5.params.toList (Tryz.f5.params.toList ++ Rows.topTwoCrashesSpec.plain.varTypes Tryz.prog ++ Tryz.f5.resultTypes.toList)) = true := by kernel_rfl
theorem k24 : (Tryz.prog.stopsHeard) = true := by kernel_rfl
theorem k13 : (Rows.topTwoCrashesRow.maps == (Tryz.f5.params.toList ++ Rows.topTwoCrashesSpec.plain.varTypes Tryz.prog).any (Tryz.prog.mapsRec ·)) = true := by kernel_rfl
theorem k18 : (Rows.topTwoCrashesSpec.vars.all (Tryz.prog.varReadable ·)) = true := by kernel_rfl
theorem k27 : (Tryz.prog.make == some Rows.topTwoCrashesRow.make) = true := by kernel_rfl
theorem named : Tryz.prog.funcNamed Rows.topTwoCrashesRow.func = some 5 := by kernel_rfl
end Go.Proofs.YtaijiiohebcakaaGreatDoor.topTwoCrashes
