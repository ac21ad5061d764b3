/- HostNothing: closed facts of its row, each by itself. -/
import Derived.Test.YtomboeilpmhheaaGreatDoorRows
import Derived.JoinedOf
import Derived.SevenTiedAt
import Derived.KernelRfl
namespace Go.Proofs.YtomboeilpmhheaaGreatDoor.hostNothing
open Go
set_option maxRecDepth 100000
theorem k4 : (namedTie Tryz.prog Rows.hostNothingRow.named Rows.hostNothingSpec.vars) = true := by kernel_rfl
theorem k31 : (Rows.hostNothingRow.veiledFits Tryz.prog Tryz.f3.params.toList (Tryz.f3.params.toList ++ Rows.hostNothingSpec.plain.varTypes Tryz.prog ++ Tryz.f3.resultTypes.toList)) = true := by kernel_rfl
theorem k24 : (Tryz.prog.stopsHeard) = true := by kernel_rfl
theorem k13 : (Rows.hostNothingRow.maps == (Tryz.f3.params.toList ++ Rows.hostNothingSpec.plain.varTypes Tryz.prog).any (Tryz.prog.mapsRec ·)) = true := by kernel_rfl
theorem k18 : (Rows.hostNothingSpec.vars.all (Tryz.prog.varReadable ·)) = true := by kernel_rfl
theorem k27 : (Tryz.prog.make == some Rows.hostNothingRow.make) = true := by kernel_rfl
theorem named : Tryz.prog.funcNamed Rows.hostNothingRow.func = some 3 := by kernel_rfl
theorem goes : false = Rows.hostNothingRow.goesBy Tryz.prog := by kernel_rfl
end Go.Proofs.YtomboeilpmhheaaGreatDoor.hostNothing
