/- TopLost: closed facts of its row, each by itself. -/
import Derived.Test.YtomboeilpmhheaaGreatDoorRows
import Derived.JoinedOf
import Derived.SevenTiedAt
import Derived.KernelRfl
namespace Go.Proofs.YtomboeilpmhheaaGreatDoor.topLost
open Go
set_option maxRecDepth 100000
theorem k4 : (namedTie Tryz.prog Rows.topLostRow.named Rows.topLostSpec.vars) = true := by kernel_rfl
theorem k31 : (Rows.topLostRow.veiledFits Tryz.prog Tryz.f5.params.toList (Tryz.f5.params.toList ++ Rows.topLostSpec.plain.varTypes Tryz.prog ++ Tryz.f5.resultTypes.toList)) = true := by kernel_rfl
theorem k24 : (Tryz.prog.stopsHeard) = true := by kernel_rfl
theorem k13 : (Rows.topLostRow.maps == (Tryz.f5.params.toList ++ Rows.topLostSpec.plain.varTypes Tryz.prog).any (Tryz.prog.mapsRec ·)) = true := by kernel_rfl
theorem k18 : (Rows.topLostSpec.vars.all (Tryz.prog.varReadable ·)) = true := by kernel_rfl
theorem k27 : (Tryz.prog.make == some Rows.topLostRow.make) = true := by kernel_rfl
theorem named : Tryz.prog.funcNamed Rows.topLostRow.func = some 5 := by kernel_rfl
theorem goes : false = Rows.topLostRow.goesBy Tryz.prog := by kernel_rfl
end Go.Proofs.YtomboeilpmhheaaGreatDoor.topLost
