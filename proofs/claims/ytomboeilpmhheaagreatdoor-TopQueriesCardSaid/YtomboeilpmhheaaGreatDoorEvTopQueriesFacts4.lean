/- TopQueries: closed facts of its row, each by itself. -/
import Derived.Test.YtomboeilpmhheaaGreatDoorRows
import Derived.JoinedOf
import Derived.SevenTiedAt
import Derived.KernelRfl
namespace Go.Proofs.YtomboeilpmhheaaGreatDoor.topQueries
open Go
set_option maxRecDepth 100000
theorem k4 : (namedTie Tryz.prog Rows.topQueriesRow.named Rows.topQueriesSpec.vars) = true := by kernel_rfl
theorem k31 : (Rows.topQueriesRow.veiledFits Tryz.prog Tryz.f4.params.toList (Tryz.f4.params.toList ++ Rows.topQueriesSpec.plain.varTypes Tryz.prog ++ Tryz.f4.resultTypes.toList)) = true := by kernel_rfl
theorem k24 : (Tryz.prog.stopsHeard) = true := by kernel_rfl
theorem k13 : (Rows.topQueriesRow.maps == (Tryz.f4.params.toList ++ Rows.topQueriesSpec.plain.varTypes Tryz.prog).any (Tryz.prog.mapsRec ·)) = true := by kernel_rfl
theorem k18 : (Rows.topQueriesSpec.vars.all (Tryz.prog.varReadable ·)) = true := by kernel_rfl
theorem k27 : (Tryz.prog.make == some Rows.topQueriesRow.make) = true := by kernel_rfl
theorem named : Tryz.prog.funcNamed Rows.topQueriesRow.func = some 4 := by kernel_rfl
theorem goes : false = Rows.topQueriesRow.goesBy Tryz.prog := by kernel_rfl
end Go.Proofs.YtomboeilpmhheaaGreatDoor.topQueries
