/- TopUncached: closed facts of its row, each by itself. -/
import Derived.Test.YtomboeilpmhheaaGreatDoorRows
import Derived.JoinedOf
import Derived.SevenTiedAt
import Derived.KernelRfl
namespace Go.Proofs.YtomboeilpmhheaaGreatDoor.topUncached
open Go
set_option maxRecDepth 100000
theorem k4 : (namedTie Tryz.prog Rows.topUncachedRow.named Rows.topUncachedSpec.vars) = true := by kernel_rfl
theorem k31 : (Rows.topUncachedRow.veiledFits Tryz.prog Tryz.f6.params.toList (Tryz.f6.params.toList ++ Rows.topUncachedSpec.plain.varTypes Tryz.prog ++ Tryz.f6.resultTypes.toList)) = true := by kernel_rfl
theorem k24 : (Tryz.prog.stopsHeard) = true := by kernel_rfl
theorem k13 : (Rows.topUncachedRow.maps == (Tryz.f6.params.toList ++ Rows.topUncachedSpec.plain.varTypes Tryz.prog).any (Tryz.prog.mapsRec ·)) = true := by kernel_rfl
theorem k18 : (Rows.topUncachedSpec.vars.all (Tryz.prog.varReadable ·)) = true := by kernel_rfl
theorem k27 : (Tryz.prog.make == some Rows.topUncachedRow.make) = true := by kernel_rfl
theorem named : Tryz.prog.funcNamed Rows.topUncachedRow.func = some 6 := by kernel_rfl
theorem goes : false = Rows.topUncachedRow.goesBy Tryz.prog := by kernel_rfl
end Go.Proofs.YtomboeilpmhheaaGreatDoor.topUncached
