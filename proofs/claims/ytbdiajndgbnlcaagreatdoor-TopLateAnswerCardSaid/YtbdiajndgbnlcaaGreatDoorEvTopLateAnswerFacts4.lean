/- TopLateAnswer: closed facts of its row, each by itself. -/
import Derived.Test.YtbdiajndgbnlcaaGreatDoorRows
import Derived.JoinedOf
import Derived.SevenTiedAt
import Derived.KernelRfl
namespace Go.Proofs.YtbdiajndgbnlcaaGreatDoor.topLateAnswer
open Go
set_option maxRecDepth 100000
theorem k4 : (namedTie Tryz.prog Rows.topLateAnswerRow.named Rows.topLateAnswerSpec.vars) = true := by kernel_rfl
theorem k31 : (Rows.topLateAnswerRow.veiledFits Tryz.prog Tryz.f3.params.toList (Tryz.f3.params.toList ++ Rows.topLateAnswerSpec.plain.varTypes Tryz.prog ++ Tryz.f3.resultTypes.toList)) = true := by kernel_rfl
theorem k24 : (Tryz.prog.stopsHeard) = true := by kernel_rfl
theorem k13 : (Rows.topLateAnswerRow.maps == (Tryz.f3.params.toList ++ Rows.topLateAnswerSpec.plain.varTypes Tryz.prog).any (Tryz.prog.mapsRec ·)) = true := by kernel_rfl
theorem k18 : (Rows.topLateAnswerSpec.vars.all (Tryz.prog.varReadable ·)) = true := by kernel_rfl
theorem k27 : (Tryz.prog.make == some Rows.topLateAnswerRow.make) = true := by kernel_rfl
theorem named : Tryz.prog.funcNamed Rows.topLateAnswerRow.func = some 3 := by kernel_rfl
end Go.Proofs.YtbdiajndgbnlcaaGreatDoor.topLateAnswer
