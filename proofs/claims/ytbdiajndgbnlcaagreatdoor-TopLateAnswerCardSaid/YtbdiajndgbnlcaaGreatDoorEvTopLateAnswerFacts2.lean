/- TopLateAnswer: closed facts of its row, each by itself. -/
import Derived.Test.YtbdiajndgbnlcaaGreatDoorRows
import Derived.JoinedOf
import Derived.SevenTiedAt
import Derived.KernelRfl
namespace Go.Proofs.YtbdiajndgbnlcaaGreatDoor.topLateAnswer
open Go
set_option maxRecDepth 100000
theorem k9 : (Rows.topLateAnswerRow.inPlace == Tryz.prog.inPlace 3) = true := by kernel_rfl
theorem k25 : (Tryz.prog.mayEnter) = true := by kernel_rfl
theorem k8 : (Tryz.prog.stopKnobs == []) = true := by kernel_rfl
theorem k5 : (Rows.topLateAnswerRow.stops == []) = true := by kernel_rfl
theorem k16 : (Rows.topLateAnswerRow.loops == (Tryz.f3.params.toList ++ Rows.topLateAnswerSpec.plain.varTypes Tryz.prog).any (Tryz.prog.loopsFrom ·)) = true := by kernel_rfl
theorem k21 : (Rows.topLateAnswerRow.loopsOut == Tryz.f3.resultTypes.toList.any (Tryz.prog.loopsFrom ·)) = true := by kernel_rfl
theorem mainIs : Tryz.prog.mainIs = some (((true, "a3f1e9d904f1adc63903cffe55b5c6a7686a06945e4c6426f1118214b0401d0b")).1, ((true, "a3f1e9d904f1adc63903cffe55b5c6a7686a06945e4c6426f1118214b0401d0b")).2.toList) := by kernel_rfl
end Go.Proofs.YtbdiajndgbnlcaaGreatDoor.topLateAnswer
