/- TopSearch: closed facts of its row, each by itself. -/
import Derived.Test.YtphahhnenmipeaaGreatDoorRows
import Derived.JoinedOf
import Derived.SevenTiedAt
import Derived.KernelRfl
namespace Go.Proofs.YtphahhnenmipeaaGreatDoor.topSearch
open Go
set_option maxRecDepth 100000
theorem k9 : (Rows.topSearchRow.inPlace == Tryz.prog.inPlace 4) = true := by kernel_rfl
theorem k25 : (Tryz.prog.mayEnter) = true := by kernel_rfl
theorem k8 : (Tryz.prog.stopKnobs == []) = true := by kernel_rfl
theorem k5 : (Rows.topSearchRow.stops == []) = true := by kernel_rfl
theorem k16 : (Rows.topSearchRow.loops == (Tryz.f4.params.toList ++ Rows.topSearchSpec.plain.varTypes Tryz.prog).any (Tryz.prog.loopsFrom ·)) = true := by kernel_rfl
theorem k21 : (Rows.topSearchRow.loopsOut == Tryz.f4.resultTypes.toList.any (Tryz.prog.loopsFrom ·)) = true := by kernel_rfl
theorem mainIs : Tryz.prog.mainIs = some (((true, "494541a15be589393ea18393eac0fd6b2a5e3fe27caa3f4d37c4cac6e9a5ec8a")).1, ((true, "494541a15be589393ea18393eac0fd6b2a5e3fe27caa3f4d37c4cac6e9a5ec8a")).2.toList) := by kernel_rfl
end Go.Proofs.YtphahhnenmipeaaGreatDoor.topSearch
