/- TopAlone: closed facts of its row, each by itself. -/
import Derived.Test.YtgijbobfiocopaaGreatDoorRows
import Derived.JoinedOf
import Derived.SevenTiedAt
import Derived.KernelRfl
namespace Go.Proofs.YtgijbobfiocopaaGreatDoor.topAlone
open Go
set_option maxRecDepth 100000
theorem k9 : (Rows.topAloneRow.inPlace == Tryz.prog.inPlace 3) = true := by kernel_rfl
theorem k25 : (Tryz.prog.mayEnter) = true := by kernel_rfl
theorem k8 : (Tryz.prog.stopKnobs == []) = true := by kernel_rfl
theorem k5 : (Rows.topAloneRow.stops == []) = true := by kernel_rfl
theorem k16 : (Rows.topAloneRow.loops == (Tryz.f3.params.toList ++ Rows.topAloneSpec.plain.varTypes Tryz.prog).any (Tryz.prog.loopsFrom ·)) = true := by kernel_rfl
theorem k21 : (Rows.topAloneRow.loopsOut == Tryz.f3.resultTypes.toList.any (Tryz.prog.loopsFrom ·)) = true := by kernel_rfl
theorem mainIs : Tryz.prog.mainIs = some (((true, "80f597df5b2d6456a2c3a8955b72d5d94d4eb61ab297c08dc79efac5ff0b86b2")).1, ((true, "80f597df5b2d6456a2c3a8955b72d5d94d4eb61ab297c08dc79efac5ff0b86b2")).2.toList) := by kernel_rfl
end Go.Proofs.YtgijbobfiocopaaGreatDoor.topAlone
