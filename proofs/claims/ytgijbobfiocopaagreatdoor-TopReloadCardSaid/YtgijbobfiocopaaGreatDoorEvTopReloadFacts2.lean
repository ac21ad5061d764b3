/- TopReload: closed facts of its row, each by itself. -/
import Derived.Test.YtgijbobfiocopaaGreatDoorRows
import Derived.JoinedOf
import Derived.SevenTiedAt
import Derived.KernelRfl
namespace Go.Proofs.YtgijbobfiocopaaGreatDoor.topReload
open Go
set_option maxRecDepth 100000
theorem k9 : (Rows.topReloadRow.inPlace == Tryz.prog.inPlace 4) = true := by kernel_rfl
theorem k25 : (Tryz.prog.mayEnter) = true := by kernel_rfl
theorem k8 : (Tryz.prog.stopKnobs == []) = true := by kernel_rfl
theorem k5 : (Rows.topReloadRow.stops == []) = true := by kernel_rfl
theorem k16 : (Rows.topReloadRow.loops == (Tryz.f4.params.toList ++ Rows.topReloadSpec.plain.varTypes Tryz.prog).any (Tryz.prog.loopsFrom ·)) = true := by kernel_rfl
theorem k21 : (Rows.topReloadRow.loopsOut == Tryz.f4.resultTypes.toList.any (Tryz.prog.loopsFrom ·)) = true := by kernel_rfl
theorem mainIs : Tryz.prog.mainIs = some (((true, "80f597df5b2d6456a2c3a8955b72d5d94d4eb61ab297c08dc79efac5ff0b86b2")).1, ((true, "80f597df5b2d6456a2c3a8955b72d5d94d4eb61ab297c08dc79efac5ff0b86b2")).2.toList) := by kernel_rfl
end Go.Proofs.YtgijbobfiocopaaGreatDoor.topReload
