/- TopReloadPending: closed facts of its row, each by itself. -/
import Derived.Test.YtbdiajndgbnlcaaGreatDoorRows
import Derived.JoinedOf
import Derived.SevenTiedAt
import Derived.KernelRfl
namespace Go.Proofs.YtbdiajndgbnlcaaGreatDoor.topReloadPending
open Go
set_option maxRecDepth 100000
theorem k9 : (Rows.topReloadPendingRow.inPlace == Tryz.prog.inPlace 5) = true := by kernel_rfl
theorem k25 : (Tryz.prog.mayEnter) = true := by kernel_rfl
theorem k8 : (Tryz.prog.stopKnobs == []) = true := by kernel_rfl
theorem k5 : (Rows.topReloadPendingRow.stops == []) = true := by kernel_rfl
theorem k16 : (Rows.topReloadPendingRow.loops == (Tryz.f5.params.toList ++ Rows.topReloadPendingSpec.plain.varTypes Tryz.prog).any (Tryz.prog.loopsFrom ·)) = true := by kernel_rfl
theorem k21 : (Rows.topReloadPendingRow.loopsOut == Tryz.f5.resultTypes.toList.any (Tryz.prog.loopsFrom ·)) = true := by kernel_rfl
theorem mainIs : Tryz.prog.mainIs = some (((true, "a3f1e9d904f1adc63903cffe55b5c6a7686a06945e4c6426f1118214b0401d0b")).1, ((true, "a3f1e9d904f1adc63903cffe55b5c6a7686a06945e4c6426f1118214b0401d0b")).2.toList) := by kernel_rfl
end Go.Proofs.YtbdiajndgbnlcaaGreatDoor.topReloadPending
