/- TopUncached: closed facts of its row, each by itself. -/
import Derived.Test.YtomboeilpmhheaaGreatDoorRows
import Derived.JoinedOf
import Derived.SevenTiedAt
import Derived.KernelRfl
namespace Go.Proofs.YtomboeilpmhheaaGreatDoor.topUncached
open Go
set_option maxRecDepth 100000
theorem k9 : (Rows.topUncachedRow.inPlace == Tryz.prog.inPlace 6) = true := by kernel_rfl
theorem k25 : (Tryz.prog.mayEnter) = true := by kernel_rfl
theorem k8 : (Tryz.prog.stopKnobs == []) = true := by kernel_rfl
theorem k5 : (Rows.topUncachedRow.stops == []) = true := by kernel_rfl
theorem k16 : (Rows.topUncachedRow.loops == (Tryz.f6.params.toList ++ Rows.topUncachedSpec.plain.varTypes Tryz.prog).any (Tryz.prog.loopsFrom ·)) = true := by kernel_rfl
theorem k21 : (Rows.topUncachedRow.loopsOut == Tryz.f6.resultTypes.toList.any (Tryz.prog.loopsFrom ·)) = true := by kernel_rfl
theorem mainIs : Tryz.prog.mainIs = some (((true, "5117795b8fe955a5aae29c046616c2cfd9daf9fa5e00472dfc946fba7a4a4321")).1, ((true, "5117795b8fe955a5aae29c046616c2cfd9daf9fa5e00472dfc946fba7a4a4321")).2.toList) := by kernel_rfl
end Go.Proofs.YtomboeilpmhheaaGreatDoor.topUncached
