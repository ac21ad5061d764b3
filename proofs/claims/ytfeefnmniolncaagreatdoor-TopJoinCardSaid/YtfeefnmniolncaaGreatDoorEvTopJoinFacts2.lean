/- TopJoin: closed facts of its row, each by itself. -/
import Derived.Test.YtfeefnmniolncaaGreatDoorRows
import Derived.JoinedOf
import Derived.SevenTiedAt
import Derived.KernelRfl
namespace Go.Proofs.YtfeefnmniolncaaGreatDoor.topJoin
open Go
set_option maxRecDepth 100000
theorem k9 : (Rows.topJoinRow.inPlace == Tryz.prog.inPlace 3) = true := by kernel_rfl
theorem k25 : (Tryz.prog.mayEnter) = true := by kernel_rfl
theorem k8 : (Tryz.prog.stopKnobs == []) = true := by kernel_rfl
theorem k5 : (Rows.topJoinRow.stops == []) = true := by kernel_rfl
theorem k16 : (Rows.topJoinRow.loops == (Tryz.f3.params.toList ++ Rows.topJoinSpec.plain.varTypes Tryz.prog).any (Tryz.prog.loopsFrom ·)) = true := by kernel_rfl
theorem k21 : (Rows.topJoinRow.loopsOut == Tryz.f3.resultTypes.toList.any (Tryz.prog.loopsFrom ·)) = true := by kernel_rfl
theorem mainIs : Tryz.prog.mainIs = some (((true, "d229297b1c6ed309a3e7ea64dd45fed99470a72183ed370d53696bfa762cd048")).1, ((true, "d229297b1c6ed309a3e7ea64dd45fed99470a72183ed370d53696bfa762cd048")).2.toList) := by kernel_rfl
end Go.Proofs.YtfeefnmniolncaaGreatDoor.topJoin
