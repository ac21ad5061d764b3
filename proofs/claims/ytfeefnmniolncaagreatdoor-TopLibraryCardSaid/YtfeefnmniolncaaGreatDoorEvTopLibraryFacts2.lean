/- TopLibrary: closed facts of its row, each by itself. -/
import Derived.Test.YtfeefnmniolncaaGreatDoorRows
import Derived.JoinedOf
import Derived.SevenTiedAt
import Derived.KernelRfl
namespace Go.Proofs.YtfeefnmniolncaaGreatDoor.topLibrary
open Go
set_option maxRecDepth 100000
theorem k9 : (Rows.topLibraryRow.inPlace == Tryz.prog.inPlace 5) = true := by kernel_rfl
theorem k25 : (Tryz.prog.mayEnter) = true := by kernel_rfl
theorem k8 : (Tryz.prog.stopKnobs == []) = true := by kernel_rfl
theorem k5 : (Rows.topLibraryRow.stops == []) = true := by kernel_rfl
theorem k16 : (Rows.topLibraryRow.loops == (Tryz.f5.params.toList ++ Rows.topLibrarySpec.plain.varTypes Tryz.prog).any (Tryz.prog.loopsFrom ·)) = true := by kernel_rfl
theorem k21 : (Rows.topLibraryRow.loopsOut == Tryz.f5.resultTypes.toList.any (Tryz.prog.loopsFrom ·)) = true := by kernel_rfl
theorem mainIs : Tryz.prog.mainIs = some (((true, "d229297b1c6ed309a3e7ea64dd45fed99470a72183ed370d53696bfa762cd048")).1, ((true, "d229297b1c6ed309a3e7ea64dd45fed99470a72183ed370d53696bfa762cd048")).2.toList) := by kernel_rfl
end Go.Proofs.YtfeefnmniolncaaGreatDoor.topLibrary
