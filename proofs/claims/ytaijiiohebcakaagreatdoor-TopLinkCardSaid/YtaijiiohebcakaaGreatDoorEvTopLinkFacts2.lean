/- TopLink: closed facts of its row, each by itself. -/
import Derived.Test.YtaijiiohebcakaaGreatDoorRows
import Derived.JoinedOf
import Derived.SevenTiedAt
import Derived.KernelRfl
namespace Go.Proofs.YtaijiiohebcakaaGreatDoor.topLink
open Go
set_option maxRecDepth 100000
theorem k9 : (Rows.topLinkRow.inPlace == Tryz.prog.inPlace 4) = true := by kernel_rfl
theorem k25 : (Tryz.prog.mayEnter) = true := by kernel_rfl
theorem k8 : (Tryz.prog.stopKnobs == []) = true := by kernel_rfl
theorem k5 : (Rows.topLinkRow.stops == []) = true := by kernel_rfl
theorem k16 : (Rows.topLinkRow.loops == (Tryz.f4.params.toList ++ Rows.topLinkSpec.plain.varTypes Tryz.prog).any (Tryz.prog.loopsFrom ·)) = true := by kernel_rfl
theorem k21 : (Rows.topLinkRow.loopsOut == Tryz.f4.resultTypes.toList.any (Tryz.prog.loopsFrom ·)) = true := by kernel_rfl
theorem mainIs : Tryz.prog.mainIs = some (((true, "e1b5388b95bf278fc08d8b2ab98a105936bbb6b1813f3816cc9a7b7e705ff32b")).1, ((true, "e1b5388b95bf278fc08d8b2ab98a105936bbb6b1813f3816cc9a7b7e705ff32b")).2.toList) := by kernel_rfl
end Go.Proofs.YtaijiiohebcakaaGreatDoor.topLink
