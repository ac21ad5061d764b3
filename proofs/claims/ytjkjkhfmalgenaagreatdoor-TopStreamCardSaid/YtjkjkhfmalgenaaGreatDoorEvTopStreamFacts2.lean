/- TopStream: closed facts of its row, each by itself. -/
import Derived.Test.YtjkjkhfmalgenaaGreatDoorRows
import Derived.JoinedOf
import Derived.SevenTiedAt
import Derived.KernelRfl
namespace Go.Proofs.YtjkjkhfmalgenaaGreatDoor.topStream
open Go
set_option maxRecDepth 100000
theorem k9 : (Rows.topStreamRow.inPlace == Tryz.prog.inPlace 3) = true := by kernel_rfl
theorem k25 : (Tryz.prog.mayEnter) = true := by kernel_rfl
theorem k8 : (Tryz.prog.stopKnobs == []) = true := by kernel_rfl
theorem k5 : (Rows.topStreamRow.stops == []) = true := by kernel_rfl
theorem k16 : (Rows.topStreamRow.loops == (Tryz.f3.params.toList ++ Rows.topStreamSpec.plain.varTypes Tryz.prog).any (Tryz.prog.loopsFrom ·)) = true := by kernel_rfl
theorem k21 : (Rows.topStreamRow.loopsOut == Tryz.f3.resultTypes.toList.any (Tryz.prog.loopsFrom ·)) = true := by kernel_rfl
theorem mainIs : Tryz.prog.mainIs = some (((true, "9eb9e97bbc1d87a725d7132231f90c4d85c4d0f2ce1d441b80541ab83aa03a95")).1, ((true, "9eb9e97bbc1d87a725d7132231f90c4d85c4d0f2ce1d441b80541ab83aa03a95")).2.toList) := by kernel_rfl
end Go.Proofs.YtjkjkhfmalgenaaGreatDoor.topStream
