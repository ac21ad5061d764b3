/- DaemonNone: closed facts of its row, each by itself. -/
import Derived.Test.YtamnfhbpjmmcbaaGreatDoorRows
import Derived.JoinedOf
import Derived.SevenTiedAt
import Derived.KernelRfl
namespace Go.Proofs.YtamnfhbpjmmcbaaGreatDoor.daemonNone
open Go
set_option maxRecDepth 100000
theorem k9 : (Rows.daemonNoneRow.inPlace == Tryz.prog.inPlace 3) = true := by kernel_rfl
theorem k25 : (Tryz.prog.mayEnter) = true := by kernel_rfl
theorem k8 : (Tryz.prog.stopKnobs == []) = true := by kernel_rfl
theorem k5 : (Rows.daemonNoneRow.stops == []) = true := by kernel_rfl
theorem k16 : (Rows.daemonNoneRow.loops == (Tryz.f3.params.toList ++ Rows.daemonNoneSpec.plain.varTypes Tryz.prog).any (Tryz.prog.loopsFrom ·)) = true := by kernel_rfl
theorem k21 : (Rows.daemonNoneRow.loopsOut == Tryz.f3.resultTypes.toList.any (Tryz.prog.loopsFrom ·)) = true := by kernel_rfl
theorem mainIs : Tryz.prog.mainIs = some (((true, "1aa6b97daf4a8432711160d840e1489b5d88df593ab803889edb24897f9617cd")).1, ((true, "1aa6b97daf4a8432711160d840e1489b5d88df593ab803889edb24897f9617cd")).2.toList) := by kernel_rfl
end Go.Proofs.YtamnfhbpjmmcbaaGreatDoor.daemonNone
