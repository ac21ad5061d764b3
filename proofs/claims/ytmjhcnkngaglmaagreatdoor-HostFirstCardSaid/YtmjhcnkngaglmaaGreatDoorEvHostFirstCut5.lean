/- HostFirst: pieces of its runs, by the kernel. -/
import Derived.Test.YtmjhcnkngaglmaaGreatDoorEvHostFirstLit
import Derived.Test.YtmjhcnkngaglmaaGreatDoorRows
import Derived.KernelRfl
namespace Go.Proofs.YtmjhcnkngaglmaaGreatDoor.hostFirst
open Go.YtmjhcnkngaglmaaGreatDoorEv
set_option maxRecDepth 100000
theorem t_c28 (W : World) : pieceOk (.slice 579 0 38 (.op 2)) l57 (runQ Tryz.prog evOrc.orc 1000000 (.call 23 [.slice 122 0 551 (.op 1)]) ⟨.nil, []⟩ (l56.st (G.map fun g => (W, g)))) = true := by kernel_rfl
theorem ok_c28 : OrcOk Tryz.prog c28 := orcCut_ok (by kernel_rfl) evOrc.orcOk t_c28
theorem t_c30 (W : World) : pieceOk (.slice 605 0 40 (.op 2)) l61 (runQ Tryz.prog evOrc.orc 1000000 (.call 23 [.slice 124 0 580 (.op 1)]) ⟨.nil, []⟩ (l60.st (G.map fun g => (W, g)))) = true := by kernel_rfl
theorem ok_c30 : OrcOk Tryz.prog c30 := orcCut_ok (by kernel_rfl) evOrc.orcOk t_c30
end Go.Proofs.YtmjhcnkngaglmaaGreatDoor.hostFirst
