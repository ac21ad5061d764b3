/- HostFirst: pieces of its runs, by the kernel. -/
import Derived.Test.YtmjhcnkngaglmaaGreatDoorEvHostFirstLit
import Derived.Test.YtmjhcnkngaglmaaGreatDoorRows
import Derived.KernelRfl
namespace Go.Proofs.YtmjhcnkngaglmaaGreatDoor.hostFirst
open Go.YtmjhcnkngaglmaaGreatDoorEv
set_option maxRecDepth 100000
theorem t_c24 (W : World) : pieceOk (.slice 527 0 34 (.op 2)) l49 (runQ Tryz.prog evOrc.orc 1000000 (.call 23 [.slice 118 0 493 (.op 1)]) ⟨.nil, []⟩ (l48.st (G.map fun g => (W, g)))) = true := by kernel_rfl
theorem ok_c24 : OrcOk Tryz.prog c24 := orcCut_ok (by kernel_rfl) evOrc.orcOk t_c24
theorem t_c26 (W : World) : pieceOk (.slice 553 0 36 (.op 2)) l53 (runQ Tryz.prog evOrc.orc 1000000 (.call 23 [.slice 120 0 522 (.op 1)]) ⟨.nil, []⟩ (l52.st (G.map fun g => (W, g)))) = true := by kernel_rfl
theorem ok_c26 : OrcOk Tryz.prog c26 := orcCut_ok (by kernel_rfl) evOrc.orcOk t_c26
end Go.Proofs.YtmjhcnkngaglmaaGreatDoor.hostFirst
