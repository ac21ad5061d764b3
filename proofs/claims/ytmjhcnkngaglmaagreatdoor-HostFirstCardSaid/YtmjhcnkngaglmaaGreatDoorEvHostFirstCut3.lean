/- HostFirst: pieces of its runs, by the kernel. -/
import Derived.Test.YtmjhcnkngaglmaaGreatDoorEvHostFirstLit
import Derived.Test.YtmjhcnkngaglmaaGreatDoorRows
import Derived.KernelRfl
namespace Go.Proofs.YtmjhcnkngaglmaaGreatDoor.hostFirst
open Go.YtmjhcnkngaglmaaGreatDoorEv
set_option maxRecDepth 100000
theorem t_c20 (W : World) : pieceOk (.slice 475 0 30 (.op 2)) l41 (runQ Tryz.prog evOrc.orc 1000000 (.call 23 [.slice 114 0 435 (.op 1)]) ⟨.nil, []⟩ (l40.st (G.map fun g => (W, g)))) = true := by kernel_rfl
theorem ok_c20 : OrcOk Tryz.prog c20 := orcCut_ok (by kernel_rfl) evOrc.orcOk t_c20
theorem t_c22 (W : World) : pieceOk (.slice 501 0 32 (.op 2)) l45 (runQ Tryz.prog evOrc.orc 1000000 (.call 23 [.slice 116 0 464 (.op 1)]) ⟨.nil, []⟩ (l44.st (G.map fun g => (W, g)))) = true := by kernel_rfl
theorem ok_c22 : OrcOk Tryz.prog c22 := orcCut_ok (by kernel_rfl) evOrc.orcOk t_c22
end Go.Proofs.YtmjhcnkngaglmaaGreatDoor.hostFirst
