/- HostFirst: pieces of its runs, by the kernel. -/
import Derived.Test.YtmjhcnkngaglmaaGreatDoorEvHostFirstLit
import Derived.Test.YtmjhcnkngaglmaaGreatDoorEvHostFirstCut4
import Derived.Test.YtmjhcnkngaglmaaGreatDoorRows
import Derived.KernelRfl
namespace Go.Proofs.YtmjhcnkngaglmaaGreatDoor.hostFirst
open Go.YtmjhcnkngaglmaaGreatDoorEv
set_option maxRecDepth 100000
theorem t_c27 (W : World) : pieceOk (.ptr 121 0) l55 (runQ Tryz.prog (c26.or evOrc.orc) 1000000 (.call 7 [.slice 120 0 522 (.op 1)]) ⟨.nil, []⟩ (l54.st (G.map fun g => (W, g)))) = true := by kernel_rfl
theorem ok_c27 : OrcOk Tryz.prog c27 := orcCut_ok (by kernel_rfl) (OrcOk.or ok_c26 evOrc.orcOk) t_c27
end Go.Proofs.YtmjhcnkngaglmaaGreatDoor.hostFirst
