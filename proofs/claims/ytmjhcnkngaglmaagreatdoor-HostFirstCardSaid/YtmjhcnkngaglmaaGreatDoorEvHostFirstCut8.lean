/- HostFirst: pieces of its runs, by the kernel. -/
import Derived.Test.YtmjhcnkngaglmaaGreatDoorEvHostFirstLit
import Derived.Test.YtmjhcnkngaglmaaGreatDoorEvHostFirstCut1
import Derived.Test.YtmjhcnkngaglmaaGreatDoorRows
import Derived.KernelRfl
namespace Go.Proofs.YtmjhcnkngaglmaaGreatDoor.hostFirst
open Go.YtmjhcnkngaglmaaGreatDoorEv
set_option maxRecDepth 100000
theorem t_c13 (W : World) : pieceOk (.ptr 107 0) l27 (runQ Tryz.prog (c12.or evOrc.orc) 1000000 (.call 7 [.slice 106 0 319 (.op 1)]) ⟨.nil, []⟩ (l26.st (G.map fun g => (W, g)))) = true := by kernel_rfl
theorem ok_c13 : OrcOk Tryz.prog c13 := orcCut_ok (by kernel_rfl) (OrcOk.or ok_c12 evOrc.orcOk) t_c13
end Go.Proofs.YtmjhcnkngaglmaaGreatDoor.hostFirst
