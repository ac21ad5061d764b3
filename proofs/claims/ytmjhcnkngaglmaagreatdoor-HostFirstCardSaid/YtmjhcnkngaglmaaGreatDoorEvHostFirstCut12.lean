/- HostFirst: pieces of its runs, by the kernel. -/
import Derived.Test.YtmjhcnkngaglmaaGreatDoorEvHostFirstLit
import Derived.Test.YtmjhcnkngaglmaaGreatDoorEvHostFirstCut3
import Derived.Test.YtmjhcnkngaglmaaGreatDoorRows
import Derived.KernelRfl
namespace Go.Proofs.YtmjhcnkngaglmaaGreatDoor.hostFirst
open Go.YtmjhcnkngaglmaaGreatDoorEv
set_option maxRecDepth 100000
theorem t_c21 (W : World) : pieceOk (.ptr 115 0) l43 (runQ Tryz.prog (c20.or evOrc.orc) 1000000 (.call 7 [.slice 114 0 435 (.op 1)]) ⟨.nil, []⟩ (l42.st (G.map fun g => (W, g)))) = true := by kernel_rfl
theorem ok_c21 : OrcOk Tryz.prog c21 := orcCut_ok (by kernel_rfl) (OrcOk.or ok_c20 evOrc.orcOk) t_c21
end Go.Proofs.YtmjhcnkngaglmaaGreatDoor.hostFirst
