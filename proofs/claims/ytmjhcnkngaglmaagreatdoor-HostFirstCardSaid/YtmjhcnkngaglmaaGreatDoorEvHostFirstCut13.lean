/- HostFirst: pieces of its runs, by the kernel. -/
import Derived.Test.YtmjhcnkngaglmaaGreatDoorEvHostFirstLit
import Derived.Test.YtmjhcnkngaglmaaGreatDoorEvHostFirstCut3
import Derived.Test.YtmjhcnkngaglmaaGreatDoorRows
import Derived.KernelRfl
namespace Go.Proofs.YtmjhcnkngaglmaaGreatDoor.hostFirst
open Go.YtmjhcnkngaglmaaGreatDoorEv
set_option maxRecDepth 100000
theorem t_c23 (W : World) : pieceOk (.ptr 117 0) l47 (runQ Tryz.prog (c22.or evOrc.orc) 1000000 (.call 7 [.slice 116 0 464 (.op 1)]) ⟨.nil, []⟩ (l46.st (G.map fun g => (W, g)))) = true := by kernel_rfl
theorem ok_c23 : OrcOk Tryz.prog c23 := orcCut_ok (by kernel_rfl) (OrcOk.or ok_c22 evOrc.orcOk) t_c23
end Go.Proofs.YtmjhcnkngaglmaaGreatDoor.hostFirst
