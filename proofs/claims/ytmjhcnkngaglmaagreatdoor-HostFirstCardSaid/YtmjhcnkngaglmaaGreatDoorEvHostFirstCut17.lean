/- HostFirst: pieces of its runs, by the kernel. -/
import Derived.Test.YtmjhcnkngaglmaaGreatDoorEvHostFirstLit
import Derived.Test.YtmjhcnkngaglmaaGreatDoorEvHostFirstCut5
import Derived.Test.YtmjhcnkngaglmaaGreatDoorRows
import Derived.KernelRfl
namespace Go.Proofs.YtmjhcnkngaglmaaGreatDoor.hostFirst
open Go.YtmjhcnkngaglmaaGreatDoorEv
set_option maxRecDepth 100000
theorem t_c31 (W : World) : pieceOk (.ptr 125 0) l63 (runQ Tryz.prog (c30.or evOrc.orc) 1000000 (.call 7 [.slice 124 0 580 (.op 1)]) ⟨.nil, []⟩ (l62.st (G.map fun g => (W, g)))) = true := by kernel_rfl
theorem ok_c31 : OrcOk Tryz.prog c31 := orcCut_ok (by kernel_rfl) (OrcOk.or ok_c30 evOrc.orcOk) t_c31
end Go.Proofs.YtmjhcnkngaglmaaGreatDoor.hostFirst
