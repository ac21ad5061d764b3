/- HostFirst: pieces of its runs, by the kernel. -/
import Derived.Test.YtmjhcnkngaglmaaGreatDoorEvHostFirstLit
import Derived.Test.YtmjhcnkngaglmaaGreatDoorEvHostFirstCut2
import Derived.Test.YtmjhcnkngaglmaaGreatDoorRows
import Derived.KernelRfl
namespace Go.Proofs.YtmjhcnkngaglmaaGreatDoor.hostFirst
open Go.YtmjhcnkngaglmaaGreatDoorEv
set_option maxRecDepth 100000
theorem t_c15 (W : World) : pieceOk (.ptr 109 0) l31 (runQ Tryz.prog (c14.or evOrc.orc) 1000000 (.call 7 [.slice 108 0 348 (.op 1)]) ⟨.nil, []⟩ (l30.st (G.map fun g => (W, g)))) = true := by kernel_rfl
theorem ok_c15 : OrcOk Tryz.prog c15 := orcCut_ok (by kernel_rfl) (OrcOk.or ok_c14 evOrc.orcOk) t_c15
end Go.Proofs.YtmjhcnkngaglmaaGreatDoor.hostFirst
