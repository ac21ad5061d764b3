/- HostFirst: pieces of its runs, by the kernel. -/
import Derived.Test.YtmjhcnkngaglmaaGreatDoorEvHostFirstLit
import Derived.Test.YtmjhcnkngaglmaaGreatDoorEvHostFirstCut5
import Derived.Test.YtmjhcnkngaglmaaGreatDoorRows
import Derived.KernelRfl
namespace Go.Proofs.YtmjhcnkngaglmaaGreatDoor.hostFirst
open Go.YtmjhcnkngaglmaaGreatDoorEv
set_option maxRecDepth 100000
theorem t_c29 (W : World) : pieceOk (.ptr 123 0) l59 (runQ Tryz.prog (c28.or evOrc.orc) 1000000 (.call 7 [.slice 122 0 551 (.op 1)]) ⟨.nil, []⟩ (l58.st (G.map fun g => (W, g)))) = true := by kernel_rfl
theorem ok_c29 : OrcOk Tryz.prog c29 := orcCut_ok (by kernel_rfl) (OrcOk.or ok_c28 evOrc.orcOk) t_c29
end Go.Proofs.YtmjhcnkngaglmaaGreatDoor.hostFirst
