/- HostFirst: pieces of its runs, by the kernel. -/
import Derived.Test.YtmjhcnkngaglmaaGreatDoorEvHostFirstLit
import Derived.Test.YtmjhcnkngaglmaaGreatDoorEvHostFirstCut2
import Derived.Test.YtmjhcnkngaglmaaGreatDoorRows
import Derived.KernelRfl
namespace Go.Proofs.YtmjhcnkngaglmaaGreatDoor.hostFirst
open Go.YtmjhcnkngaglmaaGreatDoorEv
set_option maxRecDepth 100000
theorem t_c17 (W : World) : pieceOk (.ptr 111 0) l35 (runQ Tryz.prog (c16.or evOrc.orc) 1000000 (.call 7 [.slice 110 0 377 (.op 1)]) ⟨.nil, []⟩ (l34.st (G.map fun g => (W, g)))) = true := by kernel_rfl
theorem ok_c17 : OrcOk Tryz.prog c17 := orcCut_ok (by kernel_rfl) (OrcOk.or ok_c16 evOrc.orcOk) t_c17
end Go.Proofs.YtmjhcnkngaglmaaGreatDoor.hostFirst
