/- HostFirst: pieces of its runs, by the kernel. -/
import Derived.Test.YtmjhcnkngaglmaaGreatDoorEvHostFirstLit
import Derived.Test.YtmjhcnkngaglmaaGreatDoorEvHostFirstCut4
import Derived.Test.YtmjhcnkngaglmaaGreatDoorRows
import Derived.KernelRfl
namespace Go.Proofs.YtmjhcnkngaglmaaGreatDoor.hostFirst
open Go.YtmjhcnkngaglmaaGreatDoorEv
set_option maxRecDepth 100000
theorem t_c25 (W : World) : pieceOk (.ptr 119 0) l51 (runQ Tryz.prog (c24.or evOrc.orc) 1000000 (.call 7 [.slice 118 0 493 (.op 1)]) ⟨.nil, []⟩ (l50.st (G.map fun g => (W, g)))) = true := by kernel_rfl
theorem ok_c25 : OrcOk Tryz.prog c25 := orcCut_ok (by kernel_rfl) (OrcOk.or ok_c24 evOrc.orcOk) t_c25
end Go.Proofs.YtmjhcnkngaglmaaGreatDoor.hostFirst
