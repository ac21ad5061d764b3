/- HostFirst: pieces of its runs, by the kernel. -/
import Derived.Test.YtmjhcnkngaglmaaGreatDoorEvHostFirstLit
import Derived.Test.YtmjhcnkngaglmaaGreatDoorEvHostFirstCut2
import Derived.Test.YtmjhcnkngaglmaaGreatDoorRows
import Derived.KernelRfl
namespace Go.Proofs.YtmjhcnkngaglmaaGreatDoor.hostFirst
open Go.YtmjhcnkngaglmaaGreatDoorEv
set_option maxRecDepth 100000
theorem t_c19 (W : World) : pieceOk (.ptr 113 0) l39 (runQ Tryz.prog (c18.or evOrc.orc) 1000000 (.call 7 [.slice 112 0 406 (.op 1)]) ⟨.nil, []⟩ (l38.st (G.map fun g => (W, g)))) = true := by kernel_rfl
theorem ok_c19 : OrcOk Tryz.prog c19 := orcCut_ok (by kernel_rfl) (OrcOk.or ok_c18 evOrc.orcOk) t_c19
end Go.Proofs.YtmjhcnkngaglmaaGreatDoor.hostFirst
