/- HostFirst: pieces of its runs, by the kernel. -/
import Derived.Test.YtmjhcnkngaglmaaGreatDoorEvHostFirstLit
import Derived.Test.YtmjhcnkngaglmaaGreatDoorEvHostFirstCut1
import Derived.Test.YtmjhcnkngaglmaaGreatDoorRows
import Derived.KernelRfl
namespace Go.Proofs.YtmjhcnkngaglmaaGreatDoor.hostFirst
open Go.YtmjhcnkngaglmaaGreatDoorEv
set_option maxRecDepth 100000
theorem t_c9 (W : World) : pieceOk (.ptr 103 0) l19 (runQ Tryz.prog (c8.or evOrc.orc) 1000000 (.call 7 [.slice 102 0 261 (.op 1)]) ⟨.nil, []⟩ (l18.st (G.map fun g => (W, g)))) = true := by kernel_rfl
theorem ok_c9 : OrcOk Tryz.prog c9 := orcCut_ok (by kernel_rfl) (OrcOk.or ok_c8 evOrc.orcOk) t_c9
theorem t_c11 (W : World) : pieceOk (.ptr 105 0) l23 (runQ Tryz.prog (c10.or evOrc.orc) 1000000 (.call 7 [.slice 104 0 290 (.op 1)]) ⟨.nil, []⟩ (l22.st (G.map fun g => (W, g)))) = true := by kernel_rfl
theorem ok_c11 : OrcOk Tryz.prog c11 := orcCut_ok (by kernel_rfl) (OrcOk.or ok_c10 evOrc.orcOk) t_c11
end Go.Proofs.YtmjhcnkngaglmaaGreatDoor.hostFirst
