/- HostFirst: pieces of its runs, by the kernel. -/
import Derived.Test.YtmjhcnkngaglmaaGreatDoorEvHostFirstLit
import Derived.Test.YtmjhcnkngaglmaaGreatDoorEvHostFirstCut0
import Derived.Test.YtmjhcnkngaglmaaGreatDoorEvHostFirstCut1
import Derived.Test.YtmjhcnkngaglmaaGreatDoorRows
import Derived.KernelRfl
namespace Go.Proofs.YtmjhcnkngaglmaaGreatDoor.hostFirst
open Go.YtmjhcnkngaglmaaGreatDoorEv
set_option maxRecDepth 100000
theorem t_c3 (W : World) : pieceOk (.ptr 97 0) l7 (runQ Tryz.prog (c2.or evOrc.orc) 1000000 (.call 7 [.slice 96 0 174 (.op 1)]) ⟨.nil, []⟩ (l6.st (G.map fun g => (W, g)))) = true := by kernel_rfl
theorem ok_c3 : OrcOk Tryz.prog c3 := orcCut_ok (by kernel_rfl) (OrcOk.or ok_c2 evOrc.orcOk) t_c3
theorem t_c5 (W : World) : pieceOk (.ptr 99 0) l11 (runQ Tryz.prog (c4.or evOrc.orc) 1000000 (.call 7 [.slice 98 0 203 (.op 1)]) ⟨.nil, []⟩ (l10.st (G.map fun g => (W, g)))) = true := by kernel_rfl
theorem ok_c5 : OrcOk Tryz.prog c5 := orcCut_ok (by kernel_rfl) (OrcOk.or ok_c4 evOrc.orcOk) t_c5
theorem t_c7 (W : World) : pieceOk (.ptr 101 0) l15 (runQ Tryz.prog (c6.or evOrc.orc) 1000000 (.call 7 [.slice 100 0 232 (.op 1)]) ⟨.nil, []⟩ (l14.st (G.map fun g => (W, g)))) = true := by kernel_rfl
theorem ok_c7 : OrcOk Tryz.prog c7 := orcCut_ok (by kernel_rfl) (OrcOk.or ok_c6 evOrc.orcOk) t_c7
end Go.Proofs.YtmjhcnkngaglmaaGreatDoor.hostFirst
