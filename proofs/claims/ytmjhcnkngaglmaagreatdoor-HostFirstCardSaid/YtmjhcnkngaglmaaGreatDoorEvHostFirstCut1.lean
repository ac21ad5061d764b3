/- HostFirst: pieces of its runs, by the kernel. -/
import Derived.Test.YtmjhcnkngaglmaaGreatDoorEvHostFirstLit
import Derived.Test.YtmjhcnkngaglmaaGreatDoorRows
import Derived.KernelRfl
namespace Go.Proofs.YtmjhcnkngaglmaaGreatDoor.hostFirst
open Go.YtmjhcnkngaglmaaGreatDoorEv
set_option maxRecDepth 100000
theorem t_c6 (W : World) : pieceOk (.slice 293 0 16 (.op 2)) l13 (runQ Tryz.prog evOrc.orc 1000000 (.call 23 [.slice 100 0 232 (.op 1)]) ⟨.nil, []⟩ (l12.st (G.map fun g => (W, g)))) = true := by kernel_rfl
theorem ok_c6 : OrcOk Tryz.prog c6 := orcCut_ok (by kernel_rfl) evOrc.orcOk t_c6
theorem t_c8 (W : World) : pieceOk (.slice 319 0 18 (.op 2)) l17 (runQ Tryz.prog evOrc.orc 1000000 (.call 23 [.slice 102 0 261 (.op 1)]) ⟨.nil, []⟩ (l16.st (G.map fun g => (W, g)))) = true := by kernel_rfl
theorem ok_c8 : OrcOk Tryz.prog c8 := orcCut_ok (by kernel_rfl) evOrc.orcOk t_c8
theorem t_c10 (W : World) : pieceOk (.slice 345 0 20 (.op 2)) l21 (runQ Tryz.prog evOrc.orc 1000000 (.call 23 [.slice 104 0 290 (.op 1)]) ⟨.nil, []⟩ (l20.st (G.map fun g => (W, g)))) = true := by kernel_rfl
theorem ok_c10 : OrcOk Tryz.prog c10 := orcCut_ok (by kernel_rfl) evOrc.orcOk t_c10
theorem t_c12 (W : World) : pieceOk (.slice 371 0 22 (.op 2)) l25 (runQ Tryz.prog evOrc.orc 1000000 (.call 23 [.slice 106 0 319 (.op 1)]) ⟨.nil, []⟩ (l24.st (G.map fun g => (W, g)))) = true := by kernel_rfl
theorem ok_c12 : OrcOk Tryz.prog c12 := orcCut_ok (by kernel_rfl) evOrc.orcOk t_c12
end Go.Proofs.YtmjhcnkngaglmaaGreatDoor.hostFirst
