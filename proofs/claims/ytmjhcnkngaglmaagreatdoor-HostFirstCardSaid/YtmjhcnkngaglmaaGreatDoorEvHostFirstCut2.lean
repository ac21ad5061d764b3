/- HostFirst: pieces of its runs, by the kernel. -/
import Derived.Test.YtmjhcnkngaglmaaGreatDoorEvHostFirstLit
import Derived.Test.YtmjhcnkngaglmaaGreatDoorRows
import Derived.KernelRfl
namespace Go.Proofs.YtmjhcnkngaglmaaGreatDoor.hostFirst
open Go.YtmjhcnkngaglmaaGreatDoorEv
set_option maxRecDepth 100000
theorem t_c14 (W : World) : pieceOk (.slice 397 0 24 (.op 2)) l29 (runQ Tryz.prog evOrc.orc 1000000 (.call 23 [.slice 108 0 348 (.op 1)]) ⟨.nil, []⟩ (l28.st (G.map fun g => (W, g)))) = true := by kernel_rfl
theorem ok_c14 : OrcOk Tryz.prog c14 := orcCut_ok (by kernel_rfl) evOrc.orcOk t_c14
theorem t_c16 (W : World) : pieceOk (.slice 423 0 26 (.op 2)) l33 (runQ Tryz.prog evOrc.orc 1000000 (.call 23 [.slice 110 0 377 (.op 1)]) ⟨.nil, []⟩ (l32.st (G.map fun g => (W, g)))) = true := by kernel_rfl
theorem ok_c16 : OrcOk Tryz.prog c16 := orcCut_ok (by kernel_rfl) evOrc.orcOk t_c16
theorem t_c18 (W : World) : pieceOk (.slice 449 0 28 (.op 2)) l37 (runQ Tryz.prog evOrc.orc 1000000 (.call 23 [.slice 112 0 406 (.op 1)]) ⟨.nil, []⟩ (l36.st (G.map fun g => (W, g)))) = true := by kernel_rfl
theorem ok_c18 : OrcOk Tryz.prog c18 := orcCut_ok (by kernel_rfl) evOrc.orcOk t_c18
end Go.Proofs.YtmjhcnkngaglmaaGreatDoor.hostFirst
