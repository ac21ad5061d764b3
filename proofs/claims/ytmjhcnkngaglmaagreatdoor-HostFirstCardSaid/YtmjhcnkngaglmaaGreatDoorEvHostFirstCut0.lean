/- HostFirst: pieces of its runs, by the kernel. -/
import Derived.Test.YtmjhcnkngaglmaaGreatDoorEvHostFirstLit
import Derived.Test.YtmjhcnkngaglmaaGreatDoorRows
import Derived.KernelRfl
namespace Go.Proofs.YtmjhcnkngaglmaaGreatDoor.hostFirst
open Go.YtmjhcnkngaglmaaGreatDoorEv
set_option maxRecDepth 100000
theorem t_c0 (W : World) : pieceOk (.ptr 93 0) l1 (runQ Tryz.prog evOrc.orc 1000000 (.call 7 [.slice 92 0 116 (.op 1)]) ⟨.nil, []⟩ (l0.st (G.map fun g => (W, g)))) = true := by kernel_rfl
theorem ok_c0 : OrcOk Tryz.prog c0 := orcCut_ok (by kernel_rfl) evOrc.orcOk t_c0
theorem t_c1 (W : World) : pieceOk (.ptr 95 0) l3 (runQ Tryz.prog evOrc.orc 1000000 (.call 7 [.slice 94 0 145 (.op 1)]) ⟨.nil, []⟩ (l2.st (G.map fun g => (W, g)))) = true := by kernel_rfl
theorem ok_c1 : OrcOk Tryz.prog c1 := orcCut_ok (by kernel_rfl) evOrc.orcOk t_c1
theorem t_c2 (W : World) : pieceOk (.slice 241 0 12 (.op 2)) l5 (runQ Tryz.prog evOrc.orc 1000000 (.call 23 [.slice 96 0 174 (.op 1)]) ⟨.nil, []⟩ (l4.st (G.map fun g => (W, g)))) = true := by kernel_rfl
theorem ok_c2 : OrcOk Tryz.prog c2 := orcCut_ok (by kernel_rfl) evOrc.orcOk t_c2
theorem t_c4 (W : World) : pieceOk (.slice 267 0 14 (.op 2)) l9 (runQ Tryz.prog evOrc.orc 1000000 (.call 23 [.slice 98 0 203 (.op 1)]) ⟨.nil, []⟩ (l8.st (G.map fun g => (W, g)))) = true := by kernel_rfl
theorem ok_c4 : OrcOk Tryz.prog c4 := orcCut_ok (by kernel_rfl) evOrc.orcOk t_c4
end Go.Proofs.YtmjhcnkngaglmaaGreatDoor.hostFirst
