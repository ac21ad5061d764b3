/- TopSearch: pieces of its runs, by the kernel. -/
import Derived.Test.YtphahhnenmipeaaGreatDoorEvTopSearchLit
import Derived.Test.YtphahhnenmipeaaGreatDoorRows
import Derived.KernelRfl
namespace Go.Proofs.YtphahhnenmipeaaGreatDoor.topSearch
open Go.YtphahhnenmipeaaGreatDoorEv
set_option maxRecDepth 100000
theorem t_c21 (W : World) : pieceOk (.nilSlice) l43 (runQ Tryz.prog ((orcTrue 21).or evOrc.orc) 1000000 (.call 17 [.ptr 140 0, .int .i64 (.ofNat 3), .int .i64 (.ofNat 0), .nilSlice]) ⟨.nil, []⟩ (l42.st (G.map fun g => (W, g)))) = true := by kernel_rfl
theorem ok_c21 : OrcOk Tryz.prog c21 := orcCut_ok (by kernel_rfl) (OrcOk.or evBegun.ok evOrc.orcOk) t_c21
theorem t_c22 (W : World) : pieceOk (.nilSlice) l45 (runQ Tryz.prog ((orcTrue 21).or evOrc.orc) 1000000 (.call 17 [.ptr 140 0, .int .i64 (.ofNat 3), .int .i64 (.ofNat 0), .nilSlice]) ⟨.nil, []⟩ (l44.st (G.map fun g => (W, g)))) = true := by kernel_rfl
theorem ok_c22 : OrcOk Tryz.prog c22 := orcCut_ok (by kernel_rfl) (OrcOk.or evBegun.ok evOrc.orcOk) t_c22
theorem t_c23 (W : World) : pieceOk (.slice 1922 0 1 (.op 7)) l47 (runQ Tryz.prog ((orcTrue 21).or evOrc.orc) 1000000 (.call 17 [.ptr 140 0, .int .i64 (.ofNat 3), .int .i64 (.ofNat 0), .nilSlice]) ⟨.nil, []⟩ (l46.st (G.map fun g => (W, g)))) = true := by kernel_rfl
theorem ok_c23 : OrcOk Tryz.prog c23 := orcCut_ok (by kernel_rfl) (OrcOk.or evBegun.ok evOrc.orcOk) t_c23
end Go.Proofs.YtphahhnenmipeaaGreatDoor.topSearch
