/- TopSearch: pieces of its runs, by the kernel. -/
import Derived.Test.YtphahhnenmipeaaGreatDoorEvTopSearchLit
import Derived.Test.YtphahhnenmipeaaGreatDoorRows
import Derived.KernelRfl
namespace Go.Proofs.YtphahhnenmipeaaGreatDoor.topSearch
open Go.YtphahhnenmipeaaGreatDoorEv
set_option maxRecDepth 100000
theorem t_c11 (W : World) : pieceOk (.nilSlice) l23 (runQ Tryz.prog ((orcTrue 21).or evOrc.orc) 1000000 (.call 17 [.ptr 140 0, .int .i64 (.ofNat 3), .int .i64 (.ofNat 0), .nilSlice]) ⟨.nil, []⟩ (l22.st (G.map fun g => (W, g)))) = true := by kernel_rfl
theorem ok_c11 : OrcOk Tryz.prog c11 := orcCut_ok (by kernel_rfl) (OrcOk.or evBegun.ok evOrc.orcOk) t_c11
theorem t_c12 (W : World) : pieceOk (.nilSlice) l25 (runQ Tryz.prog ((orcTrue 21).or evOrc.orc) 1000000 (.call 17 [.ptr 140 0, .int .i64 (.ofNat 3), .int .i64 (.ofNat 0), .nilSlice]) ⟨.nil, []⟩ (l24.st (G.map fun g => (W, g)))) = true := by kernel_rfl
theorem ok_c12 : OrcOk Tryz.prog c12 := orcCut_ok (by kernel_rfl) (OrcOk.or evBegun.ok evOrc.orcOk) t_c12
theorem t_c13 (W : World) : pieceOk (.nilSlice) l27 (runQ Tryz.prog ((orcTrue 21).or evOrc.orc) 1000000 (.call 17 [.ptr 140 0, .int .i64 (.ofNat 3), .int .i64 (.ofNat 0), .nilSlice]) ⟨.nil, []⟩ (l26.st (G.map fun g => (W, g)))) = true := by kernel_rfl
theorem ok_c13 : OrcOk Tryz.prog c13 := orcCut_ok (by kernel_rfl) (OrcOk.or evBegun.ok evOrc.orcOk) t_c13
theorem t_c14 (W : World) : pieceOk (.nilSlice) l29 (runQ Tryz.prog ((orcTrue 21).or evOrc.orc) 1000000 (.call 17 [.ptr 140 0, .int .i64 (.ofNat 3), .int .i64 (.ofNat 0), .nilSlice]) ⟨.nil, []⟩ (l28.st (G.map fun g => (W, g)))) = true := by kernel_rfl
theorem ok_c14 : OrcOk Tryz.prog c14 := orcCut_ok (by kernel_rfl) (OrcOk.or evBegun.ok evOrc.orcOk) t_c14
theorem t_c15 (W : World) : pieceOk (.slice 1921 0 1 (.op 7)) l31 (runQ Tryz.prog ((orcTrue 21).or evOrc.orc) 1000000 (.call 17 [.ptr 140 0, .int .i64 (.ofNat 3), .int .i64 (.ofNat 0), .nilSlice]) ⟨.nil, []⟩ (l30.st (G.map fun g => (W, g)))) = true := by kernel_rfl
theorem ok_c15 : OrcOk Tryz.prog c15 := orcCut_ok (by kernel_rfl) (OrcOk.or evBegun.ok evOrc.orcOk) t_c15
end Go.Proofs.YtphahhnenmipeaaGreatDoor.topSearch
