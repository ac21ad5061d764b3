/- TopSearch: pieces of its runs, by the kernel. -/
import Derived.Test.YtphahhnenmipeaaGreatDoorEvTopSearchLit
import Derived.Test.YtphahhnenmipeaaGreatDoorRows
import Derived.KernelRfl
namespace Go.Proofs.YtphahhnenmipeaaGreatDoor.topSearch
open Go.YtphahhnenmipeaaGreatDoorEv
set_option maxRecDepth 100000
theorem t_c0 (W : World) : pieceOk (.ptr 140 0) l1 (runQ Tryz.prog ((orcTrue 21).or evOrc.orc) 1000000 (.call 8 [.slice 9 0 4 (.ex 4)]) ⟨.nil, []⟩ (l0.st (G.map fun g => (W, g)))) = true := by kernel_rfl
theorem ok_c0 : OrcOk Tryz.prog c0 := orcCut_ok (by kernel_rfl) (OrcOk.or evBegun.ok evOrc.orcOk) t_c0
theorem t_c1 (W : World) : pieceOk (.tuple [.agg [.int .i64 (.ofNat 0), .int .i64 (.ofNat 0), .int .i64 (.ofNat 0), .nilSlice, .nilSlice, .int .i64 (.ofNat 0), .int .i64 (.ofNat 0)], .int .i64 (.ofNat 1), .bool false]) l3 (runQ Tryz.prog ((orcTrue 21).or evOrc.orc) 1000000 (.call 9 [.ptr 140 0, .agg [.int .i64 (.ofNat 1), .str 3 7941736, .str 0 0, .int .i64 (.ofNat 0)]]) ⟨.nil, []⟩ (l2.st (G.map fun g => (W, g)))) = true := by kernel_rfl
theorem ok_c1 : OrcOk Tryz.prog c1 := orcCut_ok (by kernel_rfl) (OrcOk.or evBegun.ok evOrc.orcOk) t_c1
theorem t_c2 (W : World) : pieceOk (.nilSlice) l5 (runQ Tryz.prog ((orcTrue 21).or evOrc.orc) 1000000 (.call 17 [.ptr 140 0, .int .i64 (.ofNat 3), .int .i64 (.ofNat 0), .nilSlice]) ⟨.nil, []⟩ (l4.st (G.map fun g => (W, g)))) = true := by kernel_rfl
theorem ok_c2 : OrcOk Tryz.prog c2 := orcCut_ok (by kernel_rfl) (OrcOk.or evBegun.ok evOrc.orcOk) t_c2
theorem t_c3 (W : World) : pieceOk (.nilSlice) l7 (runQ Tryz.prog ((orcTrue 21).or evOrc.orc) 1000000 (.call 17 [.ptr 140 0, .int .i64 (.ofNat 3), .int .i64 (.ofNat 0), .nilSlice]) ⟨.nil, []⟩ (l6.st (G.map fun g => (W, g)))) = true := by kernel_rfl
theorem ok_c3 : OrcOk Tryz.prog c3 := orcCut_ok (by kernel_rfl) (OrcOk.or evBegun.ok evOrc.orcOk) t_c3
theorem t_c4 (W : World) : pieceOk (.nilSlice) l9 (runQ Tryz.prog ((orcTrue 21).or evOrc.orc) 1000000 (.call 17 [.ptr 140 0, .int .i64 (.ofNat 3), .int .i64 (.ofNat 0), .nilSlice]) ⟨.nil, []⟩ (l8.st (G.map fun g => (W, g)))) = true := by kernel_rfl
theorem ok_c4 : OrcOk Tryz.prog c4 := orcCut_ok (by kernel_rfl) (OrcOk.or evBegun.ok evOrc.orcOk) t_c4
theorem t_c5 (W : World) : pieceOk (.nilSlice) l11 (runQ Tryz.prog ((orcTrue 21).or evOrc.orc) 1000000 (.call 17 [.ptr 140 0, .int .i64 (.ofNat 3), .int .i64 (.ofNat 0), .nilSlice]) ⟨.nil, []⟩ (l10.st (G.map fun g => (W, g)))) = true := by kernel_rfl
theorem ok_c5 : OrcOk Tryz.prog c5 := orcCut_ok (by kernel_rfl) (OrcOk.or evBegun.ok evOrc.orcOk) t_c5
end Go.Proofs.YtphahhnenmipeaaGreatDoor.topSearch
