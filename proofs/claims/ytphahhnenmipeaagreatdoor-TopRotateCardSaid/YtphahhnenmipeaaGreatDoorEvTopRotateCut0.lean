/- TopRotate: pieces of its runs, by the kernel. -/
import Derived.Test.YtphahhnenmipeaaGreatDoorEvTopRotateLit
import Derived.Test.YtphahhnenmipeaaGreatDoorRows
import Derived.KernelRfl
namespace Go.Proofs.YtphahhnenmipeaaGreatDoor.topRotate
open Go.YtphahhnenmipeaaGreatDoorEv
set_option maxRecDepth 100000
theorem t_c0 (W : World) : pieceOk (.tuple [.agg [.int .i64 (.ofNat 0), .int .i64 (.ofNat 0), .int .i64 (.ofNat 0), .nilSlice, .nilSlice, .int .i64 (.ofNat 0), .int .i64 (.ofNat 0)], .int .i64 (.ofNat 1), .bool false]) l1 (runQ Tryz.prog ((orcTrue 21).or evOrc.orc) 1000000 (.call 9 [.ptr 139 0, .agg [.int .i64 (.ofNat 2), .str 4 16777226, .str 0 0, .int .i64 (.ofNat 0)]]) ⟨.nil, []⟩ (l0.st (G.map fun g => (W, g)))) = true := by kernel_rfl
theorem ok_c0 : OrcOk Tryz.prog c0 := orcCut_ok (by kernel_rfl) (OrcOk.or evBegun.ok evOrc.orcOk) t_c0
theorem t_c1 (W : World) : pieceOk (.tuple [.agg [.int .i64 (.ofNat 0), .int .i64 (.ofNat 0), .int .i64 (.ofNat 0), .nilSlice, .nilSlice, .int .i64 (.ofNat 0), .int .i64 (.ofNat 0)], .int .i64 (.ofNat 1), .bool false]) l3 (runQ Tryz.prog ((orcTrue 21).or evOrc.orc) 1000000 (.call 9 [.ptr 139 0, .agg [.int .i64 (.ofNat 2), .str 4 33554442, .str 0 0, .int .i64 (.ofNat 0)]]) ⟨.nil, []⟩ (l2.st (G.map fun g => (W, g)))) = true := by kernel_rfl
theorem ok_c1 : OrcOk Tryz.prog c1 := orcCut_ok (by kernel_rfl) (OrcOk.or evBegun.ok evOrc.orcOk) t_c1
theorem t_c2 (W : World) : pieceOk (.tuple [.agg [.int .i64 (.ofNat 0), .int .i64 (.ofNat 0), .int .i64 (.ofNat 0), .nilSlice, .nilSlice, .int .i64 (.ofNat 0), .int .i64 (.ofNat 0)], .int .i64 (.ofNat 1), .bool false]) l5 (runQ Tryz.prog ((orcTrue 21).or evOrc.orc) 1000000 (.call 9 [.ptr 139 0, .agg [.int .i64 (.ofNat 2), .str 4 50331658, .str 0 0, .int .i64 (.ofNat 0)]]) ⟨.nil, []⟩ (l4.st (G.map fun g => (W, g)))) = true := by kernel_rfl
theorem ok_c2 : OrcOk Tryz.prog c2 := orcCut_ok (by kernel_rfl) (OrcOk.or evBegun.ok evOrc.orcOk) t_c2
theorem t_c3 (W : World) : pieceOk (.tuple [.agg [.int .i64 (.ofNat 0), .int .i64 (.ofNat 0), .int .i64 (.ofNat 0), .nilSlice, .nilSlice, .int .i64 (.ofNat 0), .int .i64 (.ofNat 0)], .int .i64 (.ofNat 1), .bool false]) l7 (runQ Tryz.prog ((orcTrue 21).or evOrc.orc) 1000000 (.call 9 [.ptr 139 0, .agg [.int .i64 (.ofNat 2), .str 4 67108874, .str 0 0, .int .i64 (.ofNat 0)]]) ⟨.nil, []⟩ (l6.st (G.map fun g => (W, g)))) = true := by kernel_rfl
theorem ok_c3 : OrcOk Tryz.prog c3 := orcCut_ok (by kernel_rfl) (OrcOk.or evBegun.ok evOrc.orcOk) t_c3
theorem t_c4 (W : World) : pieceOk (.tuple [.agg [.int .i64 (.ofNat 0), .int .i64 (.ofNat 0), .int .i64 (.ofNat 0), .nilSlice, .nilSlice, .int .i64 (.ofNat 0), .int .i64 (.ofNat 0)], .int .i64 (.ofNat 1), .bool false]) l9 (runQ Tryz.prog ((orcTrue 21).or evOrc.orc) 1000000 (.call 9 [.ptr 139 0, .agg [.int .i64 (.ofNat 2), .str 4 16777226, .str 0 0, .int .i64 (.ofNat 0)]]) ⟨.nil, []⟩ (l8.st (G.map fun g => (W, g)))) = true := by kernel_rfl
theorem ok_c4 : OrcOk Tryz.prog c4 := orcCut_ok (by kernel_rfl) (OrcOk.or evBegun.ok evOrc.orcOk) t_c4
end Go.Proofs.YtphahhnenmipeaaGreatDoor.topRotate
