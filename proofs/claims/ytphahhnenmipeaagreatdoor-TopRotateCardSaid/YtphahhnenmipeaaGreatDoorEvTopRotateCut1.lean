/- TopRotate: pieces of its runs, by the kernel. -/
import Derived.Test.YtphahhnenmipeaaGreatDoorEvTopRotateLit
import Derived.Test.YtphahhnenmipeaaGreatDoorRows
import Derived.KernelRfl
namespace Go.Proofs.YtphahhnenmipeaaGreatDoor.topRotate
open Go.YtphahhnenmipeaaGreatDoorEv
set_option maxRecDepth 100000
theorem t_c5 (W : World) : pieceOk (.tuple [.agg [.int .i64 (.ofNat 0), .int .i64 (.ofNat 0), .int .i64 (.ofNat 0), .nilSlice, .nilSlice, .int .i64 (.ofNat 0), .int .i64 (.ofNat 0)], .int .i64 (.ofNat 1), .bool false]) l11 (runQ Tryz.prog ((orcTrue 21).or evOrc.orc) 1000000 (.call 9 [.ptr 139 0, .agg [.int .i64 (.ofNat 2), .str 4 33554442, .str 0 0, .int .i64 (.ofNat 0)]]) ⟨.nil, []⟩ (l10.st (G.map fun g => (W, g)))) = true := by kernel_rfl
theorem ok_c5 : OrcOk Tryz.prog c5 := orcCut_ok (by kernel_rfl) (OrcOk.or evBegun.ok evOrc.orcOk) t_c5
theorem t_c6 (W : World) : pieceOk (.tuple [.agg [.int .i64 (.ofNat 0), .int .i64 (.ofNat 0), .int .i64 (.ofNat 0), .nilSlice, .nilSlice, .int .i64 (.ofNat 0), .int .i64 (.ofNat 0)], .int .i64 (.ofNat 1), .bool false]) l13 (runQ Tryz.prog ((orcTrue 21).or evOrc.orc) 1000000 (.call 9 [.ptr 139 0, .agg [.int .i64 (.ofNat 2), .str 4 50331658, .str 0 0, .int .i64 (.ofNat 0)]]) ⟨.nil, []⟩ (l12.st (G.map fun g => (W, g)))) = true := by kernel_rfl
theorem ok_c6 : OrcOk Tryz.prog c6 := orcCut_ok (by kernel_rfl) (OrcOk.or evBegun.ok evOrc.orcOk) t_c6
theorem t_c7 (W : World) : pieceOk (.tuple [.agg [.int .i64 (.ofNat 0), .int .i64 (.ofNat 0), .int .i64 (.ofNat 0), .nilSlice, .nilSlice, .int .i64 (.ofNat 0), .int .i64 (.ofNat 0)], .int .i64 (.ofNat 1), .bool false]) l15 (runQ Tryz.prog ((orcTrue 21).or evOrc.orc) 1000000 (.call 9 [.ptr 139 0, .agg [.int .i64 (.ofNat 2), .str 4 67108874, .str 0 0, .int .i64 (.ofNat 0)]]) ⟨.nil, []⟩ (l14.st (G.map fun g => (W, g)))) = true := by kernel_rfl
theorem ok_c7 : OrcOk Tryz.prog c7 := orcCut_ok (by kernel_rfl) (OrcOk.or evBegun.ok evOrc.orcOk) t_c7
end Go.Proofs.YtphahhnenmipeaaGreatDoor.topRotate
