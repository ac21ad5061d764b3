/- TopSearch: pieces of its runs, by the kernel. -/
import Derived.Test.YtphahhnenmipeaaGreatDoorEvTopSearchLit
import Derived.Test.YtphahhnenmipeaaGreatDoorRows
import Derived.KernelRfl
namespace Go.Proofs.YtphahhnenmipeaaGreatDoor.topSearch
open Go.YtphahhnenmipeaaGreatDoorEv
set_option maxRecDepth 100000
theorem t_c6 (W : World) : pieceOk (.nilSlice) l13 (runQ Tryz.prog ((orcTrue 21).or evOrc.orc) 1000000 (.call 17 [.ptr 140 0, .int .i64 (.ofNat 3), .int .i64 (.ofNat 0), .nilSlice]) ⟨.nil, []⟩ (l12.st (G.map fun g => (W, g)))) = true := by kernel_rfl
theorem ok_c6 : OrcOk Tryz.prog c6 := orcCut_ok (by kernel_rfl) (OrcOk.or evBegun.ok evOrc.orcOk) t_c6
theorem t_c7 (W : World) : pieceOk (.slice 1921 0 1 (.op 7)) l15 (runQ Tryz.prog ((orcTrue 21).or evOrc.orc) 1000000 (.call 17 [.ptr 140 0, .int .i64 (.ofNat 3), .int .i64 (.ofNat 0), .nilSlice]) ⟨.nil, []⟩ (l14.st (G.map fun g => (W, g)))) = true := by kernel_rfl
theorem ok_c7 : OrcOk Tryz.prog c7 := orcCut_ok (by kernel_rfl) (OrcOk.or evBegun.ok evOrc.orcOk) t_c7
theorem t_c8 (W : World) : pieceOk (.ptr 140 0) l17 (runQ Tryz.prog ((orcTrue 21).or evOrc.orc) 1000000 (.call 8 [.slice 9 0 4 (.ex 4)]) ⟨.nil, []⟩ (l16.st (G.map fun g => (W, g)))) = true := by kernel_rfl
theorem ok_c8 : OrcOk Tryz.prog c8 := orcCut_ok (by kernel_rfl) (OrcOk.or evBegun.ok evOrc.orcOk) t_c8
theorem t_c9 (W : World) : pieceOk (.tuple [.agg [.int .i64 (.ofNat 0), .int .i64 (.ofNat 0), .int .i64 (.ofNat 0), .nilSlice, .nilSlice, .int .i64 (.ofNat 0), .int .i64 (.ofNat 0)], .int .i64 (.ofNat 1), .bool false]) l19 (runQ Tryz.prog ((orcTrue 21).or evOrc.orc) 1000000 (.call 9 [.ptr 140 0, .agg [.int .i64 (.ofNat 1), .str 3 7941736, .str 0 0, .int .i64 (.ofNat 0)]]) ⟨.nil, []⟩ (l18.st (G.map fun g => (W, g)))) = true := by kernel_rfl
theorem ok_c9 : OrcOk Tryz.prog c9 := orcCut_ok (by kernel_rfl) (OrcOk.or evBegun.ok evOrc.orcOk) t_c9
theorem t_c10 (W : World) : pieceOk (.nilSlice) l21 (runQ Tryz.prog ((orcTrue 21).or evOrc.orc) 1000000 (.call 17 [.ptr 140 0, .int .i64 (.ofNat 3), .int .i64 (.ofNat 0), .nilSlice]) ⟨.nil, []⟩ (l20.st (G.map fun g => (W, g)))) = true := by kernel_rfl
theorem ok_c10 : OrcOk Tryz.prog c10 := orcCut_ok (by kernel_rfl) (OrcOk.or evBegun.ok evOrc.orcOk) t_c10
end Go.Proofs.YtphahhnenmipeaaGreatDoor.topSearch
