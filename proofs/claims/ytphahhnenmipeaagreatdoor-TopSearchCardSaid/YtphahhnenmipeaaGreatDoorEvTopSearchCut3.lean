/- TopSearch: pieces of its runs, by the kernel. -/
import Derived.Test.YtphahhnenmipeaaGreatDoorEvTopSearchLit
import Derived.Test.YtphahhnenmipeaaGreatDoorRows
import Derived.KernelRfl
namespace Go.Proofs.YtphahhnenmipeaaGreatDoor.topSearch
open Go.YtphahhnenmipeaaGreatDoorEv
set_option maxRecDepth 100000
theorem t_c16 (W : World) : pieceOk (.ptr 140 0) l33 (runQ Tryz.prog ((orcTrue 21).or evOrc.orc) 1000000 (.call 8 [.slice 9 0 4 (.ex 4)]) ⟨.nil, []⟩ (l32.st (G.map fun g => (W, g)))) = true := by kernel_rfl
theorem ok_c16 : OrcOk Tryz.prog c16 := orcCut_ok (by kernel_rfl) (OrcOk.or evBegun.ok evOrc.orcOk) t_c16
theorem t_c17 (W : World) : pieceOk (.tuple [.agg [.int .i64 (.ofNat 0), .int .i64 (.ofNat 0), .int .i64 (.ofNat 0), .nilSlice, .nilSlice, .int .i64 (.ofNat 0), .int .i64 (.ofNat 0)], .int .i64 (.ofNat 1), .bool false]) l35 (runQ Tryz.prog ((orcTrue 21).or evOrc.orc) 1000000 (.call 9 [.ptr 140 0, .agg [.int .i64 (.ofNat 1), .str 3 7941736, .str 0 0, .int .i64 (.ofNat 0)]]) ⟨.nil, []⟩ (l34.st (G.map fun g => (W, g)))) = true := by kernel_rfl
theorem ok_c17 : OrcOk Tryz.prog c17 := orcCut_ok (by kernel_rfl) (OrcOk.or evBegun.ok evOrc.orcOk) t_c17
theorem t_c18 (W : World) : pieceOk (.nilSlice) l37 (runQ Tryz.prog ((orcTrue 21).or evOrc.orc) 1000000 (.call 17 [.ptr 140 0, .int .i64 (.ofNat 3), .int .i64 (.ofNat 0), .nilSlice]) ⟨.nil, []⟩ (l36.st (G.map fun g => (W, g)))) = true := by kernel_rfl
theorem ok_c18 : OrcOk Tryz.prog c18 := orcCut_ok (by kernel_rfl) (OrcOk.or evBegun.ok evOrc.orcOk) t_c18
theorem t_c19 (W : World) : pieceOk (.nilSlice) l39 (runQ Tryz.prog ((orcTrue 21).or evOrc.orc) 1000000 (.call 17 [.ptr 140 0, .int .i64 (.ofNat 3), .int .i64 (.ofNat 0), .nilSlice]) ⟨.nil, []⟩ (l38.st (G.map fun g => (W, g)))) = true := by kernel_rfl
theorem ok_c19 : OrcOk Tryz.prog c19 := orcCut_ok (by kernel_rfl) (OrcOk.or evBegun.ok evOrc.orcOk) t_c19
theorem t_c20 (W : World) : pieceOk (.nilSlice) l41 (runQ Tryz.prog ((orcTrue 21).or evOrc.orc) 1000000 (.call 17 [.ptr 140 0, .int .i64 (.ofNat 3), .int .i64 (.ofNat 0), .nilSlice]) ⟨.nil, []⟩ (l40.st (G.map fun g => (W, g)))) = true := by kernel_rfl
theorem ok_c20 : OrcOk Tryz.prog c20 := orcCut_ok (by kernel_rfl) (OrcOk.or evBegun.ok evOrc.orcOk) t_c20
end Go.Proofs.YtphahhnenmipeaaGreatDoor.topSearch
