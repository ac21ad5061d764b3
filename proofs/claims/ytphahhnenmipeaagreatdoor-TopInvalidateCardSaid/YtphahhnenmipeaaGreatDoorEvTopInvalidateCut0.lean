/- TopInvalidate: pieces of its runs, by the kernel. -/
import Derived.Test.YtphahhnenmipeaaGreatDoorEvTopInvalidateLit
import Derived.Test.YtphahhnenmipeaaGreatDoorRows
import Derived.KernelRfl
namespace Go.Proofs.YtphahhnenmipeaaGreatDoor.topInvalidate
open Go.YtphahhnenmipeaaGreatDoorEv
set_option maxRecDepth 100000
theorem t_c0 (W : World) : pieceOk (.tuple [.agg [.int .i64 (.ofNat 0), .int .i64 (.ofNat 1), .int .i64 (.ofNat 0), .nilSlice, .slice 569 0 1 (.op 1), .int .i64 (.ofNat 0), .int .i64 (.ofNat 600)], .int .i64 (.ofNat 0), .bool true]) l1 (runQ Tryz.prog ((orcTrue 21).or evOrc.orc) 1000000 (.call 9 [.ptr 139 0, .agg [.int .i64 (.ofNat 1), .str 1 104, .str 0 0, .int .i64 (.ofNat 0)]]) ⟨.nil, []⟩ (l0.st (G.map fun g => (W, g)))) = true := by kernel_rfl
theorem ok_c0 : OrcOk Tryz.prog c0 := orcCut_ok (by kernel_rfl) (OrcOk.or evBegun.ok evOrc.orcOk) t_c0
theorem t_c1 (W : World) : pieceOk (.ptr 1045 0) l3 (runQ Tryz.prog ((orcTrue 21).or evOrc.orc) 1000000 (.call 41 [.ptr 936 0]) ⟨.nil, []⟩ (l2.st (G.map fun g => (W, g)))) = true := by kernel_rfl
theorem ok_c1 : OrcOk Tryz.prog c1 := orcCut_ok (by kernel_rfl) (OrcOk.or evBegun.ok evOrc.orcOk) t_c1
end Go.Proofs.YtphahhnenmipeaaGreatDoor.topInvalidate
