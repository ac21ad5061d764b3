/- TopInvalidate: pieces of its runs, by the kernel. -/
import Derived.Test.YtphahhnenmipeaaGreatDoorEvTopInvalidateLit
import Derived.Test.YtphahhnenmipeaaGreatDoorRows
import Derived.KernelRfl
namespace Go.Proofs.YtphahhnenmipeaaGreatDoor.topInvalidate
open Go.YtphahhnenmipeaaGreatDoorEv
set_option maxRecDepth 100000
theorem t_c3 (W : World) : pieceOk (.agg [.nilSlice, .int .i64 (.ofNat 0), .int .i64 (.ofNat 0)]) l7 (runQ Tryz.prog ((orcTrue 21).or evOrc.orc) 1000000 (.call 18 [.ptr 138 0, .agg [.int .i64 (.ofNat 10), .str 0 0, .nilSlice, .int .i64 (.ofNat 0), .int .i64 (.ofNat 0), .str 0 0, .str 0 0, .int .i64 (.ofNat 0), .int .i64 (.ofNat 0), .str 0 0, .int .i64 (.ofNat 0), .str 0 0, .int .i64 (.ofNat 0), .nilSlice, .nilSlice, .int .i64 (.ofNat 0), .int .i64 (.ofNat 0)]]) ⟨.nil, []⟩ (l6.st (G.map fun g => (W, g)))) = true := by kernel_rfl
theorem ok_c3 : OrcOk Tryz.prog c3 := orcCut_ok (by kernel_rfl) (OrcOk.or evBegun.ok evOrc.orcOk) t_c3
theorem t_c4 (W : World) : pieceOk (.agg [.nilSlice, .int .i64 (.ofNat 0), .int .i64 (.ofNat 0)]) l9 (runQ Tryz.prog ((orcTrue 21).or evOrc.orc) 1000000 (.call 18 [.ptr 138 0, .agg [.int .i64 (.ofNat 10), .str 0 0, .nilSlice, .int .i64 (.ofNat 0), .int .i64 (.ofNat 0), .str 0 0, .str 0 0, .int .i64 (.ofNat 0), .int .i64 (.ofNat 0), .str 0 0, .int .i64 (.ofNat 0), .str 0 0, .int .i64 (.ofNat 0), .nilSlice, .nilSlice, .int .i64 (.ofNat 0), .int .i64 (.ofNat 0)]]) ⟨.nil, []⟩ (l8.st (G.map fun g => (W, g)))) = true := by kernel_rfl
theorem ok_c4 : OrcOk Tryz.prog c4 := orcCut_ok (by kernel_rfl) (OrcOk.or evBegun.ok evOrc.orcOk) t_c4
end Go.Proofs.YtphahhnenmipeaaGreatDoor.topInvalidate
