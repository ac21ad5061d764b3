/- TopInvalidate: pieces of its runs, by the kernel. -/
import Derived.Test.YtphahhnenmipeaaGreatDoorEvTopInvalidateLit
import Derived.Test.YtphahhnenmipeaaGreatDoorRows
import Derived.KernelRfl
namespace Go.Proofs.YtphahhnenmipeaaGreatDoor.topInvalidate
open Go.YtphahhnenmipeaaGreatDoorEv
set_option maxRecDepth 100000
theorem t_c5 (W : World) : pieceOk (.agg [.nilSlice, .int .i64 (.ofNat 0), .int .i64 (.ofNat 0)]) l11 (runQ Tryz.prog ((orcTrue 21).or evOrc.orc) 1000000 (.call 18 [.ptr 138 0, .agg [.int .i64 (.ofNat 10), .str 0 0, .nilSlice, .int .i64 (.ofNat 0), .int .i64 (.ofNat 0), .str 0 0, .str 0 0, .int .i64 (.ofNat 0), .int .i64 (.ofNat 0), .str 0 0, .int .i64 (.ofNat 0), .str 0 0, .int .i64 (.ofNat 0), .nilSlice, .nilSlice, .int .i64 (.ofNat 0), .int .i64 (.ofNat 0)]]) ⟨.nil, []⟩ (l10.st (G.map fun g => (W, g)))) = true := by kernel_rfl
theorem ok_c5 : OrcOk Tryz.prog c5 := orcCut_ok (by kernel_rfl) (OrcOk.or evBegun.ok evOrc.orcOk) t_c5
theorem t_c6 (W : World) : pieceOk (.agg [.nilSlice, .int .i64 (.ofNat 0), .int .i64 (.ofNat 0)]) l13 (runQ Tryz.prog ((orcTrue 21).or evOrc.orc) 1000000 (.call 18 [.ptr 138 0, .agg [.int .i64 (.ofNat 10), .str 0 0, .nilSlice, .int .i64 (.ofNat 0), .int .i64 (.ofNat 0), .str 0 0, .str 0 0, .int .i64 (.ofNat 0), .int .i64 (.ofNat 0), .str 0 0, .int .i64 (.ofNat 0), .str 0 0, .int .i64 (.ofNat 0), .nilSlice, .nilSlice, .int .i64 (.ofNat 0), .int .i64 (.ofNat 0)]]) ⟨.nil, []⟩ (l12.st (G.map fun g => (W, g)))) = true := by kernel_rfl
theorem ok_c6 : OrcOk Tryz.prog c6 := orcCut_ok (by kernel_rfl) (OrcOk.or evBegun.ok evOrc.orcOk) t_c6
end Go.Proofs.YtphahhnenmipeaaGreatDoor.topInvalidate
