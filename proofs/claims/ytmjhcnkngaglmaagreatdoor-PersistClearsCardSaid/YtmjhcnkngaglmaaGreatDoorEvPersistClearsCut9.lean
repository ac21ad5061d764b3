/- PersistClears: pieces of its runs, by the kernel. -/
import Derived.Test.YtmjhcnkngaglmaaGreatDoorEvPersistClearsLit
import Derived.Test.YtmjhcnkngaglmaaGreatDoorRows
import Derived.KernelRfl
namespace Go.Proofs.YtmjhcnkngaglmaaGreatDoor.persistClears
open Go.YtmjhcnkngaglmaaGreatDoorEv
set_option maxRecDepth 100000
theorem t_c155 (W : World) : pieceOk (.int .i64 (.ofNat 0)) l262 (runQ Tryz.prog ((orcSum 66).or (orcTrue 10)) 1000000 (.call 16 [.ptr 12 0, .int .i64 (.ofNat 3)]) ⟨.nil, []⟩ (l243.st (G.map fun g => (W, g)))) = true := by kernel_rfl
theorem ok_c155 : OrcOk Tryz.prog c155 := orcCut_ok (by kernel_rfl) (OrcOk.or (orcSum_ok evSum.any) evBegun.ok) t_c155
theorem t_c156 (W : World) : pieceOk (.int .i64 (.ofNat 6)) l267 (runQ Tryz.prog ((orcSum 66).or (orcTrue 10)) 1000000 (.call 16 [.ptr 12 0, .int .i64 (.ofNat 4)]) ⟨.nil, []⟩ (l243.st (G.map fun g => (W, g)))) = true := by kernel_rfl
theorem ok_c156 : OrcOk Tryz.prog c156 := orcCut_ok (by kernel_rfl) (OrcOk.or (orcSum_ok evSum.any) evBegun.ok) t_c156
theorem t_c157 (W : World) : pieceOk (.slice 2489 0 6 (.op 8)) l269 (runQ Tryz.prog ((orcSum 66).or (orcTrue 10)) 1000000 (.call 31 [.slice 2213 0 18 (.op 1)]) ⟨.nil, []⟩ (l268.st (G.map fun g => (W, g)))) = true := by kernel_rfl
theorem ok_c157 : OrcOk Tryz.prog c157 := orcCut_ok (by kernel_rfl) (OrcOk.or (orcSum_ok evSum.any) evBegun.ok) t_c157
theorem t_c159 (W : World) : pieceOk (.slice 2462 0 12 (.op 8)) l273 (runQ Tryz.prog ((orcSum 66).or (orcTrue 10)) 1000000 (.call 31 [.slice 2186 0 12 (.op 1)]) ⟨.nil, []⟩ (l272.st (G.map fun g => (W, g)))) = true := by kernel_rfl
theorem ok_c159 : OrcOk Tryz.prog c159 := orcCut_ok (by kernel_rfl) (OrcOk.or (orcSum_ok evSum.any) evBegun.ok) t_c159
end Go.Proofs.YtmjhcnkngaglmaaGreatDoor.persistClears
