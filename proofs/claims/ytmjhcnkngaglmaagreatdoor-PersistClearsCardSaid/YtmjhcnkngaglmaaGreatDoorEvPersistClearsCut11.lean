/- PersistClears: pieces of its runs, by the kernel. -/
import Derived.Test.YtmjhcnkngaglmaaGreatDoorEvPersistClearsLit
import Derived.Test.YtmjhcnkngaglmaaGreatDoorEvPersistClearsCut9
import Derived.Test.YtmjhcnkngaglmaaGreatDoorRows
import Derived.KernelRfl
namespace Go.Proofs.YtmjhcnkngaglmaaGreatDoor.persistClears
open Go.YtmjhcnkngaglmaaGreatDoorEv
set_option maxRecDepth 100000
theorem t_c160 (W : World) : pieceOk (.ptr 2136 0) l275 (runQ Tryz.prog (c159.or ((orcSum 66).or (orcTrue 10))) 1000000 (.call 12 [.ptr 2097 0, .int .i64 (.ofNat 64)]) ⟨.nil, []⟩ (l274.st (G.map fun g => (W, g)))) = true := by kernel_rfl
theorem ok_c160 : OrcOk Tryz.prog c160 := orcCut_ok (by kernel_rfl) (OrcOk.or ok_c159 (OrcOk.or (orcSum_ok evSum.any) evBegun.ok)) t_c160
end Go.Proofs.YtmjhcnkngaglmaaGreatDoor.persistClears
