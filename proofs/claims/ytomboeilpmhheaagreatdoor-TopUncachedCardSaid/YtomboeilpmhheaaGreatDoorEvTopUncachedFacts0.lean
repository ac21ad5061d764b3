/- TopUncached: closed facts of its row, each by itself. -/
import Derived.Test.YtomboeilpmhheaaGreatDoorRows
import Derived.JoinedOf
import Derived.SevenTiedAt
import Derived.KernelRfl
namespace Go.Proofs.YtomboeilpmhheaaGreatDoor.topUncached
open Go
set_option maxRecDepth 100000
theorem k10 : (Rows.topUncachedRow.unfollowed == Tryz.prog.unfollowed 6) = true := by kernel_rfl
theorem k11 : (Rows.topUncachedRow.recurses == Tryz.prog.recurses 6) = true := by kernel_rfl
theorem k30 : (Rows.topUncachedRow.veiled == (Tryz.f6.params.toList ++ Rows.topUncachedSpec.plain.varTypes Tryz.prog ++ Tryz.f6.resultTypes.toList).any (Tryz.prog.veiledRec ·)) = true := by kernel_rfl
theorem k0 : (Rows.topUncachedRow.wf (OpenSpec.ofChange Rows.topUncachedSpec)) = true := by kernel_rfl
theorem k14 : (Rows.topUncachedRow.ifaces == (Tryz.f6.params.toList ++ Rows.topUncachedSpec.plain.varTypes Tryz.prog).any (Tryz.prog.ifacesRec ·)) = true := by kernel_rfl
theorem k19 : (Tryz.f6.resultTypes.all (fun t => Tryz.prog.readableRec t && decide (t < Tryz.prog.types.size))) = true := by kernel_rfl
theorem k28 : (Rows.topUncachedRow.kinds == (if Rows.topUncachedRow.domain.isEmpty then [] else Tryz.f6.params.toList.map fun t => match Tryz.prog.underlying t with | some (.int k) => some k | _ => none)) = true := by kernel_rfl
end Go.Proofs.YtomboeilpmhheaaGreatDoor.topUncached
