/- TopLost: closed facts of its row, each by itself. -/
import Derived.Test.YtomboeilpmhheaaGreatDoorRows
import Derived.JoinedOf
import Derived.SevenTiedAt
import Derived.KernelRfl
namespace Go.Proofs.YtomboeilpmhheaaGreatDoor.topLost
open Go
set_option maxRecDepth 100000
theorem k10 : (Rows.topLostRow.unfollowed == Tryz.prog.unfollowed 5) = true := by kernel_rfl
theorem k11 : (Rows.topLostRow.recurses == Tryz.prog.recurses 5) = true := by kernel_rfl
theorem k30 : (Rows.topLostRow.veiled == (Tryz.f5.params.toList ++ Rows.topLostSpec.plain.varTypes Tryz.prog ++ Tryz.f5.resultTypes.toList).any (Tryz.prog.veiledRec ·)) = true := by kernel_rfl
theorem k0 : (Rows.topLostRow.wf (OpenSpec.ofChange Rows.topLostSpec)) = true := by kernel_rfl
theorem k14 : (Rows.topLostRow.ifaces == (Tryz.f5.params.toList ++ Rows.topLostSpec.plain.varTypes Tryz.prog).any (Tryz.prog.ifacesRec ·)) = true := by kernel_rfl
theorem k19 : (Tryz.f5.resultTypes.all (fun t => Tryz.prog.readableRec t && decide (t < Tryz.prog.types.size))) = true := by kernel_rfl
theorem k28 : (Rows.topLostRow.kinds == (if Rows.topLostRow.domain.isEmpty then [] else Tryz.f5.params.toList.map fun t => match Tryz.prog.underlying t with | some (.int k) => some k | _ => none)) = true := by kernel_rfl
end Go.Proofs.YtomboeilpmhheaaGreatDoor.topLost
