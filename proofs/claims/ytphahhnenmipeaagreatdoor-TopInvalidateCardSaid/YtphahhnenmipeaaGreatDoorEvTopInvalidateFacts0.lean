/- TopInvalidate: closed facts of its row, each by itself. -/
import Derived.Test.YtphahhnenmipeaaGreatDoorRows
import Derived.JoinedOf
import Derived.SevenTiedAt
import Derived.KernelRfl
namespace Go.Proofs.YtphahhnenmipeaaGreatDoor.topInvalidate
open Go
set_option maxRecDepth 100000
theorem k10 : (Rows.topInvalidateRow.unfollowed == Tryz.prog.unfollowed 5) = true := by kernel_rfl
theorem k11 : (Rows.topInvalidateRow.recurses == Tryz.prog.recurses 5) = true := by kernel_rfl
theorem k30 : (Rows.topInvalidateRow.veiled == (Tryz.f5.params.toList ++ Rows.topInvalidateSpec.plain.varTypes Tryz.prog ++ Tryz.f5.resultTypes.toList).any (Tryz.prog.veiledRec ·)) = true := by kernel_rfl
theorem k0 : (Rows.topInvalidateRow.wf (OpenSpec.ofChange Rows.topInvalidateSpec)) = true := by kernel_rfl
theorem k14 : (Rows.topInvalidateRow.ifaces == (Tryz.f5.params.toList ++ Rows.topInvalidateSpec.plain.varTypes Tryz.prog).any (Tryz.prog.ifacesRec ·)) = true := by kernel_rfl
theorem k19 : (Tryz.f5.resultTypes.all (fun t => Tryz.prog.readableRec t && decide (t < Tryz.prog.types.size))) = true := by kernel_rfl
theorem k28 : (Rows.topInvalidateRow.kinds == (if Rows.topInvalidateRow.domain.isEmpty then [] else Tryz.f5.params.toList.map fun t => match Tryz.prog.underlying t with | some (.int k) => some k | _ => none)) = true := by kernel_rfl
end Go.Proofs.YtphahhnenmipeaaGreatDoor.topInvalidate
