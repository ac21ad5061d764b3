/- TopLink: closed facts of its row, each by itself. -/
import Derived.Test.YtaijiiohebcakaaGreatDoorRows
import Derived.JoinedOf
import Derived.SevenTiedAt
import Derived.KernelRfl
namespace Go.Proofs.YtaijiiohebcakaaGreatDoor.topLink
open Go
set_option maxRecDepth 100000
theorem k10 : (Rows.topLinkRow.unfollowed == Tryz.prog.unfollowed 4) = true := by kernel_rfl
theorem k11 : (Rows.topLinkRow.recurses == Tryz.prog.recurses 4) = true := by kernel_rfl
theorem k30 : (Rows.topLinkRow.veiled == (Tryz.f4.params.toList ++ Rows.topLinkSpec.plain.varTypes Tryz.prog ++ Tryz.f4.resultTypes.toList).any (Tryz.prog.veiledRec ·)) = true := by kernel_rfl
theorem k0 : (Rows.topLinkRow.wf (OpenSpec.ofChange Rows.topLinkSpec)) = true := by kernel_rfl
theorem k14 : (Rows.topLinkRow.ifaces == (Tryz.f4.params.toList ++ Rows.topLinkSpec.plain.varTypes Tryz.prog).any (Tryz.prog.ifacesRec ·)) = true := by kernel_rfl
theorem k19 : (Tryz.f4.resultTypes.all (fun t => Tryz.prog.readableRec t && decide (t < Tryz.prog.types.size))) = true := by kernel_rfl
theorem k28 : (Rows.topLinkRow.kinds == (if Rows.topLinkRow.domain.isEmpty then [] else Tryz.f4.params.toList.map fun t => match Tryz.prog.underlying t with | some (.int k) => some k | _ => none)) = true := by kernel_rfl
end Go.Proofs.YtaijiiohebcakaaGreatDoor.topLink
