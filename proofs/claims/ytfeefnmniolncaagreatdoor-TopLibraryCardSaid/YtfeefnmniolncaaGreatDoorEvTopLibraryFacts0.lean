/- TopLibrary: closed facts of its row, each by itself. -/
import Derived.Test.YtfeefnmniolncaaGreatDoorRows
import Derived.JoinedOf
import Derived.SevenTiedAt
import Derived.KernelRfl
namespace Go.Proofs.YtfeefnmniolncaaGreatDoor.topLibrary
open Go
set_option maxRecDepth 100000
theorem k10 : (Rows.topLibraryRow.unfollowed == Tryz.prog.unfollowed 5) = true := by kernel_rfl
theorem k11 : (Rows.topLibraryRow.recurses == Tryz.prog.recurses 5) = true := by kernel_rfl
theorem k30 : (Rows.topLibraryRow.veiled == (Tryz.f5.params.toList ++ Rows.topLibrarySpec.plain.varTypes Tryz.prog ++ Tryz.f5.resultTypes.toList).any (Tryz.prog.veiledRec ·)) = true := by kernel_rfl
theorem k0 : (Rows.topLibraryRow.wf (OpenSpec.ofChange Rows.topLibrarySpec)) = true := by kernel_rfl
theorem k14 : (Rows.topLibraryRow.ifaces == (Tryz.f5.params.toList ++ Rows.topLibrarySpec.plain.varTypes Tryz.prog).any (Tryz.prog.ifacesRec ·)) = true := by kernel_rfl
theorem k19 : (Tryz.f5.resultTypes.all (fun t => Tryz.prog.readableRec t && decide (t < Tryz.prog.types.size))) = true := by kernel_rfl
theorem k28 : (Rows.topLibraryRow.kinds == (if Rows.topLibraryRow.domain.isEmpty then [] else Tryz.f5.params.toList.map fun t => match Tryz.prog.underlying t with | some (.int k) => some k | _ => none)) = true := by kernel_rfl
end Go.Proofs.YtfeefnmniolncaaGreatDoor.topLibrary
