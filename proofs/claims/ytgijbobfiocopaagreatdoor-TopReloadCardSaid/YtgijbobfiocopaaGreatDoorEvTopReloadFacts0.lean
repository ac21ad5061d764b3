/- TopReload: closed facts of its row, each by itself. -/
import Derived.Test.YtgijbobfiocopaaGreatDoorRows
import Derived.JoinedOf
import Derived.SevenTiedAt
import Derived.KernelRfl
namespace Go.Proofs.YtgijbobfiocopaaGreatDoor.topReload
open Go
set_option maxRecDepth 100000
theorem k10 : (Rows.topReloadRow.unfollowed == Tryz.prog.unfollowed 4) = true := by kernel_rfl
theorem k11 : (Rows.topReloadRow.recurses == Tryz.prog.recurses 4) = true := by kernel_rfl
theorem k30 : (Rows.topReloadRow.veiled == (Tryz.f4.params.toList ++ Rows.topReloadSpec.plain.varTypes Tryz.prog ++ Tryz.f4.resultTypes.toList).any (Tryz.prog.veiledRec ·)) = true := by kernel_rfl
theorem k0 : (Rows.topReloadRow.wf (OpenSpec.ofChange Rows.topReloadSpec)) = true := by kernel_rfl
theorem k14 : (Rows.topReloadRow.ifaces == (Tryz.f4.params.toList ++ Rows.topReloadSpec.plain.varTypes Tryz.prog).any (Tryz.prog.ifacesRec ·)) = true := by kernel_rfl
theorem k19 : (Tryz.f4.resultTypes.all (fun t => Tryz.prog.readableRec t && decide (t < Tryz.prog.types.size))) = true := by kernel_rfl
theorem k28 : (Rows.topReloadRow.kinds == (if Rows.topReloadRow.domain.isEmpty then [] else Tryz.f4.params.toList.map fun t => match Tryz.prog.underlying t with | some (.int k) => some k | _ => none)) = true := by kernel_rfl
end Go.Proofs.YtgijbobfiocopaaGreatDoor.topReload
