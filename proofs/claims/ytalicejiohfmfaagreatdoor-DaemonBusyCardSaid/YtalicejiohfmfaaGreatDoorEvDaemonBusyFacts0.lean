/- DaemonBusy: closed facts of its row, each by itself. -/
import Derived.Test.YtalicejiohfmfaaGreatDoorRows
import Derived.JoinedOf
import Derived.SevenTiedAt
import Derived.KernelRfl
namespace Go.Proofs.YtalicejiohfmfaaGreatDoor.daemonBusy
open Go
set_option maxRecDepth 100000
theorem k10 : (Rows.daemonBusyRow.unfollowed == Tryz.prog.unfollowed 3) = true := by kernel_rfl
theorem k11 : (Rows.daemonBusyRow.recurses == Tryz.prog.recurses 3) = true := by kernel_rfl
theorem k30 : (Rows.daemonBusyRow.veiled == (Tryz.f3.params.toList ++ Rows.daemonBusySpec.plain.varTypes Tryz.prog ++ Tryz.f3.resultTypes.toList).any (Tryz.prog.veiledRec ·)) = true := by kernel_rfl
theorem k0 : (Rows.daemonBusyRow.wf (OpenSpec.ofChange Rows.daemonBusySpec)) = true := by kernel_rfl
theorem k14 : (Rows.daemonBusyRow.ifaces == (Tryz.f3.params.toList ++ Rows.daemonBusySpec.plain.varTypes Tryz.prog).any (Tryz.prog.ifacesRec ·)) = true := by kernel_rfl
theorem k19 : (Tryz.f3.resultTypes.all (fun t => Tryz.prog.readableRec t && decide (t < Tryz.prog.types.size))) = true := by kernel_rfl
theorem k28 : (Rows.daemonBusyRow.kinds == (if Rows.daemonBusyRow.domain.isEmpty then [] else Tryz.f3.params.toList.map fun t => match Tryz.prog.underlying t with | some (.int k) => some k | _ => none)) = true := by kernel_rfl
end Go.Proofs.YtalicejiohfmfaaGreatDoor.daemonBusy
