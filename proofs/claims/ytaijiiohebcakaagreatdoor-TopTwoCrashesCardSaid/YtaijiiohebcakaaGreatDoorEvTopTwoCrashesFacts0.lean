/- TopTwoCrashes: closed facts of its row, each by itself. -/
import Derived.Test.YtaijiiohebcakaaGreatDoorRows
import Derived.JoinedOf
import Derived.SevenTiedAt
import Derived.KernelRfl
namespace Go.Proofs.YtaijiiohebcakaaGreatDoor.topTwoCrashes
open Go
set_option maxRecDepth 100000
theorem k10 : (Rows.topTwoCrashesRow.unfollowed == Tryz.prog.unfollowed 5) = true := by kernel_rfl
theorem k11 : (Rows.topTwoCrashesRow.recurses == Tryz.prog.recurses 5) = true := by kernel_rfl
theorem k30 : (Rows.topTwoCrashesRow.veiled == (Tryz.f5.params.toList ++ Rows.topTwoCrashesSpec.plain.varTypes Tryz.prog ++ Tryz.f5.resultTypes.toList).any (Tryz.prog.veiledRec ·)) = true := by kernel_rfl
theorem k0 : (Rows.topTwoCrashesRow.wf (OpenSpec.ofChange Rows.topTwoCrashesSpec)) = true := by kernel_rfl
theorem k14 : (Rows.topTwoCrashesRow.ifaces == (Tryz.f5.params.toList ++ Rows.topTwoCrashesSpec.plain.varTypes Tryz.prog).any (Tryz.prog.ifacesRec ·)) = true := by kernel_rfl
theorem k19 : (Tryz.f5.resultTypes.all (fun t => Tryz.prog.readableRec t && decide (t < Tryz.prog.types.size))) = true := by kernel_rfl
theorem k28 : (Rows.topTwoCrashesRow.kinds == (if Rows.topTwoCrashesRow.domain.isEmpty then [] else Tryz.f5.params.toList.map fun t => match Tryz.prog.underlying t with | some (.int k) => some k | _ => none)) = true := by kernel_rfl
end Go.Proofs.YtaijiiohebcakaaGreatDoor.topTwoCrashes
