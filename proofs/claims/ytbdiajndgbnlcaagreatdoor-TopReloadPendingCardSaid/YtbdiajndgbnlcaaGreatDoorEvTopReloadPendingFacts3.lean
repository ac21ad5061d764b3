/- TopReloadPending: closed facts of its row, each by itself. -/
import Derived.Test.YtbdiajndgbnlcaaGreatDoorRows
import Derived.JoinedOf
import Derived.SevenTiedAt
import Derived.KernelRfl
namespace Go.Proofs.YtbdiajndgbnlcaaGreatDoor.topReloadPending
open Go
set_option maxRecDepth 100000
theorem k12 : (Rows.topReloadPendingRow.named == Tryz.prog.varsNamed 5) = true := by kernel_rfl
theorem k22 : (Rows.topReloadPendingRow.plainKeys == Tryz.prog.plainKeys) = true := by kernel_rfl
theorem k2 : (mapsRowed Tryz.prog) = true := by kernel_rfl
theorem k7 : (Rows.topReloadPendingRow.knobs == []) = true := by kernel_rfl
theorem k17 : (Rows.topReloadPendingRow.wideKeys == (Tryz.f5.params.toList ++ Rows.topReloadPendingSpec.plain.varTypes Tryz.prog ++ Tryz.f5.resultTypes.toList).any (Tryz.prog.wideKeysFrom ·)) = true := by kernel_rfl
theorem k23 : (Rows.topReloadPendingRow.shortTexts.isNone) = true := by kernel_rfl
theorem inst : Tryz.f5.isInstance Tryz.prog Rows.topReloadPendingRow.origin Rows.topReloadPendingRow.targs := of_decide_eq_true (by kernel_rfl)
theorem wrap : Tryz.f5.isWrapper Tryz.prog Rows.topReloadPendingRow.wrapper Rows.topReloadPendingRow.mainSum := by unfold Func.isWrapper; first | (rw [if_pos (by decide +kernel)]; kernel_rfl) | (rw [if_neg (by decide +kernel)]; exact ⟨rfl, rfl⟩)
theorem looks : true = Tryz.prog.looks [] := by kernel_rfl
end Go.Proofs.YtbdiajndgbnlcaaGreatDoor.topReloadPending
