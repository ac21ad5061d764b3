/- DaemonBusy: closed facts of its row, each by itself. -/
import Derived.Test.YtalicejiohfmfaaGreatDoorRows
import Derived.JoinedOf
import Derived.SevenTiedAt
import Derived.KernelRfl
namespace Go.Proofs.YtalicejiohfmfaaGreatDoor.daemonBusy
open Go
set_option maxRecDepth 100000
theorem k12 : (Rows.daemonBusyRow.named == Tryz.prog.varsNamed 3) = true := by kernel_rfl
theorem k22 : (Rows.daemonBusyRow.plainKeys == Tryz.prog.plainKeys) = true := by kernel_rfl
theorem k2 : (mapsRowed Tryz.prog) = true := by kernel_rfl
theorem k7 : (Rows.daemonBusyRow.knobs == []) = true := by kernel_rfl
theorem k17 : (Rows.daemonBusyRow.wideKeys == (Tryz.f3.params.toList ++ Rows.daemonBusySpec.plain.varTypes Tryz.prog ++ Tryz.f3.resultTypes.toList).any (Tryz.prog.wideKeysFrom ·)) = true := by kernel_rfl
theorem k23 : (Rows.daemonBusyRow.shortTexts.isNone) = true := by kernel_rfl
theorem inst : Tryz.f3.isInstance Tryz.prog Rows.daemonBusyRow.origin Rows.daemonBusyRow.targs := of_decide_eq_true (by kernel_rfl)
theorem wrap : Tryz.f3.isWrapper Tryz.prog Rows.daemonBusyRow.wrapper Rows.daemonBusyRow.mainSum := by unfold Func.isWrapper; first | (rw [if_pos (by decide +kernel)]; kernel_rfl) | (rw [if_neg (by decide +kernel)]; exact ⟨rfl, rfl⟩)
theorem looks : true = Tryz.prog.looks [] := by kernel_rfl
end Go.Proofs.YtalicejiohfmfaaGreatDoor.daemonBusy
