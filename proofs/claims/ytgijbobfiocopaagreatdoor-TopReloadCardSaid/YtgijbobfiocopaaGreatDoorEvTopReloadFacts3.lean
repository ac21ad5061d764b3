/- TopReload: closed facts of its row, each by itself. -/
import Derived.Test.YtgijbobfiocopaaGreatDoorRows
import Derived.JoinedOf
import Derived.SevenTiedAt
import Derived.KernelRfl
namespace Go.Proofs.YtgijbobfiocopaaGreatDoor.topReload
open Go
set_option maxRecDepth 100000
theorem k12 : (Rows.topReloadRow.named == Tryz.prog.varsNamed 4) = true := by kernel_rfl
theorem k22 : (Rows.topReloadRow.plainKeys == Tryz.prog.plainKeys) = true := by kernel_rfl
theorem k2 : (mapsRowed Tryz.prog) = true := by kernel_rfl
theorem k7 : (Rows.topReloadRow.knobs == []) = true := by kernel_rfl
theorem k17 : (Rows.topReloadRow.wideKeys == (Tryz.f4.params.toList ++ Rows.topReloadSpec.plain.varTypes Tryz.prog ++ Tryz.f4.resultTypes.toList).any (Tryz.prog.wideKeysFrom ·)) = true := by kernel_rfl
theorem k23 : (Rows.topReloadRow.shortTexts.isNone) = true := by kernel_rfl
theorem inst : Tryz.f4.isInstance Tryz.prog Rows.topReloadRow.origin Rows.topReloadRow.targs := of_decide_eq_true (by kernel_rfl)
theorem wrap : Tryz.f4.isWrapper Tryz.prog Rows.topReloadRow.wrapper Rows.topReloadRow.mainSum := by unfold Func.isWrapper; first | (rw [if_pos (by decide +kernel)]; kernel_rfl) | (rw [if_neg (by decide +kernel)]; exact ⟨rfl, rfl⟩)
theorem looks : true = Tryz.prog.looks [] := by kernel_rfl
end Go.Proofs.YtgijbobfiocopaaGreatDoor.topReload
