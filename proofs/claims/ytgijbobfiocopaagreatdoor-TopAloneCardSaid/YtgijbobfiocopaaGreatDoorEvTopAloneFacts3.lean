/- TopAlone: closed facts of its row, each by itself. -/
import Derived.Test.YtgijbobfiocopaaGreatDoorRows
import Derived.JoinedOf
import Derived.SevenTiedAt
import Derived.KernelRfl
namespace Go.Proofs.YtgijbobfiocopaaGreatDoor.topAlone
open Go
set_option maxRecDepth 100000
theorem k12 : (Rows.topAloneRow.named == Tryz.prog.varsNamed 3) = true := by kernel_rfl
theorem k22 : (Rows.topAloneRow.plainKeys == Tryz.prog.plainKeys) = true := by kernel_rfl
theorem k2 : (mapsRowed Tryz.prog) = true := by kernel_rfl
theorem k7 : (Rows.topAloneRow.knobs == []) = true := by kernel_rfl
theorem k17 : (Rows.topAloneRow.wideKeys == (Tryz.f3.params.toList ++ Rows.topAloneSpec.plain.varTypes Tryz.prog ++ Tryz.f3.resultTypes.toList).any (Tryz.prog.wideKeysFrom ·)) = true := by kernel_rfl
theorem k23 : (Rows.topAloneRow.shortTexts.isNone) = true := by kernel_rfl
theorem inst : Tryz.f3.isInstance Tryz.prog Rows.topAloneRow.origin Rows.topAloneRow.targs := of_decide_eq_true (by kernel_rfl)
theorem wrap : Tryz.f3.isWrapper Tryz.prog Rows.topAloneRow.wrapper Rows.topAloneRow.mainSum := by unfold Func.isWrapper; first | (rw [if_pos (by decide +kernel)]; kernel_rfl) | (rw [if_neg (by decide +kernel)]; exact ⟨rfl, rfl⟩)
theorem looks : true = Tryz.prog.looks [] := by kernel_rfl
end Go.Proofs.YtgijbobfiocopaaGreatDoor.topAlone
