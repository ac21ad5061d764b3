/- TopInvalidate: closed facts of its row, each by itself. -/
import Derived.Test.YtphahhnenmipeaaGreatDoorRows
import Derived.JoinedOf
import Derived.SevenTiedAt
import Derived.KernelRfl
namespace Go.Proofs.YtphahhnenmipeaaGreatDoor.topInvalidate
open Go
set_option maxRecDepth 100000
theorem k12 : (Rows.topInvalidateRow.named == Tryz.prog.varsNamed 5) = true := by kernel_rfl
theorem k22 : (Rows.topInvalidateRow.plainKeys == Tryz.prog.plainKeys) = true := by kernel_rfl
theorem k2 : (mapsRowed Tryz.prog) = true := by kernel_rfl
theorem k7 : (Rows.topInvalidateRow.knobs == []) = true := by kernel_rfl
theorem k17 : (Rows.topInvalidateRow.wideKeys == (Tryz.f5.params.toList ++ Rows.topInvalidateSpec.plain.varTypes Tryz.prog ++ Tryz.f5.resultTypes.toList).any (Tryz.prog.wideKeysFrom ·)) = true := by kernel_rfl
theorem k23 : (Rows.topInvalidateRow.shortTexts.isNone) = true := by kernel_rfl
theorem inst : Tryz.f5.isInstance Tryz.prog Rows.topInvalidateRow.origin Rows.topInvalidateRow.targs := of_decide_eq_true (by kernel_rfl)
theorem wrap : Tryz.f5.isWrapper Tryz.prog Rows.topInvalidateRow.wrapper Rows.topInvalidateRow.mainSum := by unfold Func.isWrapper; first | (rw [if_pos (by decide +kernel)]; kernel_rfl) | (rw [if_neg (by decide +kernel)]; exact ⟨rfl, rfl⟩)
theorem looks : true = Tryz.prog.looks [] := by kernel_rfl
end Go.Proofs.YtphahhnenmipeaaGreatDoor.topInvalidate
