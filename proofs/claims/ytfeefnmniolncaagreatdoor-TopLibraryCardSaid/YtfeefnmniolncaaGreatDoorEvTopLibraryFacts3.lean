/- TopLibrary: closed facts of its row, each by itself. -/
import Derived.Test.YtfeefnmniolncaaGreatDoorRows
import Derived.JoinedOf
import Derived.SevenTiedAt
import Derived.KernelRfl
namespace Go.Proofs.YtfeefnmniolncaaGreatDoor.topLibrary
open Go
set_option maxRecDepth 100000
theorem k12 : (Rows.topLibraryRow.named == Tryz.prog.varsNamed 5) = true := by kernel_rfl
theorem k22 : (Rows.topLibraryRow.plainKeys == Tryz.prog.plainKeys) = true := by kernel_rfl
theorem k2 : (mapsRowed Tryz.prog) = true := by kernel_rfl
theorem k7 : (Rows.topLibraryRow.knobs == []) = true := by kernel_rfl
theorem k17 : (Rows.topLibraryRow.wideKeys == (Tryz.f5.params.toList ++ Rows.topLibrarySpec.plain.varTypes Tryz.prog ++ Tryz.f5.resultTypes.toList).any (Tryz.prog.wideKeysFrom ·)) = true := by kernel_rfl
theorem k23 : (Rows.topLibraryRow.shortTexts.isNone) = true := by kernel_rfl
theorem inst : Tryz.f5.isInstance Tryz.prog Rows.topLibraryRow.origin Rows.topLibraryRow.targs := of_decide_eq_true (by kernel_rfl)
theorem wrap : Tryz.f5.isWrapper Tryz.prog Rows.topLibraryRow.wrapper Rows.topLibraryRow.mainSum := by unfold Func.isWrapper; first | (rw [if_pos (by decide +kernel)]; kernel_rfl) | (rw [if_neg (by decide +kernel)]; exact ⟨rfl, rfl⟩)
theorem looks : true = Tryz.prog.looks [] := by kernel_rfl
end Go.Proofs.YtfeefnmniolncaaGreatDoor.topLibrary
