/- TopLink: closed facts of its row, each by itself. -/
import Derived.Test.YtaijiiohebcakaaGreatDoorRows
import Derived.JoinedOf
import Derived.SevenTiedAt
import Derived.KernelRfl
namespace Go.Proofs.YtaijiiohebcakaaGreatDoor.topLink
open Go
set_option maxRecDepth 100000
theorem k12 : (Rows.topLinkRow.named == Tryz.prog.varsNamed 4) = true := by kernel_rfl
theorem k22 : (Rows.topLinkRow.plainKeys == Tryz.prog.plainKeys) = true := by kernel_rfl
theorem k2 : (mapsRowed Tryz.prog) = true := by kernel_rfl
theorem k7 : (Rows.topLinkRow.knobs == []) = true := by kernel_rfl
theorem k17 : (Rows.topLinkRow.wideKeys == (Tryz.f4.params.toList ++ Rows.topLinkSpec.plain.varTypes Tryz.prog ++ Tryz.f4.resultTypes.toList).any (Tryz.prog.wideKeysFrom ·)) = true := by kernel_rfl
theorem k23 : (Rows.topLinkRow.shortTexts.isNone) = true := by kernel_rfl
theorem inst : Tryz.f4.isInstance Tryz.prog Rows.topLinkRow.origin Rows.topLinkRow.targs := of_decide_eq_true (by kernel_rfl)
theorem wrap : Tryz.f4.isWrapper Tryz.prog Rows.topLinkRow.wrapper Rows.topLinkRow.mainSum := by unfold Func.isWrapper; first | (rw [if_pos (by decide +kernel)]; kernel_rfl) | (rw [if_neg (by decide +kernel)]; exact ⟨rfl, rfl⟩)
theorem looks : true = Tryz.prog.looks [] := by kernel_rfl
end Go.Proofs.YtaijiiohebcakaaGreatDoor.topLink
