/- TopUncached: closed facts of its row, each by itself. -/
import Derived.Test.YtomboeilpmhheaaGreatDoorRows
import Derived.JoinedOf
import Derived.SevenTiedAt
import Derived.KernelRfl
namespace Go.Proofs.YtomboeilpmhheaaGreatDoor.topUncached
open Go
set_option maxRecDepth 100000
theorem k12 : (Rows.topUncachedRow.named == Tryz.prog.varsNamed 6) = true := by kernel_rfl
theorem k22 : (Rows.topUncachedRow.plainKeys == Tryz.prog.plainKeys) = true := by kernel_rfl
theorem k2 : (mapsRowed Tryz.prog) = true := by kernel_rfl
theorem k7 : (Rows.topUncachedRow.knobs == []) = true := by kernel_rfl
theorem k17 : (Rows.topUncachedRow.wideKeys == (Tryz.f6.params.toList ++ Rows.topUncachedSpec.plain.varTypes Tryz.prog ++ Tryz.f6.resultTypes.toList).any (Tryz.prog.wideKeysFrom ·)) = true := by kernel_rfl
theorem k23 : (Rows.topUncachedRow.shortTexts.isNone) = true := by kernel_rfl
theorem inst : Tryz.f6.isInstance Tryz.prog Rows.topUncachedRow.origin Rows.topUncachedRow.targs := of_decide_eq_true (by kernel_rfl)
theorem wrap : Tryz.f6.isWrapper Tryz.prog Rows.topUncachedRow.wrapper Rows.topUncachedRow.mainSum := by unfold Func.isWrapper; first | (rw [if_pos (by decide +kernel)]; kernel_rfl) | (rw [if_neg (by decide +kernel)]; exact ⟨rfl, rfl⟩)
theorem looks : true = Tryz.prog.looks [] := by kernel_rfl
end Go.Proofs.YtomboeilpmhheaaGreatDoor.topUncached
