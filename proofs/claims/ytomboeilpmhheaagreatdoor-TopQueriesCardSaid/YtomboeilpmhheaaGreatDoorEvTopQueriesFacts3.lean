/- TopQueries: closed facts of its row, each by itself. -/
import Derived.Test.YtomboeilpmhheaaGreatDoorRows
import Derived.JoinedOf
import Derived.SevenTiedAt
import Derived.KernelRfl
namespace Go.Proofs.YtomboeilpmhheaaGreatDoor.topQueries
open Go
set_option maxRecDepth 100000
theorem k12 : (Rows.topQueriesRow.named == Tryz.prog.varsNamed 4) = true := by kernel_rfl
theorem k22 : (Rows.topQueriesRow.plainKeys == Tryz.prog.plainKeys) = true := by kernel_rfl
theorem k2 : (mapsRowed Tryz.prog) = true := by kernel_rfl
theorem k7 : (Rows.topQueriesRow.knobs == []) = true := by kernel_rfl
theorem k17 : (Rows.topQueriesRow.wideKeys == (Tryz.f4.params.toList ++ Rows.topQueriesSpec.plain.varTypes Tryz.prog ++ Tryz.f4.resultTypes.toList).any (Tryz.prog.wideKeysFrom ·)) = true := by kernel_rfl
theorem k23 : (Rows.topQueriesRow.shortTexts.isNone) = true := by kernel_rfl
theorem inst : Tryz.f4.isInstance Tryz.prog Rows.topQueriesRow.origin Rows.topQueriesRow.targs := of_decide_eq_true (by kernel_rfl)
theorem wrap : Tryz.f4.isWrapper Tryz.prog Rows.topQueriesRow.wrapper Rows.topQueriesRow.mainSum := by unfold Func.isWrapper; first | (rw [if_pos (by decide +kernel)]; kernel_rfl) | (rw [if_neg (by decide +kernel)]; exact ⟨rfl, rfl⟩)
theorem looks : true = Tryz.prog.looks [] := by kernel_rfl
end Go.Proofs.YtomboeilpmhheaaGreatDoor.topQueries
