/- TopStream: closed facts of its row, each by itself. -/
import Derived.Test.YtjkjkhfmalgenaaGreatDoorRows
import Derived.JoinedOf
import Derived.SevenTiedAt
import Derived.KernelRfl
namespace Go.Proofs.YtjkjkhfmalgenaaGreatDoor.topStream
open Go
set_option maxRecDepth 100000
theorem k12 : (Rows.topStreamRow.named == Tryz.prog.varsNamed 3) = true := by kernel_rfl
theorem k22 : (Rows.topStreamRow.plainKeys == Tryz.prog.plainKeys) = true := by kernel_rfl
theorem k2 : (mapsRowed Tryz.prog) = true := by kernel_rfl
theorem k7 : (Rows.topStreamRow.knobs == []) = true := by kernel_rfl
theorem k17 : (Rows.topStreamRow.wideKeys == (Tryz.f3.params.toList ++ Rows.topStreamSpec.plain.varTypes Tryz.prog ++ Tryz.f3.resultTypes.toList).any (Tryz.prog.wideKeysFrom ·)) = true := by kernel_rfl
theorem k23 : (Rows.topStreamRow.shortTexts.isNone) = true := by kernel_rfl
theorem inst : Tryz.f3.isInstance Tryz.prog Rows.topStreamRow.origin Rows.topStreamRow.targs := of_decide_eq_true (by kernel_rfl)
theorem wrap : Tryz.f3.isWrapper Tryz.prog Rows.topStreamRow.wrapper Rows.topStreamRow.mainSum := by unfold Func.isWrapper; first | (rw [if_pos (by decide +kernel)]; kernel_rfl) | (rw [if_neg (by decide +kernel)]; exact ⟨rfl, rfl⟩)
theorem looks : true = Tryz.prog.looks [] := by kernel_rfl
end Go.Proofs.YtjkjkhfmalgenaaGreatDoor.topStream
