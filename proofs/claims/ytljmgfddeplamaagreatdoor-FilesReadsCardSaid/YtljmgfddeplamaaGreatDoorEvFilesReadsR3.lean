/- FilesReads: from head to head, by the kernel. -/
import Derived.Test.YtljmgfddeplamaaGreatDoorEvFilesReadsS
import Derived.KernelRfl
namespace Go.Proofs.YtljmgfddeplamaaGreatDoor.filesReads
open Go Go.RowKit Go.YtljmgfddeplamaaGreatDoorEv
set_option linter.unusedVariables false
set_option linter.unusedSectionVars false
set_option maxRecDepth 100000
variable [Lane]

theorem o9 : atH pI (subL (slot (LX 0) (LY 9) (LX 0) LM 0) ta9) la9 (seg pO (subL (slot (LX 0) (LY 9) (LX 0) LM 0) to9) lo9) = true := by kernel_rfl
theorem s9 : allK (fun k => atH pI (inT ta9 ti9 (LX k) (LY 9) (LX 0) LM (k + 1)) (inL la9 li9 (k + 1)) (seg pI (inT ta9 ti9 (LX k) (LY 9) (LX 0) LM k) (inL la9 li9 k))) 20 = true := by kernel_rfl
theorem e9 : allK (fun k => atH pO (subL (slot (n6 (k + 1)) (LY 9) (n6 (k + 1)) (n6 k) 0) to10) lo10 (seg pI (subL (slot (n6 (k + 1)) (LY 9) uU uU (k + 1)) ti9) li9)) 20 = true := by kernel_rfl
theorem f10 : isFin Tryz.prog Tryz.f3 (seg pO (subL (slot (LX 0) (n6 10) (LX 0) LM 0) to10) lo10) = true := by kernel_rfl
theorem o10 : atH pI (subL (slot (LX 0) (LY 10) (LX 0) LM 0) ta10) la10 (seg pO (subL (slot (LX 0) (LY 10) (LX 0) LM 0) to10) lo10) = true := by kernel_rfl
theorem s10 : allK (fun k => atH pI (inT ta10 ti10 (LX k) (LY 10) (LX 0) LM (k + 1)) (inL la10 li10 (k + 1)) (seg pI (inT ta10 ti10 (LX k) (LY 10) (LX 0) LM k) (inL la10 li10 k))) 20 = true := by kernel_rfl
theorem e10 : allK (fun k => atH pO (subL (slot (n6 (k + 1)) (LY 10) (n6 (k + 1)) (n6 k) 0) to11) lo11 (seg pI (subL (slot (n6 (k + 1)) (LY 10) uU uU (k + 1)) ti10) li10)) 20 = true := by kernel_rfl
theorem f11 : isFin Tryz.prog Tryz.f3 (seg pO (subL (slot (LX 0) (n6 11) (LX 0) LM 0) to11) lo11) = true := by kernel_rfl
theorem o11 : atH pI (subL (slot (LX 0) (LY 11) (LX 0) LM 0) ta11) la11 (seg pO (subL (slot (LX 0) (LY 11) (LX 0) LM 0) to11) lo11) = true := by kernel_rfl
theorem s11 : allK (fun k => atH pI (inT ta11 ti11 (LX k) (LY 11) (LX 0) LM (k + 1)) (inL la11 li11 (k + 1)) (seg pI (inT ta11 ti11 (LX k) (LY 11) (LX 0) LM k) (inL la11 li11 k))) 20 = true := by kernel_rfl
theorem e11 : allK (fun k => atH pO (subL (slot (n6 (k + 1)) (LY 11) (n6 (k + 1)) (n6 k) 0) to12) lo12 (seg pI (subL (slot (n6 (k + 1)) (LY 11) uU uU (k + 1)) ti11) li11)) 20 = true := by kernel_rfl
theorem f12 : isFin Tryz.prog Tryz.f3 (seg pO (subL (slot (LX 0) (n6 12) (LX 0) LM 0) to12) lo12) = true := by kernel_rfl
end Go.Proofs.YtljmgfddeplamaaGreatDoor.filesReads
