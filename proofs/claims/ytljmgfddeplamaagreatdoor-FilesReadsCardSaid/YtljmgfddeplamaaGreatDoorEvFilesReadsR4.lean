/- FilesReads: from head to head, by the kernel. -/
import Derived.Test.YtljmgfddeplamaaGreatDoorEvFilesReadsS
import Derived.KernelRfl
namespace Go.Proofs.YtljmgfddeplamaaGreatDoor.filesReads
open Go Go.RowKit Go.YtljmgfddeplamaaGreatDoorEv
set_option linter.unusedVariables false
set_option linter.unusedSectionVars false
set_option maxRecDepth 100000
variable [Lane]

theorem o12 : atH pI (subL (slot (LX 0) (LY 12) (LX 0) LM 0) ta12) la12 (seg pO (subL (slot (LX 0) (LY 12) (LX 0) LM 0) to12) lo12) = true := by kernel_rfl
theorem s12 : allK (fun k => atH pI (inT ta12 ti12 (LX k) (LY 12) (LX 0) LM (k + 1)) (inL la12 li12 (k + 1)) (seg pI (inT ta12 ti12 (LX k) (LY 12) (LX 0) LM k) (inL la12 li12 k))) 20 = true := by kernel_rfl
theorem e12 : allK (fun k => atH pO (subL (slot (n6 (k + 1)) (LY 12) (n6 (k + 1)) (n6 k) 0) to13) lo13 (seg pI (subL (slot (n6 (k + 1)) (LY 12) uU uU (k + 1)) ti12) li12)) 20 = true := by kernel_rfl
theorem f13 : isFin Tryz.prog Tryz.f3 (seg pO (subL (slot (LX 0) (n6 13) (LX 0) LM 0) to13) lo13) = true := by kernel_rfl
theorem o13 : atH pI (subL (slot (LX 0) (LY 13) (LX 0) LM 0) ta13) la13 (seg pO (subL (slot (LX 0) (LY 13) (LX 0) LM 0) to13) lo13) = true := by kernel_rfl
theorem s13 : allK (fun k => atH pI (inT ta13 ti13 (LX k) (LY 13) (LX 0) LM (k + 1)) (inL la13 li13 (k + 1)) (seg pI (inT ta13 ti13 (LX k) (LY 13) (LX 0) LM k) (inL la13 li13 k))) 20 = true := by kernel_rfl
theorem e13 : allK (fun k => atH pO (subL (slot (n6 (k + 1)) (LY 13) (n6 (k + 1)) (n6 k) 0) to14) lo14 (seg pI (subL (slot (n6 (k + 1)) (LY 13) uU uU (k + 1)) ti13) li13)) 20 = true := by kernel_rfl
theorem f14 : isFin Tryz.prog Tryz.f3 (seg pO (subL (slot (LX 0) (n6 14) (LX 0) LM 0) to14) lo14) = true := by kernel_rfl
theorem o14 : atH pI (subL (slot (LX 0) (LY 14) (LX 0) LM 0) ta14) la14 (seg pO (subL (slot (LX 0) (LY 14) (LX 0) LM 0) to14) lo14) = true := by kernel_rfl
theorem s14 : allK (fun k => atH pI (inT ta14 ti14 (LX k) (LY 14) (LX 0) LM (k + 1)) (inL la14 li14 (k + 1)) (seg pI (inT ta14 ti14 (LX k) (LY 14) (LX 0) LM k) (inL la14 li14 k))) 20 = true := by kernel_rfl
theorem e14 : allK (fun k => atH pO (subL (slot (n6 (k + 1)) (LY 14) (n6 (k + 1)) (n6 k) 0) to15) lo15 (seg pI (subL (slot (n6 (k + 1)) (LY 14) uU uU (k + 1)) ti14) li14)) 20 = true := by kernel_rfl
theorem f15 : isFin Tryz.prog Tryz.f3 (seg pO (subL (slot (LX 0) (n6 15) (LX 0) LM 0) to15) lo15) = true := by kernel_rfl
end Go.Proofs.YtljmgfddeplamaaGreatDoor.filesReads
