/- FilesReads: from head to head, by the kernel. -/
import Derived.Test.YtljmgfddeplamaaGreatDoorEvFilesReadsS
import Derived.KernelRfl
namespace Go.Proofs.YtljmgfddeplamaaGreatDoor.filesReads
open Go Go.RowKit Go.YtljmgfddeplamaaGreatDoorEv
set_option linter.unusedVariables false
set_option linter.unusedSectionVars false
set_option maxRecDepth 100000
variable [Lane]

theorem o3 : atH pI (subL (slot (LX 0) (LY 3) (LX 0) LM 0) ta3) la3 (seg pO (subL (slot (LX 0) (LY 3) (LX 0) LM 0) to3) lo3) = true := by kernel_rfl
theorem s3 : allK (fun k => atH pI (inT ta3 ti3 (LX k) (LY 3) (LX 0) LM (k + 1)) (inL la3 li3 (k + 1)) (seg pI (inT ta3 ti3 (LX k) (LY 3) (LX 0) LM k) (inL la3 li3 k))) 20 = true := by kernel_rfl
theorem e3 : allK (fun k => atH pO (subL (slot (n6 (k + 1)) (LY 3) (n6 (k + 1)) (n6 k) 0) to4) lo4 (seg pI (subL (slot (n6 (k + 1)) (LY 3) uU uU (k + 1)) ti3) li3)) 20 = true := by kernel_rfl
theorem f4 : isFin Tryz.prog Tryz.f3 (seg pO (subL (slot (LX 0) (n6 4) (LX 0) LM 0) to4) lo4) = true := by kernel_rfl
theorem o4 : atH pI (subL (slot (LX 0) (LY 4) (LX 0) LM 0) ta4) la4 (seg pO (subL (slot (LX 0) (LY 4) (LX 0) LM 0) to4) lo4) = true := by kernel_rfl
theorem s4 : allK (fun k => atH pI (inT ta4 ti4 (LX k) (LY 4) (LX 0) LM (k + 1)) (inL la4 li4 (k + 1)) (seg pI (inT ta4 ti4 (LX k) (LY 4) (LX 0) LM k) (inL la4 li4 k))) 20 = true := by kernel_rfl
theorem e4 : allK (fun k => atH pO (subL (slot (n6 (k + 1)) (LY 4) (n6 (k + 1)) (n6 k) 0) to5) lo5 (seg pI (subL (slot (n6 (k + 1)) (LY 4) uU uU (k + 1)) ti4) li4)) 20 = true := by kernel_rfl
theorem f5 : isFin Tryz.prog Tryz.f3 (seg pO (subL (slot (LX 0) (n6 5) (LX 0) LM 0) to5) lo5) = true := by kernel_rfl
theorem o5 : atH pI (subL (slot (LX 0) (LY 5) (LX 0) LM 0) ta5) la5 (seg pO (subL (slot (LX 0) (LY 5) (LX 0) LM 0) to5) lo5) = true := by kernel_rfl
theorem s5 : allK (fun k => atH pI (inT ta5 ti5 (LX k) (LY 5) (LX 0) LM (k + 1)) (inL la5 li5 (k + 1)) (seg pI (inT ta5 ti5 (LX k) (LY 5) (LX 0) LM k) (inL la5 li5 k))) 20 = true := by kernel_rfl
theorem e5 : allK (fun k => atH pO (subL (slot (n6 (k + 1)) (LY 5) (n6 (k + 1)) (n6 k) 0) to6) lo6 (seg pI (subL (slot (n6 (k + 1)) (LY 5) uU uU (k + 1)) ti5) li5)) 20 = true := by kernel_rfl
theorem f6 : isFin Tryz.prog Tryz.f3 (seg pO (subL (slot (LX 0) (n6 6) (LX 0) LM 0) to6) lo6) = true := by kernel_rfl
end Go.Proofs.YtljmgfddeplamaaGreatDoor.filesReads
