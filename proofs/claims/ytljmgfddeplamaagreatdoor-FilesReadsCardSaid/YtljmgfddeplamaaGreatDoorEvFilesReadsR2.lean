/- FilesReads: from head to head, by the kernel. -/
import Derived.Test.YtljmgfddeplamaaGreatDoorEvFilesReadsS
import Derived.KernelRfl
namespace Go.Proofs.YtljmgfddeplamaaGreatDoor.filesReads
open Go Go.RowKit Go.YtljmgfddeplamaaGreatDoorEv
set_option linter.unusedVariables false
set_option linter.unusedSectionVars false
set_option maxRecDepth 100000
variable [Lane]

theorem o6 : atH pI (subL (slot (LX 0) (LY 6) (LX 0) LM 0) ta6) la6 (seg pO (subL (slot (LX 0) (LY 6) (LX 0) LM 0) to6) lo6) = true := by kernel_rfl
theorem s6 : allK (fun k => atH pI (inT ta6 ti6 (LX k) (LY 6) (LX 0) LM (k + 1)) (inL la6 li6 (k + 1)) (seg pI (inT ta6 ti6 (LX k) (LY 6) (LX 0) LM k) (inL la6 li6 k))) 20 = true := by kernel_rfl
theorem e6 : allK (fun k => atH pO (subL (slot (n6 (k + 1)) (LY 6) (n6 (k + 1)) (n6 k) 0) to7) lo7 (seg pI (subL (slot (n6 (k + 1)) (LY 6) uU uU (k + 1)) ti6) li6)) 20 = true := by kernel_rfl
theorem f7 : isFin Tryz.prog Tryz.f3 (seg pO (subL (slot (LX 0) (n6 7) (LX 0) LM 0) to7) lo7) = true := by kernel_rfl
theorem o7 : atH pI (subL (slot (LX 0) (LY 7) (LX 0) LM 0) ta7) la7 (seg pO (subL (slot (LX 0) (LY 7) (LX 0) LM 0) to7) lo7) = true := by kernel_rfl
theorem s7 : allK (fun k => atH pI (inT ta7 ti7 (LX k) (LY 7) (LX 0) LM (k + 1)) (inL la7 li7 (k + 1)) (seg pI (inT ta7 ti7 (LX k) (LY 7) (LX 0) LM k) (inL la7 li7 k))) 20 = true := by kernel_rfl
theorem e7 : allK (fun k => atH pO (subL (slot (n6 (k + 1)) (LY 7) (n6 (k + 1)) (n6 k) 0) to8) lo8 (seg pI (subL (slot (n6 (k + 1)) (LY 7) uU uU (k + 1)) ti7) li7)) 20 = true := by kernel_rfl
theorem f8 : isFin Tryz.prog Tryz.f3 (seg pO (subL (slot (LX 0) (n6 8) (LX 0) LM 0) to8) lo8) = true := by kernel_rfl
theorem o8 : atH pI (subL (slot (LX 0) (LY 8) (LX 0) LM 0) ta8) la8 (seg pO (subL (slot (LX 0) (LY 8) (LX 0) LM 0) to8) lo8) = true := by kernel_rfl
theorem s8 : allK (fun k => atH pI (inT ta8 ti8 (LX k) (LY 8) (LX 0) LM (k + 1)) (inL la8 li8 (k + 1)) (seg pI (inT ta8 ti8 (LX k) (LY 8) (LX 0) LM k) (inL la8 li8 k))) 20 = true := by kernel_rfl
theorem e8 : allK (fun k => atH pO (subL (slot (n6 (k + 1)) (LY 8) (n6 (k + 1)) (n6 k) 0) to9) lo9 (seg pI (subL (slot (n6 (k + 1)) (LY 8) uU uU (k + 1)) ti8) li8)) 20 = true := by kernel_rfl
theorem f9 : isFin Tryz.prog Tryz.f3 (seg pO (subL (slot (LX 0) (n6 9) (LX 0) LM 0) to9) lo9) = true := by kernel_rfl
end Go.Proofs.YtljmgfddeplamaaGreatDoor.filesReads
