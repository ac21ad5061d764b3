/- FilesReads: from head to head, by the kernel. -/
import Derived.Test.YtljmgfddeplamaaGreatDoorEvFilesReadsS
import Derived.KernelRfl
namespace Go.Proofs.YtljmgfddeplamaaGreatDoor.filesReads
open Go Go.RowKit Go.YtljmgfddeplamaaGreatDoorEv
set_option linter.unusedVariables false
set_option linter.unusedSectionVars false
set_option maxRecDepth 100000
variable [Lane]

theorem o18 : atH pI (subL (slot (LX 0) (LY 18) (LX 0) LM 0) ta18) la18 (seg pO (subL (slot (LX 0) (LY 18) (LX 0) LM 0) to18) lo18) = true := by kernel_rfl
theorem s18 : allK (fun k => atH pI (inT ta18 ti18 (LX k) (LY 18) (LX 0) LM (k + 1)) (inL la18 li18 (k + 1)) (seg pI (inT ta18 ti18 (LX k) (LY 18) (LX 0) LM k) (inL la18 li18 k))) 20 = true := by kernel_rfl
theorem e18 : allK (fun k => atH pO (subL (slot (n6 (k + 1)) (LY 18) (n6 (k + 1)) (n6 k) 0) to19) lo19 (seg pI (subL (slot (n6 (k + 1)) (LY 18) uU uU (k + 1)) ti18) li18)) 20 = true := by kernel_rfl
theorem f19 : isFin Tryz.prog Tryz.f3 (seg pO (subL (slot (LX 0) (n6 19) (LX 0) LM 0) to19) lo19) = true := by kernel_rfl
theorem o19 : atH pI (subL (slot (LX 0) (LY 19) (LX 0) LM 0) ta19) la19 (seg pO (subL (slot (LX 0) (LY 19) (LX 0) LM 0) to19) lo19) = true := by kernel_rfl
theorem s19 : allK (fun k => atH pI (inT ta19 ti19 (LX k) (LY 19) (LX 0) LM (k + 1)) (inL la19 li19 (k + 1)) (seg pI (inT ta19 ti19 (LX k) (LY 19) (LX 0) LM k) (inL la19 li19 k))) 20 = true := by kernel_rfl
theorem e19 : allK (fun k => atH pO (subL (slot (n6 (k + 1)) (LY 19) (n6 (k + 1)) (n6 k) 0) to20) lo20 (seg pI (subL (slot (n6 (k + 1)) (LY 19) uU uU (k + 1)) ti19) li19)) 20 = true := by kernel_rfl
theorem f20 : isFin Tryz.prog Tryz.f3 (seg pO (subL (slot (LX 0) (n6 20) (LX 0) LM 0) to20) lo20) = true := by kernel_rfl
end Go.Proofs.YtljmgfddeplamaaGreatDoor.filesReads
