/- FilesReads: from head to head, by the kernel. -/
import Derived.Test.YtljmgfddeplamaaGreatDoorEvFilesReadsS
import Derived.KernelRfl
namespace Go.Proofs.YtljmgfddeplamaaGreatDoor.filesReads
open Go Go.RowKit Go.YtljmgfddeplamaaGreatDoorEv
set_option linter.unusedVariables false
set_option linter.unusedSectionVars false
set_option maxRecDepth 100000
variable [Lane]

theorem o15 : atH pI (subL (slot (LX 0) (LY 15) (LX 0) LM 0) ta15) la15 (seg pO (subL (slot (LX 0) (LY 15) (LX 0) LM 0) to15) lo15) = true := by kernel_rfl
theorem s15 : allK (fun k => atH pI (inT ta15 ti15 (LX k) (LY 15) (LX 0) LM (k + 1)) (inL la15 li15 (k + 1)) (seg pI (inT ta15 ti15 (LX k) (LY 15) (LX 0) LM k) (inL la15 li15 k))) 20 = true := by kernel_rfl
theorem e15 : allK (fun k => atH pO (subL (slot (n6 (k + 1)) (LY 15) (n6 (k + 1)) (n6 k) 0) to16) lo16 (seg pI (subL (slot (n6 (k + 1)) (LY 15) uU uU (k + 1)) ti15) li15)) 20 = true := by kernel_rfl
theorem f16 : isFin Tryz.prog Tryz.f3 (seg pO (subL (slot (LX 0) (n6 16) (LX 0) LM 0) to16) lo16) = true := by kernel_rfl
theorem o16 : atH pI (subL (slot (LX 0) (LY 16) (LX 0) LM 0) ta16) la16 (seg pO (subL (slot (LX 0) (LY 16) (LX 0) LM 0) to16) lo16) = true := by kernel_rfl
theorem s16 : allK (fun k => atH pI (inT ta16 ti16 (LX k) (LY 16) (LX 0) LM (k + 1)) (inL la16 li16 (k + 1)) (seg pI (inT ta16 ti16 (LX k) (LY 16) (LX 0) LM k) (inL la16 li16 k))) 20 = true := by kernel_rfl
theorem e16 : allK (fun k => atH pO (subL (slot (n6 (k + 1)) (LY 16) (n6 (k + 1)) (n6 k) 0) to17) lo17 (seg pI (subL (slot (n6 (k + 1)) (LY 16) uU uU (k + 1)) ti16) li16)) 20 = true := by kernel_rfl
theorem f17 : isFin Tryz.prog Tryz.f3 (seg pO (subL (slot (LX 0) (n6 17) (LX 0) LM 0) to17) lo17) = true := by kernel_rfl
theorem o17 : atH pI (subL (slot (LX 0) (LY 17) (LX 0) LM 0) ta17) la17 (seg pO (subL (slot (LX 0) (LY 17) (LX 0) LM 0) to17) lo17) = true := by kernel_rfl
theorem s17 : allK (fun k => atH pI (inT ta17 ti17 (LX k) (LY 17) (LX 0) LM (k + 1)) (inL la17 li17 (k + 1)) (seg pI (inT ta17 ti17 (LX k) (LY 17) (LX 0) LM k) (inL la17 li17 k))) 20 = true := by kernel_rfl
theorem e17 : allK (fun k => atH pO (subL (slot (n6 (k + 1)) (LY 17) (n6 (k + 1)) (n6 k) 0) to18) lo18 (seg pI (subL (slot (n6 (k + 1)) (LY 17) uU uU (k + 1)) ti17) li17)) 20 = true := by kernel_rfl
theorem f18 : isFin Tryz.prog Tryz.f3 (seg pO (subL (slot (LX 0) (n6 18) (LX 0) LM 0) to18) lo18) = true := by kernel_rfl
end Go.Proofs.YtljmgfddeplamaaGreatDoor.filesReads
