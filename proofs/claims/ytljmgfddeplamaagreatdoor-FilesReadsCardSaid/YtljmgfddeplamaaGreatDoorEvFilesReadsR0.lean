/- FilesReads: from head to head, by the kernel. -/
import Derived.Test.YtljmgfddeplamaaGreatDoorEvFilesReadsS
import Derived.KernelRfl
namespace Go.Proofs.YtljmgfddeplamaaGreatDoor.filesReads
open Go Go.RowKit Go.YtljmgfddeplamaaGreatDoorEv
set_option linter.unusedVariables false
set_option linter.unusedSectionVars false
set_option maxRecDepth 100000
variable [Lane]

theorem o0 : atH pI (subL (slot (LX 0) (LY 0) (LX 0) LM 0) ta0) la0 (seg pO (subL (slot (LX 0) (LY 0) (LX 0) LM 0) to0) lo0) = true := by kernel_rfl
theorem s0 : allK (fun k => atH pI (inT ta0 ti0 (LX k) (LY 0) (LX 0) LM (k + 1)) (inL la0 li0 (k + 1)) (seg pI (inT ta0 ti0 (LX k) (LY 0) (LX 0) LM k) (inL la0 li0 k))) 20 = true := by kernel_rfl
theorem e0 : allK (fun k => atH pO (subL (slot (n6 (k + 1)) (LY 0) (n6 (k + 1)) (n6 k) 0) to1) lo1 (seg pI (subL (slot (n6 (k + 1)) (LY 0) uU uU (k + 1)) ti0) li0)) 20 = true := by kernel_rfl
theorem f1 : isFin Tryz.prog Tryz.f3 (seg pO (subL (slot (LX 0) (n6 1) (LX 0) LM 0) to1) lo1) = true := by kernel_rfl
theorem o1 : atH pI (subL (slot (LX 0) (LY 1) (LX 0) LM 0) ta1) la1 (seg pO (subL (slot (LX 0) (LY 1) (LX 0) LM 0) to1) lo1) = true := by kernel_rfl
theorem s1 : allK (fun k => atH pI (inT ta1 ti1 (LX k) (LY 1) (LX 0) LM (k + 1)) (inL la1 li1 (k + 1)) (seg pI (inT ta1 ti1 (LX k) (LY 1) (LX 0) LM k) (inL la1 li1 k))) 20 = true := by kernel_rfl
theorem e1 : allK (fun k => atH pO (subL (slot (n6 (k + 1)) (LY 1) (n6 (k + 1)) (n6 k) 0) to2) lo2 (seg pI (subL (slot (n6 (k + 1)) (LY 1) uU uU (k + 1)) ti1) li1)) 20 = true := by kernel_rfl
theorem f2 : isFin Tryz.prog Tryz.f3 (seg pO (subL (slot (LX 0) (n6 2) (LX 0) LM 0) to2) lo2) = true := by kernel_rfl
theorem o2 : atH pI (subL (slot (LX 0) (LY 2) (LX 0) LM 0) ta2) la2 (seg pO (subL (slot (LX 0) (LY 2) (LX 0) LM 0) to2) lo2) = true := by kernel_rfl
theorem s2 : allK (fun k => atH pI (inT ta2 ti2 (LX k) (LY 2) (LX 0) LM (k + 1)) (inL la2 li2 (k + 1)) (seg pI (inT ta2 ti2 (LX k) (LY 2) (LX 0) LM k) (inL la2 li2 k))) 20 = true := by kernel_rfl
theorem e2 : allK (fun k => atH pO (subL (slot (n6 (k + 1)) (LY 2) (n6 (k + 1)) (n6 k) 0) to3) lo3 (seg pI (subL (slot (n6 (k + 1)) (LY 2) uU uU (k + 1)) ti2) li2)) 20 = true := by kernel_rfl
theorem f3 : isFin Tryz.prog Tryz.f3 (seg pO (subL (slot (LX 0) (n6 3) (LX 0) LM 0) to3) lo3) = true := by kernel_rfl
end Go.Proofs.YtljmgfddeplamaaGreatDoor.filesReads
