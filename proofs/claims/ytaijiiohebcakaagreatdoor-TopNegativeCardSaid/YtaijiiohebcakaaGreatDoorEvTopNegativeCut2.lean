/- TopNegative: pieces of its runs, by the kernel. -/
import Derived.Test.YtaijiiohebcakaaGreatDoorEvTopNegativeLit
import Derived.Test.YtaijiiohebcakaaGreatDoorRows
import Derived.KernelRfl
namespace Go.Proofs.YtaijiiohebcakaaGreatDoor.topNegative
open Go.YtaijiiohebcakaaGreatDoorEv
set_option maxRecDepth 100000
theorem t_c28 (W : World) : pieceOk a3_ l55 (rn_ 9 a2_ l54 W) = true := by kernel_rfl
theorem ok_c28 : OrcOk Tryz.prog c28 := orcCut_ok (n := 1000000) (fr := ⟨.nil, []⟩) hmo OO_ t_c28
theorem t_c29 (W : World) : pieceOk a3_ l57 (rn_ 9 a2_ l56 W) = true := by kernel_rfl
theorem ok_c29 : OrcOk Tryz.prog c29 := orcCut_ok (n := 1000000) (fr := ⟨.nil, []⟩) hmo OO_ t_c29
theorem t_c30 (W : World) : pieceOk a3_ l59 (rn_ 9 a2_ l58 W) = true := by kernel_rfl
theorem ok_c30 : OrcOk Tryz.prog c30 := orcCut_ok (n := 1000000) (fr := ⟨.nil, []⟩) hmo OO_ t_c30
theorem t_c31 (W : World) : pieceOk a3_ l61 (rn_ 9 a2_ l60 W) = true := by kernel_rfl
theorem ok_c31 : OrcOk Tryz.prog c31 := orcCut_ok (n := 1000000) (fr := ⟨.nil, []⟩) hmo OO_ t_c31
theorem t_c32 (W : World) : pieceOk a3_ l63 (rn_ 9 a2_ l62 W) = true := by kernel_rfl
theorem ok_c32 : OrcOk Tryz.prog c32 := orcCut_ok (n := 1000000) (fr := ⟨.nil, []⟩) hmo OO_ t_c32
theorem t_c33 (W : World) : pieceOk a3_ l65 (rn_ 9 a2_ l64 W) = true := by kernel_rfl
theorem ok_c33 : OrcOk Tryz.prog c33 := orcCut_ok (n := 1000000) (fr := ⟨.nil, []⟩) hmo OO_ t_c33
theorem t_c34 (W : World) : pieceOk a5_ l4 (rn_ 11 a7_ l3 W) = true := by kernel_rfl
theorem ok_c34 : OrcOk Tryz.prog c34 := orcCut_ok (n := 1000000) (fr := ⟨.nil, []⟩) hmo OO_ t_c34
theorem t_c35 (W : World) : pieceOk a6_ l5 (rn_ 11 a7_ l4 W) = true := by kernel_rfl
theorem ok_c35 : OrcOk Tryz.prog c35 := orcCut_ok (n := 1000000) (fr := ⟨.nil, []⟩) hmo OO_ t_c35
end Go.Proofs.YtaijiiohebcakaaGreatDoor.topNegative
