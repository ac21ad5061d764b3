/- TopNegative: pieces of its runs, by the kernel. -/
import Derived.Test.YtaijiiohebcakaaGreatDoorEvTopNegativeLit
import Derived.Test.YtaijiiohebcakaaGreatDoorRows
import Derived.KernelRfl
namespace Go.Proofs.YtaijiiohebcakaaGreatDoor.topNegative
open Go.YtaijiiohebcakaaGreatDoorEv
set_option maxRecDepth 100000
theorem t_c0 (W : World) : pieceOk a1_ l1 (rn_ 8 a0_ l0 W) = true := by kernel_rfl
theorem ok_c0 : OrcOk Tryz.prog c0 := orcCut_ok (n := 1000000) (fr := ⟨.nil, []⟩) hmo OO_ t_c0
theorem t_c1 (W : World) : pieceOk a3_ l3 (rn_ 9 a2_ l2 W) = true := by kernel_rfl
theorem ok_c1 : OrcOk Tryz.prog c1 := orcCut_ok (n := 1000000) (fr := ⟨.nil, []⟩) hmo OO_ t_c1
theorem t_c2 (W : World) : pieceOk a5_ l4 (rn_ 11 a4_ l3 W) = true := by kernel_rfl
theorem ok_c2 : OrcOk Tryz.prog c2 := orcCut_ok (n := 1000000) (fr := ⟨.nil, []⟩) hmo OO_ t_c2
theorem t_c3 (W : World) : pieceOk a6_ l5 (rn_ 11 a4_ l4 W) = true := by kernel_rfl
theorem ok_c3 : OrcOk Tryz.prog c3 := orcCut_ok (n := 1000000) (fr := ⟨.nil, []⟩) hmo OO_ t_c3
theorem t_c4 (W : World) : pieceOk a3_ l7 (rn_ 9 a2_ l6 W) = true := by kernel_rfl
theorem ok_c4 : OrcOk Tryz.prog c4 := orcCut_ok (n := 1000000) (fr := ⟨.nil, []⟩) hmo OO_ t_c4
theorem t_c5 (W : World) : pieceOk a3_ l9 (rn_ 9 a2_ l8 W) = true := by kernel_rfl
theorem ok_c5 : OrcOk Tryz.prog c5 := orcCut_ok (n := 1000000) (fr := ⟨.nil, []⟩) hmo OO_ t_c5
theorem t_c6 (W : World) : pieceOk a3_ l11 (rn_ 9 a2_ l10 W) = true := by kernel_rfl
theorem ok_c6 : OrcOk Tryz.prog c6 := orcCut_ok (n := 1000000) (fr := ⟨.nil, []⟩) hmo OO_ t_c6
theorem t_c7 (W : World) : pieceOk a3_ l13 (rn_ 9 a2_ l12 W) = true := by kernel_rfl
theorem ok_c7 : OrcOk Tryz.prog c7 := orcCut_ok (n := 1000000) (fr := ⟨.nil, []⟩) hmo OO_ t_c7
theorem t_c8 (W : World) : pieceOk a3_ l15 (rn_ 9 a2_ l14 W) = true := by kernel_rfl
theorem ok_c8 : OrcOk Tryz.prog c8 := orcCut_ok (n := 1000000) (fr := ⟨.nil, []⟩) hmo OO_ t_c8
theorem t_c9 (W : World) : pieceOk a3_ l17 (rn_ 9 a2_ l16 W) = true := by kernel_rfl
theorem ok_c9 : OrcOk Tryz.prog c9 := orcCut_ok (n := 1000000) (fr := ⟨.nil, []⟩) hmo OO_ t_c9
theorem t_c10 (W : World) : pieceOk a3_ l19 (rn_ 9 a2_ l18 W) = true := by kernel_rfl
theorem ok_c10 : OrcOk Tryz.prog c10 := orcCut_ok (n := 1000000) (fr := ⟨.nil, []⟩) hmo OO_ t_c10
theorem t_c11 (W : World) : pieceOk a3_ l21 (rn_ 9 a2_ l20 W) = true := by kernel_rfl
theorem ok_c11 : OrcOk Tryz.prog c11 := orcCut_ok (n := 1000000) (fr := ⟨.nil, []⟩) hmo OO_ t_c11
theorem t_c12 (W : World) : pieceOk a3_ l23 (rn_ 9 a2_ l22 W) = true := by kernel_rfl
theorem ok_c12 : OrcOk Tryz.prog c12 := orcCut_ok (n := 1000000) (fr := ⟨.nil, []⟩) hmo OO_ t_c12
theorem t_c13 (W : World) : pieceOk a3_ l25 (rn_ 9 a2_ l24 W) = true := by kernel_rfl
theorem ok_c13 : OrcOk Tryz.prog c13 := orcCut_ok (n := 1000000) (fr := ⟨.nil, []⟩) hmo OO_ t_c13
end Go.Proofs.YtaijiiohebcakaaGreatDoor.topNegative
