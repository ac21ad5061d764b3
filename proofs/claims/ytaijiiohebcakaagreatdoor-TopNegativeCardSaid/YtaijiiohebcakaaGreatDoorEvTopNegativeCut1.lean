/- TopNegative: pieces of its runs, by the kernel. -/
import Derived.Test.YtaijiiohebcakaaGreatDoorEvTopNegativeLit
import Derived.Test.YtaijiiohebcakaaGreatDoorRows
import Derived.KernelRfl
namespace Go.Proofs.YtaijiiohebcakaaGreatDoor.topNegative
open Go.YtaijiiohebcakaaGreatDoorEv
set_option maxRecDepth 100000
theorem t_c14 (W : World) : pieceOk a3_ l27 (rn_ 9 a2_ l26 W) = true := by kernel_rfl
theorem ok_c14 : OrcOk Tryz.prog c14 := orcCut_ok (n := 1000000) (fr := ⟨.nil, []⟩) hmo OO_ t_c14
theorem t_c15 (W : World) : pieceOk a3_ l29 (rn_ 9 a2_ l28 W) = true := by kernel_rfl
theorem ok_c15 : OrcOk Tryz.prog c15 := orcCut_ok (n := 1000000) (fr := ⟨.nil, []⟩) hmo OO_ t_c15
theorem t_c16 (W : World) : pieceOk a3_ l31 (rn_ 9 a2_ l30 W) = true := by kernel_rfl
theorem ok_c16 : OrcOk Tryz.prog c16 := orcCut_ok (n := 1000000) (fr := ⟨.nil, []⟩) hmo OO_ t_c16
theorem t_c17 (W : World) : pieceOk a3_ l33 (rn_ 9 a2_ l32 W) = true := by kernel_rfl
theorem ok_c17 : OrcOk Tryz.prog c17 := orcCut_ok (n := 1000000) (fr := ⟨.nil, []⟩) hmo OO_ t_c17
theorem t_c18 (W : World) : pieceOk a3_ l35 (rn_ 9 a2_ l34 W) = true := by kernel_rfl
theorem ok_c18 : OrcOk Tryz.prog c18 := orcCut_ok (n := 1000000) (fr := ⟨.nil, []⟩) hmo OO_ t_c18
theorem t_c19 (W : World) : pieceOk a3_ l37 (rn_ 9 a2_ l36 W) = true := by kernel_rfl
theorem ok_c19 : OrcOk Tryz.prog c19 := orcCut_ok (n := 1000000) (fr := ⟨.nil, []⟩) hmo OO_ t_c19
theorem t_c20 (W : World) : pieceOk a3_ l39 (rn_ 9 a2_ l38 W) = true := by kernel_rfl
theorem ok_c20 : OrcOk Tryz.prog c20 := orcCut_ok (n := 1000000) (fr := ⟨.nil, []⟩) hmo OO_ t_c20
theorem t_c21 (W : World) : pieceOk a3_ l41 (rn_ 9 a2_ l40 W) = true := by kernel_rfl
theorem ok_c21 : OrcOk Tryz.prog c21 := orcCut_ok (n := 1000000) (fr := ⟨.nil, []⟩) hmo OO_ t_c21
theorem t_c22 (W : World) : pieceOk a3_ l43 (rn_ 9 a2_ l42 W) = true := by kernel_rfl
theorem ok_c22 : OrcOk Tryz.prog c22 := orcCut_ok (n := 1000000) (fr := ⟨.nil, []⟩) hmo OO_ t_c22
theorem t_c23 (W : World) : pieceOk a3_ l45 (rn_ 9 a2_ l44 W) = true := by kernel_rfl
theorem ok_c23 : OrcOk Tryz.prog c23 := orcCut_ok (n := 1000000) (fr := ⟨.nil, []⟩) hmo OO_ t_c23
theorem t_c24 (W : World) : pieceOk a3_ l47 (rn_ 9 a2_ l46 W) = true := by kernel_rfl
theorem ok_c24 : OrcOk Tryz.prog c24 := orcCut_ok (n := 1000000) (fr := ⟨.nil, []⟩) hmo OO_ t_c24
theorem t_c25 (W : World) : pieceOk a3_ l49 (rn_ 9 a2_ l48 W) = true := by kernel_rfl
theorem ok_c25 : OrcOk Tryz.prog c25 := orcCut_ok (n := 1000000) (fr := ⟨.nil, []⟩) hmo OO_ t_c25
theorem t_c26 (W : World) : pieceOk a3_ l51 (rn_ 9 a2_ l50 W) = true := by kernel_rfl
theorem ok_c26 : OrcOk Tryz.prog c26 := orcCut_ok (n := 1000000) (fr := ⟨.nil, []⟩) hmo OO_ t_c26
theorem t_c27 (W : World) : pieceOk a3_ l53 (rn_ 9 a2_ l52 W) = true := by kernel_rfl
theorem ok_c27 : OrcOk Tryz.prog c27 := orcCut_ok (n := 1000000) (fr := ⟨.nil, []⟩) hmo OO_ t_c27
end Go.Proofs.YtaijiiohebcakaaGreatDoor.topNegative
