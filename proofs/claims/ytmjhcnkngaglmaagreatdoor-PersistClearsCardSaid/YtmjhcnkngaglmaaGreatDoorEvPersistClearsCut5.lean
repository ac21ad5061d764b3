/- PersistClears: pieces of its runs, by the kernel. -/
import Derived.Test.YtmjhcnkngaglmaaGreatDoorEvPersistClearsLit
import Derived.Test.YtmjhcnkngaglmaaGreatDoorRows
import Derived.KernelRfl
namespace Go.Proofs.YtmjhcnkngaglmaaGreatDoor.persistClears
open Go.YtmjhcnkngaglmaaGreatDoorEv
set_option maxRecDepth 100000
theorem t_c93 (W : World) : pieceOk (.ptr 1576 0) l160 (runQ Tryz.prog ((orcSum 66).or (orcTrue 10)) 1000000 (.call 12 [.ptr 1543 0, .int .i64 (.ofNat 64)]) ⟨.nil, []⟩ (l159.st (G.map fun g => (W, g)))) = true := by kernel_rfl
theorem ok_c93 : OrcOk Tryz.prog c93 := orcCut_ok (by kernel_rfl) (OrcOk.or (orcSum_ok evSum.any) evBegun.ok) t_c93
theorem t_c94 (W : World) : pieceOk (.ptr 1573 0) l162 (runQ Tryz.prog ((orcSum 66).or (orcTrue 10)) 1000000 (.call 12 [.ptr 1543 0, .int .i64 (.ofNat 64)]) ⟨.nil, []⟩ (l161.st (G.map fun g => (W, g)))) = true := by kernel_rfl
theorem ok_c94 : OrcOk Tryz.prog c94 := orcCut_ok (by kernel_rfl) (OrcOk.or (orcSum_ok evSum.any) evBegun.ok) t_c94
theorem t_c95 (W : World) : pieceOk (.int .i64 (.ofNat 0)) l163 (runQ Tryz.prog ((orcSum 66).or (orcTrue 10)) 1000000 (.call 16 [.ptr 12 0, .int .i64 (.ofNat 2)]) ⟨.nil, []⟩ (l150.st (G.map fun g => (W, g)))) = true := by kernel_rfl
theorem ok_c95 : OrcOk Tryz.prog c95 := orcCut_ok (by kernel_rfl) (OrcOk.or (orcSum_ok evSum.any) evBegun.ok) t_c95
theorem t_c96 (W : World) : pieceOk (.ptr 1445 0) l165 (runQ Tryz.prog ((orcSum 66).or (orcTrue 10)) 1000000 (.call 12 [.ptr 1415 0, .int .i64 (.ofNat 64)]) ⟨.nil, []⟩ (l164.st (G.map fun g => (W, g)))) = true := by kernel_rfl
theorem ok_c96 : OrcOk Tryz.prog c96 := orcCut_ok (by kernel_rfl) (OrcOk.or (orcSum_ok evSum.any) evBegun.ok) t_c96
theorem t_c97 (W : World) : pieceOk (.int .i64 (.ofNat 0)) l163 (runQ Tryz.prog ((orcSum 66).or (orcTrue 10)) 1000000 (.call 16 [.ptr 12 0, .int .i64 (.ofNat 3)]) ⟨.nil, []⟩ (l150.st (G.map fun g => (W, g)))) = true := by kernel_rfl
theorem ok_c97 : OrcOk Tryz.prog c97 := orcCut_ok (by kernel_rfl) (OrcOk.or (orcSum_ok evSum.any) evBegun.ok) t_c97
theorem t_c98 (W : World) : pieceOk (.int .i64 (.ofNat 5)) l166 (runQ Tryz.prog ((orcSum 66).or (orcTrue 10)) 1000000 (.call 16 [.ptr 12 0, .int .i64 (.ofNat 4)]) ⟨.nil, []⟩ (l150.st (G.map fun g => (W, g)))) = true := by kernel_rfl
theorem ok_c98 : OrcOk Tryz.prog c98 := orcCut_ok (by kernel_rfl) (OrcOk.or (orcSum_ok evSum.any) evBegun.ok) t_c98
theorem t_c99 (W : World) : pieceOk (.ptr 1606 0) l168 (runQ Tryz.prog ((orcSum 66).or (orcTrue 10)) 1000000 (.call 12 [.ptr 1573 0, .int .i64 (.ofNat 64)]) ⟨.nil, []⟩ (l167.st (G.map fun g => (W, g)))) = true := by kernel_rfl
theorem ok_c99 : OrcOk Tryz.prog c99 := orcCut_ok (by kernel_rfl) (OrcOk.or (orcSum_ok evSum.any) evBegun.ok) t_c99
theorem t_c100 (W : World) : pieceOk (.ptr 1603 0) l170 (runQ Tryz.prog ((orcSum 66).or (orcTrue 10)) 1000000 (.call 12 [.ptr 1573 0, .int .i64 (.ofNat 64)]) ⟨.nil, []⟩ (l169.st (G.map fun g => (W, g)))) = true := by kernel_rfl
theorem ok_c100 : OrcOk Tryz.prog c100 := orcCut_ok (by kernel_rfl) (OrcOk.or (orcSum_ok evSum.any) evBegun.ok) t_c100
theorem t_c101 (W : World) : pieceOk (.bool true) l172 (runQ Tryz.prog ((orcSum 66).or (orcTrue 10)) 1000000 (.call 13 [.ptr 12 0, .agg [.str 3 6958897, .int .i64 (.ofNat 0), .nilSlice, .nilSlice, .int .i64 (.ofNat 0), .int .i64 (.ofNat 0), .int .i64 (.ofNat 99), .nilSlice]]) ⟨.nil, []⟩ (l171.st (G.map fun g => (W, g)))) = true := by kernel_rfl
theorem ok_c101 : OrcOk Tryz.prog c101 := orcCut_ok (by kernel_rfl) (OrcOk.or (orcSum_ok evSum.any) evBegun.ok) t_c101
theorem t_c102 (W : World) : pieceOk (.int .i64 (.ofNat 10)) l174 (runQ Tryz.prog ((orcSum 66).or (orcTrue 10)) 1000000 (.call 16 [.ptr 12 0, .int .i64 (.ofNat 0)]) ⟨.nil, []⟩ (l173.st (G.map fun g => (W, g)))) = true := by kernel_rfl
theorem ok_c102 : OrcOk Tryz.prog c102 := orcCut_ok (by kernel_rfl) (OrcOk.or (orcSum_ok evSum.any) evBegun.ok) t_c102
theorem t_c103 (W : World) : pieceOk (.slice 2224 0 0 (.op 8)) l176 (runQ Tryz.prog ((orcSum 66).or (orcTrue 10)) 1000000 (.call 31 [.slice 2004 0 20 (.op 1)]) ⟨.nil, []⟩ (l175.st (G.map fun g => (W, g)))) = true := by kernel_rfl
theorem ok_c103 : OrcOk Tryz.prog c103 := orcCut_ok (by kernel_rfl) (OrcOk.or (orcSum_ok evSum.any) evBegun.ok) t_c103
end Go.Proofs.YtmjhcnkngaglmaaGreatDoor.persistClears
