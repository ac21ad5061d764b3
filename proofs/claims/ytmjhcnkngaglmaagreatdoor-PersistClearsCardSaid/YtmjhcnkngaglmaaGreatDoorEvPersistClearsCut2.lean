/- PersistClears: pieces of its runs, by the kernel. -/
import Derived.Test.YtmjhcnkngaglmaaGreatDoorEvPersistClearsLit
import Derived.Test.YtmjhcnkngaglmaaGreatDoorRows
import Derived.KernelRfl
namespace Go.Proofs.YtmjhcnkngaglmaaGreatDoor.persistClears
open Go.YtmjhcnkngaglmaaGreatDoorEv
set_option maxRecDepth 100000
theorem t_c52 (W : World) : pieceOk (.int .i64 (.ofNat 3)) l93 (runQ Tryz.prog ((orcSum 66).or (orcTrue 10)) 1000000 (.call 16 [.ptr 12 0, .int .i64 (.ofNat 1)]) ⟨.nil, []⟩ (l87.st (G.map fun g => (W, g)))) = true := by kernel_rfl
theorem ok_c52 : OrcOk Tryz.prog c52 := orcCut_ok (by kernel_rfl) (OrcOk.or (orcSum_ok evSum.any) evBegun.ok) t_c52
theorem t_c53 (W : World) : pieceOk (.ptr 1064 0) l95 (runQ Tryz.prog ((orcSum 66).or (orcTrue 10)) 1000000 (.call 12 [.ptr 1040 0, .int .i64 (.ofNat 64)]) ⟨.nil, []⟩ (l94.st (G.map fun g => (W, g)))) = true := by kernel_rfl
theorem ok_c53 : OrcOk Tryz.prog c53 := orcCut_ok (by kernel_rfl) (OrcOk.or (orcSum_ok evSum.any) evBegun.ok) t_c53
theorem t_c54 (W : World) : pieceOk (.ptr 1061 0) l97 (runQ Tryz.prog ((orcSum 66).or (orcTrue 10)) 1000000 (.call 12 [.ptr 1040 0, .int .i64 (.ofNat 64)]) ⟨.nil, []⟩ (l96.st (G.map fun g => (W, g)))) = true := by kernel_rfl
theorem ok_c54 : OrcOk Tryz.prog c54 := orcCut_ok (by kernel_rfl) (OrcOk.or (orcSum_ok evSum.any) evBegun.ok) t_c54
theorem t_c55 (W : World) : pieceOk (.int .i64 (.ofNat 0)) l98 (runQ Tryz.prog ((orcSum 66).or (orcTrue 10)) 1000000 (.call 16 [.ptr 12 0, .int .i64 (.ofNat 2)]) ⟨.nil, []⟩ (l87.st (G.map fun g => (W, g)))) = true := by kernel_rfl
theorem ok_c55 : OrcOk Tryz.prog c55 := orcCut_ok (by kernel_rfl) (OrcOk.or (orcSum_ok evSum.any) evBegun.ok) t_c55
theorem t_c56 (W : World) : pieceOk (.ptr 965 0) l100 (runQ Tryz.prog ((orcSum 66).or (orcTrue 10)) 1000000 (.call 12 [.ptr 944 0, .int .i64 (.ofNat 64)]) ⟨.nil, []⟩ (l99.st (G.map fun g => (W, g)))) = true := by kernel_rfl
theorem ok_c56 : OrcOk Tryz.prog c56 := orcCut_ok (by kernel_rfl) (OrcOk.or (orcSum_ok evSum.any) evBegun.ok) t_c56
theorem t_c57 (W : World) : pieceOk (.int .i64 (.ofNat 0)) l98 (runQ Tryz.prog ((orcSum 66).or (orcTrue 10)) 1000000 (.call 16 [.ptr 12 0, .int .i64 (.ofNat 3)]) ⟨.nil, []⟩ (l87.st (G.map fun g => (W, g)))) = true := by kernel_rfl
theorem ok_c57 : OrcOk Tryz.prog c57 := orcCut_ok (by kernel_rfl) (OrcOk.or (orcSum_ok evSum.any) evBegun.ok) t_c57
theorem t_c58 (W : World) : pieceOk (.int .i64 (.ofNat 3)) l101 (runQ Tryz.prog ((orcSum 66).or (orcTrue 10)) 1000000 (.call 16 [.ptr 12 0, .int .i64 (.ofNat 4)]) ⟨.nil, []⟩ (l87.st (G.map fun g => (W, g)))) = true := by kernel_rfl
theorem ok_c58 : OrcOk Tryz.prog c58 := orcCut_ok (by kernel_rfl) (OrcOk.or (orcSum_ok evSum.any) evBegun.ok) t_c58
theorem t_c59 (W : World) : pieceOk (.ptr 1065 0) l103 (runQ Tryz.prog ((orcSum 66).or (orcTrue 10)) 1000000 (.call 12 [.ptr 1041 0, .int .i64 (.ofNat 64)]) ⟨.nil, []⟩ (l102.st (G.map fun g => (W, g)))) = true := by kernel_rfl
theorem ok_c59 : OrcOk Tryz.prog c59 := orcCut_ok (by kernel_rfl) (OrcOk.or (orcSum_ok evSum.any) evBegun.ok) t_c59
theorem t_c60 (W : World) : pieceOk (.ptr 1062 0) l105 (runQ Tryz.prog ((orcSum 66).or (orcTrue 10)) 1000000 (.call 12 [.ptr 1041 0, .int .i64 (.ofNat 64)]) ⟨.nil, []⟩ (l104.st (G.map fun g => (W, g)))) = true := by kernel_rfl
theorem ok_c60 : OrcOk Tryz.prog c60 := orcCut_ok (by kernel_rfl) (OrcOk.or (orcSum_ok evSum.any) evBegun.ok) t_c60
theorem t_c61 (W : World) : pieceOk (.bool true) l107 (runQ Tryz.prog ((orcSum 66).or (orcTrue 10)) 1000000 (.call 13 [.ptr 12 0, .agg [.str 3 3094324, .int .i64 (.ofNat 0), .nilSlice, .nilSlice, .int .i64 (.ofNat 0), .int .i64 (.ofNat 0), .int .i64 (.ofNat 99), .nilSlice]]) ⟨.nil, []⟩ (l106.st (G.map fun g => (W, g)))) = true := by kernel_rfl
theorem ok_c61 : OrcOk Tryz.prog c61 := orcCut_ok (by kernel_rfl) (OrcOk.or (orcSum_ok evSum.any) evBegun.ok) t_c61
theorem t_c62 (W : World) : pieceOk (.int .i64 (.ofNat 7)) l109 (runQ Tryz.prog ((orcSum 66).or (orcTrue 10)) 1000000 (.call 16 [.ptr 12 0, .int .i64 (.ofNat 0)]) ⟨.nil, []⟩ (l108.st (G.map fun g => (W, g)))) = true := by kernel_rfl
theorem ok_c62 : OrcOk Tryz.prog c62 := orcCut_ok (by kernel_rfl) (OrcOk.or (orcSum_ok evSum.any) evBegun.ok) t_c62
theorem t_c63 (W : World) : pieceOk (.ptr 1337 0) l111 (runQ Tryz.prog ((orcSum 66).or (orcTrue 10)) 1000000 (.call 12 [.ptr 1310 0, .int .i64 (.ofNat 64)]) ⟨.nil, []⟩ (l110.st (G.map fun g => (W, g)))) = true := by kernel_rfl
theorem ok_c63 : OrcOk Tryz.prog c63 := orcCut_ok (by kernel_rfl) (OrcOk.or (orcSum_ok evSum.any) evBegun.ok) t_c63
theorem t_c64 (W : World) : pieceOk (.ptr 1334 0) l113 (runQ Tryz.prog ((orcSum 66).or (orcTrue 10)) 1000000 (.call 12 [.ptr 1310 0, .int .i64 (.ofNat 64)]) ⟨.nil, []⟩ (l112.st (G.map fun g => (W, g)))) = true := by kernel_rfl
theorem ok_c64 : OrcOk Tryz.prog c64 := orcCut_ok (by kernel_rfl) (OrcOk.or (orcSum_ok evSum.any) evBegun.ok) t_c64
theorem t_c65 (W : World) : pieceOk (.int .i64 (.ofNat 3)) l114 (runQ Tryz.prog ((orcSum 66).or (orcTrue 10)) 1000000 (.call 16 [.ptr 12 0, .int .i64 (.ofNat 1)]) ⟨.nil, []⟩ (l108.st (G.map fun g => (W, g)))) = true := by kernel_rfl
theorem ok_c65 : OrcOk Tryz.prog c65 := orcCut_ok (by kernel_rfl) (OrcOk.or (orcSum_ok evSum.any) evBegun.ok) t_c65
theorem t_c66 (W : World) : pieceOk (.ptr 1220 0) l116 (runQ Tryz.prog ((orcSum 66).or (orcTrue 10)) 1000000 (.call 12 [.ptr 1193 0, .int .i64 (.ofNat 64)]) ⟨.nil, []⟩ (l115.st (G.map fun g => (W, g)))) = true := by kernel_rfl
theorem ok_c66 : OrcOk Tryz.prog c66 := orcCut_ok (by kernel_rfl) (OrcOk.or (orcSum_ok evSum.any) evBegun.ok) t_c66
end Go.Proofs.YtmjhcnkngaglmaaGreatDoor.persistClears
