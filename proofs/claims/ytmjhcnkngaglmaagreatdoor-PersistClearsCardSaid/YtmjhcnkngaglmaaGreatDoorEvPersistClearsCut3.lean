/- PersistClears: pieces of its runs, by the kernel. -/
import Derived.Test.YtmjhcnkngaglmaaGreatDoorEvPersistClearsLit
import Derived.Test.YtmjhcnkngaglmaaGreatDoorRows
import Derived.KernelRfl
namespace Go.Proofs.YtmjhcnkngaglmaaGreatDoor.persistClears
open Go.YtmjhcnkngaglmaaGreatDoorEv
set_option maxRecDepth 100000
theorem t_c67 (W : World) : pieceOk (.ptr 1217 0) l118 (runQ Tryz.prog ((orcSum 66).or (orcTrue 10)) 1000000 (.call 12 [.ptr 1193 0, .int .i64 (.ofNat 64)]) ⟨.nil, []⟩ (l117.st (G.map fun g => (W, g)))) = true := by kernel_rfl
theorem ok_c67 : OrcOk Tryz.prog c67 := orcCut_ok (by kernel_rfl) (OrcOk.or (orcSum_ok evSum.any) evBegun.ok) t_c67
theorem t_c68 (W : World) : pieceOk (.int .i64 (.ofNat 0)) l119 (runQ Tryz.prog ((orcSum 66).or (orcTrue 10)) 1000000 (.call 16 [.ptr 12 0, .int .i64 (.ofNat 2)]) ⟨.nil, []⟩ (l108.st (G.map fun g => (W, g)))) = true := by kernel_rfl
theorem ok_c68 : OrcOk Tryz.prog c68 := orcCut_ok (by kernel_rfl) (OrcOk.or (orcSum_ok evSum.any) evBegun.ok) t_c68
theorem t_c69 (W : World) : pieceOk (.ptr 1120 0) l121 (runQ Tryz.prog ((orcSum 66).or (orcTrue 10)) 1000000 (.call 12 [.ptr 1096 0, .int .i64 (.ofNat 64)]) ⟨.nil, []⟩ (l120.st (G.map fun g => (W, g)))) = true := by kernel_rfl
theorem ok_c69 : OrcOk Tryz.prog c69 := orcCut_ok (by kernel_rfl) (OrcOk.or (orcSum_ok evSum.any) evBegun.ok) t_c69
theorem t_c70 (W : World) : pieceOk (.int .i64 (.ofNat 0)) l119 (runQ Tryz.prog ((orcSum 66).or (orcTrue 10)) 1000000 (.call 16 [.ptr 12 0, .int .i64 (.ofNat 3)]) ⟨.nil, []⟩ (l108.st (G.map fun g => (W, g)))) = true := by kernel_rfl
theorem ok_c70 : OrcOk Tryz.prog c70 := orcCut_ok (by kernel_rfl) (OrcOk.or (orcSum_ok evSum.any) evBegun.ok) t_c70
theorem t_c71 (W : World) : pieceOk (.int .i64 (.ofNat 4)) l122 (runQ Tryz.prog ((orcSum 66).or (orcTrue 10)) 1000000 (.call 16 [.ptr 12 0, .int .i64 (.ofNat 4)]) ⟨.nil, []⟩ (l108.st (G.map fun g => (W, g)))) = true := by kernel_rfl
theorem ok_c71 : OrcOk Tryz.prog c71 := orcCut_ok (by kernel_rfl) (OrcOk.or (orcSum_ok evSum.any) evBegun.ok) t_c71
theorem t_c72 (W : World) : pieceOk (.ptr 1250 0) l124 (runQ Tryz.prog ((orcSum 66).or (orcTrue 10)) 1000000 (.call 12 [.ptr 1223 0, .int .i64 (.ofNat 64)]) ⟨.nil, []⟩ (l123.st (G.map fun g => (W, g)))) = true := by kernel_rfl
theorem ok_c72 : OrcOk Tryz.prog c72 := orcCut_ok (by kernel_rfl) (OrcOk.or (orcSum_ok evSum.any) evBegun.ok) t_c72
theorem t_c73 (W : World) : pieceOk (.ptr 1247 0) l126 (runQ Tryz.prog ((orcSum 66).or (orcTrue 10)) 1000000 (.call 12 [.ptr 1223 0, .int .i64 (.ofNat 64)]) ⟨.nil, []⟩ (l125.st (G.map fun g => (W, g)))) = true := by kernel_rfl
theorem ok_c73 : OrcOk Tryz.prog c73 := orcCut_ok (by kernel_rfl) (OrcOk.or (orcSum_ok evSum.any) evBegun.ok) t_c73
theorem t_c74 (W : World) : pieceOk (.bool true) l128 (runQ Tryz.prog ((orcSum 66).or (orcTrue 10)) 1000000 (.call 13 [.ptr 12 0, .agg [.str 3 6827825, .int .i64 (.ofNat 0), .nilSlice, .nilSlice, .int .i64 (.ofNat 0), .int .i64 (.ofNat 0), .int .i64 (.ofNat 99), .nilSlice]]) ⟨.nil, []⟩ (l127.st (G.map fun g => (W, g)))) = true := by kernel_rfl
theorem ok_c74 : OrcOk Tryz.prog c74 := orcCut_ok (by kernel_rfl) (OrcOk.or (orcSum_ok evSum.any) evBegun.ok) t_c74
theorem t_c75 (W : World) : pieceOk (.int .i64 (.ofNat 8)) l130 (runQ Tryz.prog ((orcSum 66).or (orcTrue 10)) 1000000 (.call 16 [.ptr 12 0, .int .i64 (.ofNat 0)]) ⟨.nil, []⟩ (l129.st (G.map fun g => (W, g)))) = true := by kernel_rfl
theorem ok_c75 : OrcOk Tryz.prog c75 := orcCut_ok (by kernel_rfl) (OrcOk.or (orcSum_ok evSum.any) evBegun.ok) t_c75
theorem t_c76 (W : World) : pieceOk (.ptr 1535 0) l132 (runQ Tryz.prog ((orcSum 66).or (orcTrue 10)) 1000000 (.call 12 [.ptr 1505 0, .int .i64 (.ofNat 64)]) ⟨.nil, []⟩ (l131.st (G.map fun g => (W, g)))) = true := by kernel_rfl
theorem ok_c76 : OrcOk Tryz.prog c76 := orcCut_ok (by kernel_rfl) (OrcOk.or (orcSum_ok evSum.any) evBegun.ok) t_c76
theorem t_c77 (W : World) : pieceOk (.ptr 1532 0) l134 (runQ Tryz.prog ((orcSum 66).or (orcTrue 10)) 1000000 (.call 12 [.ptr 1505 0, .int .i64 (.ofNat 64)]) ⟨.nil, []⟩ (l133.st (G.map fun g => (W, g)))) = true := by kernel_rfl
theorem ok_c77 : OrcOk Tryz.prog c77 := orcCut_ok (by kernel_rfl) (OrcOk.or (orcSum_ok evSum.any) evBegun.ok) t_c77
theorem t_c78 (W : World) : pieceOk (.int .i64 (.ofNat 4)) l135 (runQ Tryz.prog ((orcSum 66).or (orcTrue 10)) 1000000 (.call 16 [.ptr 12 0, .int .i64 (.ofNat 1)]) ⟨.nil, []⟩ (l129.st (G.map fun g => (W, g)))) = true := by kernel_rfl
theorem ok_c78 : OrcOk Tryz.prog c78 := orcCut_ok (by kernel_rfl) (OrcOk.or (orcSum_ok evSum.any) evBegun.ok) t_c78
theorem t_c79 (W : World) : pieceOk (.ptr 1418 0) l137 (runQ Tryz.prog ((orcSum 66).or (orcTrue 10)) 1000000 (.call 12 [.ptr 1388 0, .int .i64 (.ofNat 64)]) ⟨.nil, []⟩ (l136.st (G.map fun g => (W, g)))) = true := by kernel_rfl
theorem ok_c79 : OrcOk Tryz.prog c79 := orcCut_ok (by kernel_rfl) (OrcOk.or (orcSum_ok evSum.any) evBegun.ok) t_c79
end Go.Proofs.YtmjhcnkngaglmaaGreatDoor.persistClears
