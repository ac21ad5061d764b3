/- PersistClears: pieces of its runs, by the kernel. -/
import Derived.Test.YtmjhcnkngaglmaaGreatDoorEvPersistClearsLit
import Derived.Test.YtmjhcnkngaglmaaGreatDoorRows
import Derived.KernelRfl
namespace Go.Proofs.YtmjhcnkngaglmaaGreatDoor.persistClears
open Go.YtmjhcnkngaglmaaGreatDoorEv
set_option maxRecDepth 100000
theorem t_c80 (W : World) : pieceOk (.ptr 1415 0) l139 (runQ Tryz.prog ((orcSum 66).or (orcTrue 10)) 1000000 (.call 12 [.ptr 1388 0, .int .i64 (.ofNat 64)]) ⟨.nil, []⟩ (l138.st (G.map fun g => (W, g)))) = true := by kernel_rfl
theorem ok_c80 : OrcOk Tryz.prog c80 := orcCut_ok (by kernel_rfl) (OrcOk.or (orcSum_ok evSum.any) evBegun.ok) t_c80
theorem t_c81 (W : World) : pieceOk (.int .i64 (.ofNat 0)) l140 (runQ Tryz.prog ((orcSum 66).or (orcTrue 10)) 1000000 (.call 16 [.ptr 12 0, .int .i64 (.ofNat 2)]) ⟨.nil, []⟩ (l129.st (G.map fun g => (W, g)))) = true := by kernel_rfl
theorem ok_c81 : OrcOk Tryz.prog c81 := orcCut_ok (by kernel_rfl) (OrcOk.or (orcSum_ok evSum.any) evBegun.ok) t_c81
theorem t_c82 (W : World) : pieceOk (.ptr 1288 0) l142 (runQ Tryz.prog ((orcSum 66).or (orcTrue 10)) 1000000 (.call 12 [.ptr 1261 0, .int .i64 (.ofNat 64)]) ⟨.nil, []⟩ (l141.st (G.map fun g => (W, g)))) = true := by kernel_rfl
theorem ok_c82 : OrcOk Tryz.prog c82 := orcCut_ok (by kernel_rfl) (OrcOk.or (orcSum_ok evSum.any) evBegun.ok) t_c82
theorem t_c83 (W : World) : pieceOk (.int .i64 (.ofNat 0)) l140 (runQ Tryz.prog ((orcSum 66).or (orcTrue 10)) 1000000 (.call 16 [.ptr 12 0, .int .i64 (.ofNat 3)]) ⟨.nil, []⟩ (l129.st (G.map fun g => (W, g)))) = true := by kernel_rfl
theorem ok_c83 : OrcOk Tryz.prog c83 := orcCut_ok (by kernel_rfl) (OrcOk.or (orcSum_ok evSum.any) evBegun.ok) t_c83
theorem t_c84 (W : World) : pieceOk (.int .i64 (.ofNat 4)) l143 (runQ Tryz.prog ((orcSum 66).or (orcTrue 10)) 1000000 (.call 16 [.ptr 12 0, .int .i64 (.ofNat 4)]) ⟨.nil, []⟩ (l129.st (G.map fun g => (W, g)))) = true := by kernel_rfl
theorem ok_c84 : OrcOk Tryz.prog c84 := orcCut_ok (by kernel_rfl) (OrcOk.or (orcSum_ok evSum.any) evBegun.ok) t_c84
theorem t_c85 (W : World) : pieceOk (.ptr 1419 0) l145 (runQ Tryz.prog ((orcSum 66).or (orcTrue 10)) 1000000 (.call 12 [.ptr 1389 0, .int .i64 (.ofNat 64)]) ⟨.nil, []⟩ (l144.st (G.map fun g => (W, g)))) = true := by kernel_rfl
theorem ok_c85 : OrcOk Tryz.prog c85 := orcCut_ok (by kernel_rfl) (OrcOk.or (orcSum_ok evSum.any) evBegun.ok) t_c85
theorem t_c86 (W : World) : pieceOk (.ptr 1416 0) l147 (runQ Tryz.prog ((orcSum 66).or (orcTrue 10)) 1000000 (.call 12 [.ptr 1389 0, .int .i64 (.ofNat 64)]) ⟨.nil, []⟩ (l146.st (G.map fun g => (W, g)))) = true := by kernel_rfl
theorem ok_c86 : OrcOk Tryz.prog c86 := orcCut_ok (by kernel_rfl) (OrcOk.or (orcSum_ok evSum.any) evBegun.ok) t_c86
theorem t_c87 (W : World) : pieceOk (.bool true) l149 (runQ Tryz.prog ((orcSum 66).or (orcTrue 10)) 1000000 (.call 13 [.ptr 12 0, .agg [.str 3 3094836, .int .i64 (.ofNat 0), .nilSlice, .nilSlice, .int .i64 (.ofNat 0), .int .i64 (.ofNat 0), .int .i64 (.ofNat 99), .nilSlice]]) ⟨.nil, []⟩ (l148.st (G.map fun g => (W, g)))) = true := by kernel_rfl
theorem ok_c87 : OrcOk Tryz.prog c87 := orcCut_ok (by kernel_rfl) (OrcOk.or (orcSum_ok evSum.any) evBegun.ok) t_c87
theorem t_c88 (W : World) : pieceOk (.int .i64 (.ofNat 9)) l151 (runQ Tryz.prog ((orcSum 66).or (orcTrue 10)) 1000000 (.call 16 [.ptr 12 0, .int .i64 (.ofNat 0)]) ⟨.nil, []⟩ (l150.st (G.map fun g => (W, g)))) = true := by kernel_rfl
theorem ok_c88 : OrcOk Tryz.prog c88 := orcCut_ok (by kernel_rfl) (OrcOk.or (orcSum_ok evSum.any) evBegun.ok) t_c88
theorem t_c89 (W : World) : pieceOk (.slice 1988 0 0 (.op 8)) l153 (runQ Tryz.prog ((orcSum 66).or (orcTrue 10)) 1000000 (.call 31 [.slice 1796 0 18 (.op 1)]) ⟨.nil, []⟩ (l152.st (G.map fun g => (W, g)))) = true := by kernel_rfl
theorem ok_c89 : OrcOk Tryz.prog c89 := orcCut_ok (by kernel_rfl) (OrcOk.or (orcSum_ok evSum.any) evBegun.ok) t_c89
theorem t_c91 (W : World) : pieceOk (.ptr 1719 0) l157 (runQ Tryz.prog ((orcSum 66).or (orcTrue 10)) 1000000 (.call 12 [.ptr 1689 0, .int .i64 (.ofNat 64)]) ⟨.nil, []⟩ (l156.st (G.map fun g => (W, g)))) = true := by kernel_rfl
theorem ok_c91 : OrcOk Tryz.prog c91 := orcCut_ok (by kernel_rfl) (OrcOk.or (orcSum_ok evSum.any) evBegun.ok) t_c91
theorem t_c92 (W : World) : pieceOk (.int .i64 (.ofNat 4)) l158 (runQ Tryz.prog ((orcSum 66).or (orcTrue 10)) 1000000 (.call 16 [.ptr 12 0, .int .i64 (.ofNat 1)]) ⟨.nil, []⟩ (l150.st (G.map fun g => (W, g)))) = true := by kernel_rfl
theorem ok_c92 : OrcOk Tryz.prog c92 := orcCut_ok (by kernel_rfl) (OrcOk.or (orcSum_ok evSum.any) evBegun.ok) t_c92
end Go.Proofs.YtmjhcnkngaglmaaGreatDoor.persistClears
