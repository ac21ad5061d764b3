/- PersistClears: pieces of its runs, by the kernel. -/
import Derived.Test.YtmjhcnkngaglmaaGreatDoorEvPersistClearsLit
import Derived.Test.YtmjhcnkngaglmaaGreatDoorRows
import Derived.KernelRfl
namespace Go.Proofs.YtmjhcnkngaglmaaGreatDoor.persistClears
open Go.YtmjhcnkngaglmaaGreatDoorEv
set_option maxRecDepth 100000
theorem t_c139 (W : World) : pieceOk (.slice 2255 0 11 (.op 8)) l238 (runQ Tryz.prog ((orcSum 66).or (orcTrue 10)) 1000000 (.call 31 [.slice 2009 0 11 (.op 1)]) ⟨.nil, []⟩ (l237.st (G.map fun g => (W, g)))) = true := by kernel_rfl
theorem ok_c139 : OrcOk Tryz.prog c139 := orcCut_ok (by kernel_rfl) (OrcOk.or (orcSum_ok evSum.any) evBegun.ok) t_c139
theorem t_c141 (W : World) : pieceOk (.bool true) l242 (runQ Tryz.prog ((orcSum 66).or (orcTrue 10)) 1000000 (.call 13 [.ptr 12 0, .agg [.str 3 7089969, .int .i64 (.ofNat 0), .nilSlice, .nilSlice, .int .i64 (.ofNat 0), .int .i64 (.ofNat 0), .int .i64 (.ofNat 99), .nilSlice]]) ⟨.nil, []⟩ (l241.st (G.map fun g => (W, g)))) = true := by kernel_rfl
theorem ok_c141 : OrcOk Tryz.prog c141 := orcCut_ok (by kernel_rfl) (OrcOk.or (orcSum_ok evSum.any) evBegun.ok) t_c141
theorem t_c142 (W : World) : pieceOk (.int .i64 (.ofNat 12)) l244 (runQ Tryz.prog ((orcSum 66).or (orcTrue 10)) 1000000 (.call 16 [.ptr 12 0, .int .i64 (.ofNat 0)]) ⟨.nil, []⟩ (l243.st (G.map fun g => (W, g)))) = true := by kernel_rfl
theorem ok_c142 : OrcOk Tryz.prog c142 := orcCut_ok (by kernel_rfl) (OrcOk.or (orcSum_ok evSum.any) evBegun.ok) t_c142
theorem t_c143 (W : World) : pieceOk (.slice 2687 0 0 (.op 8)) l246 (runQ Tryz.prog ((orcSum 66).or (orcTrue 10)) 1000000 (.call 31 [.slice 2411 0 24 (.op 1)]) ⟨.nil, []⟩ (l245.st (G.map fun g => (W, g)))) = true := by kernel_rfl
theorem ok_c143 : OrcOk Tryz.prog c143 := orcCut_ok (by kernel_rfl) (OrcOk.or (orcSum_ok evSum.any) evBegun.ok) t_c143
theorem t_c145 (W : World) : pieceOk (.slice 2636 0 12 (.op 8)) l250 (runQ Tryz.prog ((orcSum 66).or (orcTrue 10)) 1000000 (.call 31 [.slice 2360 0 12 (.op 1)]) ⟨.nil, []⟩ (l249.st (G.map fun g => (W, g)))) = true := by kernel_rfl
theorem ok_c145 : OrcOk Tryz.prog c145 := orcCut_ok (by kernel_rfl) (OrcOk.or (orcSum_ok evSum.any) evBegun.ok) t_c145
theorem t_c147 (W : World) : pieceOk (.int .i64 (.ofNat 6)) l253 (runQ Tryz.prog ((orcSum 66).or (orcTrue 10)) 1000000 (.call 16 [.ptr 12 0, .int .i64 (.ofNat 1)]) ⟨.nil, []⟩ (l243.st (G.map fun g => (W, g)))) = true := by kernel_rfl
theorem ok_c147 : OrcOk Tryz.prog c147 := orcCut_ok (by kernel_rfl) (OrcOk.or (orcSum_ok evSum.any) evBegun.ok) t_c147
theorem t_c148 (W : World) : pieceOk (.slice 2488 0 6 (.op 8)) l255 (runQ Tryz.prog ((orcSum 66).or (orcTrue 10)) 1000000 (.call 31 [.slice 2212 0 18 (.op 1)]) ⟨.nil, []⟩ (l254.st (G.map fun g => (W, g)))) = true := by kernel_rfl
theorem ok_c148 : OrcOk Tryz.prog c148 := orcCut_ok (by kernel_rfl) (OrcOk.or (orcSum_ok evSum.any) evBegun.ok) t_c148
theorem t_c150 (W : World) : pieceOk (.slice 2461 0 12 (.op 8)) l259 (runQ Tryz.prog ((orcSum 66).or (orcTrue 10)) 1000000 (.call 31 [.slice 2185 0 12 (.op 1)]) ⟨.nil, []⟩ (l258.st (G.map fun g => (W, g)))) = true := by kernel_rfl
theorem ok_c150 : OrcOk Tryz.prog c150 := orcCut_ok (by kernel_rfl) (OrcOk.or (orcSum_ok evSum.any) evBegun.ok) t_c150
theorem t_c152 (W : World) : pieceOk (.int .i64 (.ofNat 0)) l262 (runQ Tryz.prog ((orcSum 66).or (orcTrue 10)) 1000000 (.call 16 [.ptr 12 0, .int .i64 (.ofNat 2)]) ⟨.nil, []⟩ (l243.st (G.map fun g => (W, g)))) = true := by kernel_rfl
theorem ok_c152 : OrcOk Tryz.prog c152 := orcCut_ok (by kernel_rfl) (OrcOk.or (orcSum_ok evSum.any) evBegun.ok) t_c152
theorem t_c153 (W : World) : pieceOk (.slice 2272 0 12 (.op 8)) l264 (runQ Tryz.prog ((orcSum 66).or (orcTrue 10)) 1000000 (.call 31 [.slice 1996 0 12 (.op 1)]) ⟨.nil, []⟩ (l263.st (G.map fun g => (W, g)))) = true := by kernel_rfl
theorem ok_c153 : OrcOk Tryz.prog c153 := orcCut_ok (by kernel_rfl) (OrcOk.or (orcSum_ok evSum.any) evBegun.ok) t_c153
end Go.Proofs.YtmjhcnkngaglmaaGreatDoor.persistClears
