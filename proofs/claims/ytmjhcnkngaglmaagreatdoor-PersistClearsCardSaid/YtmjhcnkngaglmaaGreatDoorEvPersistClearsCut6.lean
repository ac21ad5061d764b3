/- PersistClears: pieces of its runs, by the kernel. -/
import Derived.Test.YtmjhcnkngaglmaaGreatDoorEvPersistClearsLit
import Derived.Test.YtmjhcnkngaglmaaGreatDoorRows
import Derived.KernelRfl
namespace Go.Proofs.YtmjhcnkngaglmaaGreatDoor.persistClears
open Go.YtmjhcnkngaglmaaGreatDoorEv
set_option maxRecDepth 100000
theorem t_c105 (W : World) : pieceOk (.slice 2181 0 10 (.op 8)) l180 (runQ Tryz.prog ((orcSum 66).or (orcTrue 10)) 1000000 (.call 31 [.slice 1961 0 10 (.op 1)]) ⟨.nil, []⟩ (l179.st (G.map fun g => (W, g)))) = true := by kernel_rfl
theorem ok_c105 : OrcOk Tryz.prog c105 := orcCut_ok (by kernel_rfl) (OrcOk.or (orcSum_ok evSum.any) evBegun.ok) t_c105
theorem t_c107 (W : World) : pieceOk (.int .i64 (.ofNat 5)) l183 (runQ Tryz.prog ((orcSum 66).or (orcTrue 10)) 1000000 (.call 16 [.ptr 12 0, .int .i64 (.ofNat 1)]) ⟨.nil, []⟩ (l173.st (G.map fun g => (W, g)))) = true := by kernel_rfl
theorem ok_c107 : OrcOk Tryz.prog c107 := orcCut_ok (by kernel_rfl) (OrcOk.or (orcSum_ok evSum.any) evBegun.ok) t_c107
theorem t_c108 (W : World) : pieceOk (.slice 2058 0 5 (.op 8)) l185 (runQ Tryz.prog ((orcSum 66).or (orcTrue 10)) 1000000 (.call 31 [.slice 1838 0 15 (.op 1)]) ⟨.nil, []⟩ (l184.st (G.map fun g => (W, g)))) = true := by kernel_rfl
theorem ok_c108 : OrcOk Tryz.prog c108 := orcCut_ok (by kernel_rfl) (OrcOk.or (orcSum_ok evSum.any) evBegun.ok) t_c108
theorem t_c110 (W : World) : pieceOk (.slice 2035 0 10 (.op 8)) l189 (runQ Tryz.prog ((orcSum 66).or (orcTrue 10)) 1000000 (.call 31 [.slice 1815 0 10 (.op 1)]) ⟨.nil, []⟩ (l188.st (G.map fun g => (W, g)))) = true := by kernel_rfl
theorem ok_c110 : OrcOk Tryz.prog c110 := orcCut_ok (by kernel_rfl) (OrcOk.or (orcSum_ok evSum.any) evBegun.ok) t_c110
theorem t_c112 (W : World) : pieceOk (.int .i64 (.ofNat 0)) l192 (runQ Tryz.prog ((orcSum 66).or (orcTrue 10)) 1000000 (.call 16 [.ptr 12 0, .int .i64 (.ofNat 2)]) ⟨.nil, []⟩ (l173.st (G.map fun g => (W, g)))) = true := by kernel_rfl
theorem ok_c112 : OrcOk Tryz.prog c112 := orcCut_ok (by kernel_rfl) (OrcOk.or (orcSum_ok evSum.any) evBegun.ok) t_c112
theorem t_c113 (W : World) : pieceOk (.slice 1877 0 10 (.op 8)) l194 (runQ Tryz.prog ((orcSum 66).or (orcTrue 10)) 1000000 (.call 31 [.slice 1657 0 10 (.op 1)]) ⟨.nil, []⟩ (l193.st (G.map fun g => (W, g)))) = true := by kernel_rfl
theorem ok_c113 : OrcOk Tryz.prog c113 := orcCut_ok (by kernel_rfl) (OrcOk.or (orcSum_ok evSum.any) evBegun.ok) t_c113
theorem t_c115 (W : World) : pieceOk (.int .i64 (.ofNat 0)) l192 (runQ Tryz.prog ((orcSum 66).or (orcTrue 10)) 1000000 (.call 16 [.ptr 12 0, .int .i64 (.ofNat 3)]) ⟨.nil, []⟩ (l173.st (G.map fun g => (W, g)))) = true := by kernel_rfl
theorem ok_c115 : OrcOk Tryz.prog c115 := orcCut_ok (by kernel_rfl) (OrcOk.or (orcSum_ok evSum.any) evBegun.ok) t_c115
theorem t_c116 (W : World) : pieceOk (.int .i64 (.ofNat 5)) l197 (runQ Tryz.prog ((orcSum 66).or (orcTrue 10)) 1000000 (.call 16 [.ptr 12 0, .int .i64 (.ofNat 4)]) ⟨.nil, []⟩ (l173.st (G.map fun g => (W, g)))) = true := by kernel_rfl
theorem ok_c116 : OrcOk Tryz.prog c116 := orcCut_ok (by kernel_rfl) (OrcOk.or (orcSum_ok evSum.any) evBegun.ok) t_c116
theorem t_c117 (W : World) : pieceOk (.slice 2059 0 5 (.op 8)) l199 (runQ Tryz.prog ((orcSum 66).or (orcTrue 10)) 1000000 (.call 31 [.slice 1839 0 15 (.op 1)]) ⟨.nil, []⟩ (l198.st (G.map fun g => (W, g)))) = true := by kernel_rfl
theorem ok_c117 : OrcOk Tryz.prog c117 := orcCut_ok (by kernel_rfl) (OrcOk.or (orcSum_ok evSum.any) evBegun.ok) t_c117
theorem t_c119 (W : World) : pieceOk (.slice 2036 0 10 (.op 8)) l203 (runQ Tryz.prog ((orcSum 66).or (orcTrue 10)) 1000000 (.call 31 [.slice 1816 0 10 (.op 1)]) ⟨.nil, []⟩ (l202.st (G.map fun g => (W, g)))) = true := by kernel_rfl
theorem ok_c119 : OrcOk Tryz.prog c119 := orcCut_ok (by kernel_rfl) (OrcOk.or (orcSum_ok evSum.any) evBegun.ok) t_c119
theorem t_c121 (W : World) : pieceOk (.bool true) l207 (runQ Tryz.prog ((orcSum 66).or (orcTrue 10)) 1000000 (.call 13 [.ptr 12 0, .agg [.str 4 791753012, .int .i64 (.ofNat 0), .nilSlice, .nilSlice, .int .i64 (.ofNat 0), .int .i64 (.ofNat 0), .int .i64 (.ofNat 99), .nilSlice]]) ⟨.nil, []⟩ (l206.st (G.map fun g => (W, g)))) = true := by kernel_rfl
theorem ok_c121 : OrcOk Tryz.prog c121 := orcCut_ok (by kernel_rfl) (OrcOk.or (orcSum_ok evSum.any) evBegun.ok) t_c121
theorem t_c122 (W : World) : pieceOk (.int .i64 (.ofNat 11)) l209 (runQ Tryz.prog ((orcSum 66).or (orcTrue 10)) 1000000 (.call 16 [.ptr 12 0, .int .i64 (.ofNat 0)]) ⟨.nil, []⟩ (l208.st (G.map fun g => (W, g)))) = true := by kernel_rfl
theorem ok_c122 : OrcOk Tryz.prog c122 := orcCut_ok (by kernel_rfl) (OrcOk.or (orcSum_ok evSum.any) evBegun.ok) t_c122
end Go.Proofs.YtmjhcnkngaglmaaGreatDoor.persistClears
