/- PersistClears: pieces of its runs, by the kernel. -/
import Derived.Test.YtmjhcnkngaglmaaGreatDoorEvPersistClearsLit
import Derived.Test.YtmjhcnkngaglmaaGreatDoorRows
import Derived.KernelRfl
namespace Go.Proofs.YtmjhcnkngaglmaaGreatDoor.persistClears
open Go.YtmjhcnkngaglmaaGreatDoorEv
set_option maxRecDepth 100000
theorem t_c123 (W : World) : pieceOk (.slice 2447 0 0 (.op 8)) l211 (runQ Tryz.prog ((orcSum 66).or (orcTrue 10)) 1000000 (.call 31 [.slice 2201 0 22 (.op 1)]) ⟨.nil, []⟩ (l210.st (G.map fun g => (W, g)))) = true := by kernel_rfl
theorem ok_c123 : OrcOk Tryz.prog c123 := orcCut_ok (by kernel_rfl) (OrcOk.or (orcSum_ok evSum.any) evBegun.ok) t_c123
theorem t_c125 (W : World) : pieceOk (.slice 2400 0 11 (.op 8)) l215 (runQ Tryz.prog ((orcSum 66).or (orcTrue 10)) 1000000 (.call 31 [.slice 2154 0 11 (.op 1)]) ⟨.nil, []⟩ (l214.st (G.map fun g => (W, g)))) = true := by kernel_rfl
theorem ok_c125 : OrcOk Tryz.prog c125 := orcCut_ok (by kernel_rfl) (OrcOk.or (orcSum_ok evSum.any) evBegun.ok) t_c125
theorem t_c127 (W : World) : pieceOk (.int .i64 (.ofNat 5)) l218 (runQ Tryz.prog ((orcSum 66).or (orcTrue 10)) 1000000 (.call 16 [.ptr 12 0, .int .i64 (.ofNat 1)]) ⟨.nil, []⟩ (l208.st (G.map fun g => (W, g)))) = true := by kernel_rfl
theorem ok_c127 : OrcOk Tryz.prog c127 := orcCut_ok (by kernel_rfl) (OrcOk.or (orcSum_ok evSum.any) evBegun.ok) t_c127
theorem t_c128 (W : World) : pieceOk (.slice 2248 0 6 (.op 8)) l220 (runQ Tryz.prog ((orcSum 66).or (orcTrue 10)) 1000000 (.call 31 [.slice 2002 0 16 (.op 1)]) ⟨.nil, []⟩ (l219.st (G.map fun g => (W, g)))) = true := by kernel_rfl
theorem ok_c128 : OrcOk Tryz.prog c128 := orcCut_ok (by kernel_rfl) (OrcOk.or (orcSum_ok evSum.any) evBegun.ok) t_c128
theorem t_c130 (W : World) : pieceOk (.slice 2225 0 11 (.op 8)) l224 (runQ Tryz.prog ((orcSum 66).or (orcTrue 10)) 1000000 (.call 31 [.slice 1979 0 11 (.op 1)]) ⟨.nil, []⟩ (l223.st (G.map fun g => (W, g)))) = true := by kernel_rfl
theorem ok_c130 : OrcOk Tryz.prog c130 := orcCut_ok (by kernel_rfl) (OrcOk.or (orcSum_ok evSum.any) evBegun.ok) t_c130
theorem t_c132 (W : World) : pieceOk (.int .i64 (.ofNat 0)) l227 (runQ Tryz.prog ((orcSum 66).or (orcTrue 10)) 1000000 (.call 16 [.ptr 12 0, .int .i64 (.ofNat 2)]) ⟨.nil, []⟩ (l208.st (G.map fun g => (W, g)))) = true := by kernel_rfl
theorem ok_c132 : OrcOk Tryz.prog c132 := orcCut_ok (by kernel_rfl) (OrcOk.or (orcSum_ok evSum.any) evBegun.ok) t_c132
theorem t_c133 (W : World) : pieceOk (.slice 2066 0 11 (.op 8)) l229 (runQ Tryz.prog ((orcSum 66).or (orcTrue 10)) 1000000 (.call 31 [.slice 1820 0 11 (.op 1)]) ⟨.nil, []⟩ (l228.st (G.map fun g => (W, g)))) = true := by kernel_rfl
theorem ok_c133 : OrcOk Tryz.prog c133 := orcCut_ok (by kernel_rfl) (OrcOk.or (orcSum_ok evSum.any) evBegun.ok) t_c133
theorem t_c135 (W : World) : pieceOk (.int .i64 (.ofNat 0)) l227 (runQ Tryz.prog ((orcSum 66).or (orcTrue 10)) 1000000 (.call 16 [.ptr 12 0, .int .i64 (.ofNat 3)]) ⟨.nil, []⟩ (l208.st (G.map fun g => (W, g)))) = true := by kernel_rfl
theorem ok_c135 : OrcOk Tryz.prog c135 := orcCut_ok (by kernel_rfl) (OrcOk.or (orcSum_ok evSum.any) evBegun.ok) t_c135
theorem t_c136 (W : World) : pieceOk (.int .i64 (.ofNat 6)) l232 (runQ Tryz.prog ((orcSum 66).or (orcTrue 10)) 1000000 (.call 16 [.ptr 12 0, .int .i64 (.ofNat 4)]) ⟨.nil, []⟩ (l208.st (G.map fun g => (W, g)))) = true := by kernel_rfl
theorem ok_c136 : OrcOk Tryz.prog c136 := orcCut_ok (by kernel_rfl) (OrcOk.or (orcSum_ok evSum.any) evBegun.ok) t_c136
theorem t_c137 (W : World) : pieceOk (.slice 2282 0 5 (.op 8)) l234 (runQ Tryz.prog ((orcSum 66).or (orcTrue 10)) 1000000 (.call 31 [.slice 2036 0 17 (.op 1)]) ⟨.nil, []⟩ (l233.st (G.map fun g => (W, g)))) = true := by kernel_rfl
theorem ok_c137 : OrcOk Tryz.prog c137 := orcCut_ok (by kernel_rfl) (OrcOk.or (orcSum_ok evSum.any) evBegun.ok) t_c137
end Go.Proofs.YtmjhcnkngaglmaaGreatDoor.persistClears
