/- PersistClears: pieces of its runs, by the kernel. -/
import Derived.Test.YtmjhcnkngaglmaaGreatDoorEvPersistClearsLit
import Derived.Test.YtmjhcnkngaglmaaGreatDoorEvPersistClearsCut4
import Derived.Test.YtmjhcnkngaglmaaGreatDoorEvPersistClearsCut5
import Derived.Test.YtmjhcnkngaglmaaGreatDoorEvPersistClearsCut6
import Derived.Test.YtmjhcnkngaglmaaGreatDoorEvPersistClearsCut7
import Derived.Test.YtmjhcnkngaglmaaGreatDoorEvPersistClearsCut8
import Derived.Test.YtmjhcnkngaglmaaGreatDoorEvPersistClearsCut9
import Derived.Test.YtmjhcnkngaglmaaGreatDoorRows
import Derived.KernelRfl
namespace Go.Proofs.YtmjhcnkngaglmaaGreatDoor.persistClears
open Go.YtmjhcnkngaglmaaGreatDoorEv
set_option maxRecDepth 100000
theorem t_c90 (W : World) : pieceOk (.ptr 1722 0) l155 (runQ Tryz.prog (c89.or ((orcSum 66).or (orcTrue 10))) 1000000 (.call 12 [.ptr 1689 0, .int .i64 (.ofNat 64)]) ⟨.nil, []⟩ (l154.st (G.map fun g => (W, g)))) = true := by kernel_rfl
theorem ok_c90 : OrcOk Tryz.prog c90 := orcCut_ok (by kernel_rfl) (OrcOk.or ok_c89 (OrcOk.or (orcSum_ok evSum.any) evBegun.ok)) t_c90
theorem t_c104 (W : World) : pieceOk (.ptr 1922 0) l178 (runQ Tryz.prog (c103.or ((orcSum 66).or (orcTrue 10))) 1000000 (.call 12 [.ptr 1886 0, .int .i64 (.ofNat 64)]) ⟨.nil, []⟩ (l177.st (G.map fun g => (W, g)))) = true := by kernel_rfl
theorem ok_c104 : OrcOk Tryz.prog c104 := orcCut_ok (by kernel_rfl) (OrcOk.or ok_c103 (OrcOk.or (orcSum_ok evSum.any) evBegun.ok)) t_c104
theorem t_c106 (W : World) : pieceOk (.ptr 1919 0) l182 (runQ Tryz.prog (c105.or ((orcSum 66).or (orcTrue 10))) 1000000 (.call 12 [.ptr 1886 0, .int .i64 (.ofNat 64)]) ⟨.nil, []⟩ (l181.st (G.map fun g => (W, g)))) = true := by kernel_rfl
theorem ok_c106 : OrcOk Tryz.prog c106 := orcCut_ok (by kernel_rfl) (OrcOk.or ok_c105 (OrcOk.or (orcSum_ok evSum.any) evBegun.ok)) t_c106
theorem t_c109 (W : World) : pieceOk (.ptr 1776 0) l187 (runQ Tryz.prog (c108.or ((orcSum 66).or (orcTrue 10))) 1000000 (.call 12 [.ptr 1740 0, .int .i64 (.ofNat 64)]) ⟨.nil, []⟩ (l186.st (G.map fun g => (W, g)))) = true := by kernel_rfl
theorem ok_c109 : OrcOk Tryz.prog c109 := orcCut_ok (by kernel_rfl) (OrcOk.or ok_c108 (OrcOk.or (orcSum_ok evSum.any) evBegun.ok)) t_c109
theorem t_c111 (W : World) : pieceOk (.ptr 1773 0) l191 (runQ Tryz.prog (c110.or ((orcSum 66).or (orcTrue 10))) 1000000 (.call 12 [.ptr 1740 0, .int .i64 (.ofNat 64)]) ⟨.nil, []⟩ (l190.st (G.map fun g => (W, g)))) = true := by kernel_rfl
theorem ok_c111 : OrcOk Tryz.prog c111 := orcCut_ok (by kernel_rfl) (OrcOk.or ok_c110 (OrcOk.or (orcSum_ok evSum.any) evBegun.ok)) t_c111
theorem t_c114 (W : World) : pieceOk (.ptr 1615 0) l196 (runQ Tryz.prog (c113.or ((orcSum 66).or (orcTrue 10))) 1000000 (.call 12 [.ptr 1582 0, .int .i64 (.ofNat 64)]) ⟨.nil, []⟩ (l195.st (G.map fun g => (W, g)))) = true := by kernel_rfl
theorem ok_c114 : OrcOk Tryz.prog c114 := orcCut_ok (by kernel_rfl) (OrcOk.or ok_c113 (OrcOk.or (orcSum_ok evSum.any) evBegun.ok)) t_c114
theorem t_c118 (W : World) : pieceOk (.ptr 1777 0) l201 (runQ Tryz.prog (c117.or ((orcSum 66).or (orcTrue 10))) 1000000 (.call 12 [.ptr 1741 0, .int .i64 (.ofNat 64)]) ⟨.nil, []⟩ (l200.st (G.map fun g => (W, g)))) = true := by kernel_rfl
theorem ok_c118 : OrcOk Tryz.prog c118 := orcCut_ok (by kernel_rfl) (OrcOk.or ok_c117 (OrcOk.or (orcSum_ok evSum.any) evBegun.ok)) t_c118
theorem t_c120 (W : World) : pieceOk (.ptr 1774 0) l205 (runQ Tryz.prog (c119.or ((orcSum 66).or (orcTrue 10))) 1000000 (.call 12 [.ptr 1741 0, .int .i64 (.ofNat 64)]) ⟨.nil, []⟩ (l204.st (G.map fun g => (W, g)))) = true := by kernel_rfl
theorem ok_c120 : OrcOk Tryz.prog c120 := orcCut_ok (by kernel_rfl) (OrcOk.or ok_c119 (OrcOk.or (orcSum_ok evSum.any) evBegun.ok)) t_c120
theorem t_c124 (W : World) : pieceOk (.ptr 2111 0) l213 (runQ Tryz.prog (c123.or ((orcSum 66).or (orcTrue 10))) 1000000 (.call 12 [.ptr 2072 0, .int .i64 (.ofNat 64)]) ⟨.nil, []⟩ (l212.st (G.map fun g => (W, g)))) = true := by kernel_rfl
theorem ok_c124 : OrcOk Tryz.prog c124 := orcCut_ok (by kernel_rfl) (OrcOk.or ok_c123 (OrcOk.or (orcSum_ok evSum.any) evBegun.ok)) t_c124
theorem t_c126 (W : World) : pieceOk (.ptr 2108 0) l217 (runQ Tryz.prog (c125.or ((orcSum 66).or (orcTrue 10))) 1000000 (.call 12 [.ptr 2072 0, .int .i64 (.ofNat 64)]) ⟨.nil, []⟩ (l216.st (G.map fun g => (W, g)))) = true := by kernel_rfl
theorem ok_c126 : OrcOk Tryz.prog c126 := orcCut_ok (by kernel_rfl) (OrcOk.or ok_c125 (OrcOk.or (orcSum_ok evSum.any) evBegun.ok)) t_c126
theorem t_c129 (W : World) : pieceOk (.ptr 1936 0) l222 (runQ Tryz.prog (c128.or ((orcSum 66).or (orcTrue 10))) 1000000 (.call 12 [.ptr 1897 0, .int .i64 (.ofNat 64)]) ⟨.nil, []⟩ (l221.st (G.map fun g => (W, g)))) = true := by kernel_rfl
theorem ok_c129 : OrcOk Tryz.prog c129 := orcCut_ok (by kernel_rfl) (OrcOk.or ok_c128 (OrcOk.or (orcSum_ok evSum.any) evBegun.ok)) t_c129
theorem t_c131 (W : World) : pieceOk (.ptr 1933 0) l226 (runQ Tryz.prog (c130.or ((orcSum 66).or (orcTrue 10))) 1000000 (.call 12 [.ptr 1897 0, .int .i64 (.ofNat 64)]) ⟨.nil, []⟩ (l225.st (G.map fun g => (W, g)))) = true := by kernel_rfl
theorem ok_c131 : OrcOk Tryz.prog c131 := orcCut_ok (by kernel_rfl) (OrcOk.or ok_c130 (OrcOk.or (orcSum_ok evSum.any) evBegun.ok)) t_c131
theorem t_c134 (W : World) : pieceOk (.ptr 1774 0) l231 (runQ Tryz.prog (c133.or ((orcSum 66).or (orcTrue 10))) 1000000 (.call 12 [.ptr 1738 0, .int .i64 (.ofNat 64)]) ⟨.nil, []⟩ (l230.st (G.map fun g => (W, g)))) = true := by kernel_rfl
theorem ok_c134 : OrcOk Tryz.prog c134 := orcCut_ok (by kernel_rfl) (OrcOk.or ok_c133 (OrcOk.or (orcSum_ok evSum.any) evBegun.ok)) t_c134
theorem t_c138 (W : World) : pieceOk (.ptr 1966 0) l236 (runQ Tryz.prog (c137.or ((orcSum 66).or (orcTrue 10))) 1000000 (.call 12 [.ptr 1927 0, .int .i64 (.ofNat 64)]) ⟨.nil, []⟩ (l235.st (G.map fun g => (W, g)))) = true := by kernel_rfl
theorem ok_c138 : OrcOk Tryz.prog c138 := orcCut_ok (by kernel_rfl) (OrcOk.or ok_c137 (OrcOk.or (orcSum_ok evSum.any) evBegun.ok)) t_c138
theorem t_c140 (W : World) : pieceOk (.ptr 1963 0) l240 (runQ Tryz.prog (c139.or ((orcSum 66).or (orcTrue 10))) 1000000 (.call 12 [.ptr 1927 0, .int .i64 (.ofNat 64)]) ⟨.nil, []⟩ (l239.st (G.map fun g => (W, g)))) = true := by kernel_rfl
theorem ok_c140 : OrcOk Tryz.prog c140 := orcCut_ok (by kernel_rfl) (OrcOk.or ok_c139 (OrcOk.or (orcSum_ok evSum.any) evBegun.ok)) t_c140
theorem t_c144 (W : World) : pieceOk (.ptr 2313 0) l248 (runQ Tryz.prog (c143.or ((orcSum 66).or (orcTrue 10))) 1000000 (.call 12 [.ptr 2271 0, .int .i64 (.ofNat 64)]) ⟨.nil, []⟩ (l247.st (G.map fun g => (W, g)))) = true := by kernel_rfl
theorem ok_c144 : OrcOk Tryz.prog c144 := orcCut_ok (by kernel_rfl) (OrcOk.or ok_c143 (OrcOk.or (orcSum_ok evSum.any) evBegun.ok)) t_c144
theorem t_c146 (W : World) : pieceOk (.ptr 2310 0) l252 (runQ Tryz.prog (c145.or ((orcSum 66).or (orcTrue 10))) 1000000 (.call 12 [.ptr 2271 0, .int .i64 (.ofNat 64)]) ⟨.nil, []⟩ (l251.st (G.map fun g => (W, g)))) = true := by kernel_rfl
theorem ok_c146 : OrcOk Tryz.prog c146 := orcCut_ok (by kernel_rfl) (OrcOk.or ok_c145 (OrcOk.or (orcSum_ok evSum.any) evBegun.ok)) t_c146
theorem t_c149 (W : World) : pieceOk (.ptr 2138 0) l257 (runQ Tryz.prog (c148.or ((orcSum 66).or (orcTrue 10))) 1000000 (.call 12 [.ptr 2096 0, .int .i64 (.ofNat 64)]) ⟨.nil, []⟩ (l256.st (G.map fun g => (W, g)))) = true := by kernel_rfl
theorem ok_c149 : OrcOk Tryz.prog c149 := orcCut_ok (by kernel_rfl) (OrcOk.or ok_c148 (OrcOk.or (orcSum_ok evSum.any) evBegun.ok)) t_c149
theorem t_c151 (W : World) : pieceOk (.ptr 2135 0) l261 (runQ Tryz.prog (c150.or ((orcSum 66).or (orcTrue 10))) 1000000 (.call 12 [.ptr 2096 0, .int .i64 (.ofNat 64)]) ⟨.nil, []⟩ (l260.st (G.map fun g => (W, g)))) = true := by kernel_rfl
theorem ok_c151 : OrcOk Tryz.prog c151 := orcCut_ok (by kernel_rfl) (OrcOk.or ok_c150 (OrcOk.or (orcSum_ok evSum.any) evBegun.ok)) t_c151
theorem t_c154 (W : World) : pieceOk (.ptr 1946 0) l266 (runQ Tryz.prog (c153.or ((orcSum 66).or (orcTrue 10))) 1000000 (.call 12 [.ptr 1907 0, .int .i64 (.ofNat 64)]) ⟨.nil, []⟩ (l265.st (G.map fun g => (W, g)))) = true := by kernel_rfl
theorem ok_c154 : OrcOk Tryz.prog c154 := orcCut_ok (by kernel_rfl) (OrcOk.or ok_c153 (OrcOk.or (orcSum_ok evSum.any) evBegun.ok)) t_c154
theorem t_c158 (W : World) : pieceOk (.ptr 2139 0) l271 (runQ Tryz.prog (c157.or ((orcSum 66).or (orcTrue 10))) 1000000 (.call 12 [.ptr 2097 0, .int .i64 (.ofNat 64)]) ⟨.nil, []⟩ (l270.st (G.map fun g => (W, g)))) = true := by kernel_rfl
theorem ok_c158 : OrcOk Tryz.prog c158 := orcCut_ok (by kernel_rfl) (OrcOk.or ok_c157 (OrcOk.or (orcSum_ok evSum.any) evBegun.ok)) t_c158
end Go.Proofs.YtmjhcnkngaglmaaGreatDoor.persistClears
