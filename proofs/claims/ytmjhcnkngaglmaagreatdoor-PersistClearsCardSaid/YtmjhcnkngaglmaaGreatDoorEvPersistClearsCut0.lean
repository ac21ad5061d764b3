/- PersistClears: pieces of its runs, by the kernel. -/
import Derived.Test.YtmjhcnkngaglmaaGreatDoorEvPersistClearsLit
import Derived.Test.YtmjhcnkngaglmaaGreatDoorRows
import Derived.KernelRfl
namespace Go.Proofs.YtmjhcnkngaglmaaGreatDoor.persistClears
open Go.YtmjhcnkngaglmaaGreatDoorEv
set_option maxRecDepth 100000
theorem t_c0 (W : World) : pieceOk (.ptr 206 0) l1 (runQ Tryz.prog ((orcSum 66).or (orcTrue 10)) 1000000 (.call 12 [.ptr 197 0, .int .i64 (.ofNat 64)]) ⟨.nil, []⟩ (l0.st (G.map fun g => (W, g)))) = true := by kernel_rfl
theorem ok_c0 : OrcOk Tryz.prog c0 := orcCut_ok (by kernel_rfl) (OrcOk.or (orcSum_ok evSum.any) evBegun.ok) t_c0
theorem t_c1 (W : World) : pieceOk (.ptr 203 0) l3 (runQ Tryz.prog ((orcSum 66).or (orcTrue 10)) 1000000 (.call 12 [.ptr 197 0, .int .i64 (.ofNat 64)]) ⟨.nil, []⟩ (l2.st (G.map fun g => (W, g)))) = true := by kernel_rfl
theorem ok_c1 : OrcOk Tryz.prog c1 := orcCut_ok (by kernel_rfl) (OrcOk.or (orcSum_ok evSum.any) evBegun.ok) t_c1
theorem t_c2 (W : World) : pieceOk (.ptr 169 0) l5 (runQ Tryz.prog ((orcSum 66).or (orcTrue 10)) 1000000 (.call 12 [.ptr 163 0, .int .i64 (.ofNat 64)]) ⟨.nil, []⟩ (l4.st (G.map fun g => (W, g)))) = true := by kernel_rfl
theorem ok_c2 : OrcOk Tryz.prog c2 := orcCut_ok (by kernel_rfl) (OrcOk.or (orcSum_ok evSum.any) evBegun.ok) t_c2
theorem t_c3 (W : World) : pieceOk (.bool true) l7 (runQ Tryz.prog ((orcSum 66).or (orcTrue 10)) 1000000 (.call 13 [.ptr 12 0, .agg [.str 3 3092788, .int .i64 (.ofNat 0), .nilSlice, .nilSlice, .int .i64 (.ofNat 0), .int .i64 (.ofNat 0), .int .i64 (.ofNat 99), .nilSlice]]) ⟨.nil, []⟩ (l6.st (G.map fun g => (W, g)))) = true := by kernel_rfl
theorem ok_c3 : OrcOk Tryz.prog c3 := orcCut_ok (by kernel_rfl) (OrcOk.or (orcSum_ok evSum.any) evBegun.ok) t_c3
theorem t_c4 (W : World) : pieceOk (.bool true) l9 (runQ Tryz.prog ((orcSum 66).or (orcTrue 10)) 1000000 (.call 13 [.ptr 12 0, .agg [.str 3 6434609, .int .i64 (.ofNat 0), .nilSlice, .nilSlice, .int .i64 (.ofNat 0), .int .i64 (.ofNat 0), .int .i64 (.ofNat 99), .nilSlice]]) ⟨.nil, []⟩ (l8.st (G.map fun g => (W, g)))) = true := by kernel_rfl
theorem ok_c4 : OrcOk Tryz.prog c4 := orcCut_ok (by kernel_rfl) (OrcOk.or (orcSum_ok evSum.any) evBegun.ok) t_c4
theorem t_c5 (W : World) : pieceOk (.ptr 398 0) l11 (runQ Tryz.prog ((orcSum 66).or (orcTrue 10)) 1000000 (.call 12 [.ptr 386 0, .int .i64 (.ofNat 64)]) ⟨.nil, []⟩ (l10.st (G.map fun g => (W, g)))) = true := by kernel_rfl
theorem ok_c5 : OrcOk Tryz.prog c5 := orcCut_ok (by kernel_rfl) (OrcOk.or (orcSum_ok evSum.any) evBegun.ok) t_c5
theorem t_c6 (W : World) : pieceOk (.ptr 395 0) l13 (runQ Tryz.prog ((orcSum 66).or (orcTrue 10)) 1000000 (.call 12 [.ptr 386 0, .int .i64 (.ofNat 64)]) ⟨.nil, []⟩ (l12.st (G.map fun g => (W, g)))) = true := by kernel_rfl
theorem ok_c6 : OrcOk Tryz.prog c6 := orcCut_ok (by kernel_rfl) (OrcOk.or (orcSum_ok evSum.any) evBegun.ok) t_c6
theorem t_c7 (W : World) : pieceOk (.ptr 368 0) l15 (runQ Tryz.prog ((orcSum 66).or (orcTrue 10)) 1000000 (.call 12 [.ptr 356 0, .int .i64 (.ofNat 64)]) ⟨.nil, []⟩ (l14.st (G.map fun g => (W, g)))) = true := by kernel_rfl
theorem ok_c7 : OrcOk Tryz.prog c7 := orcCut_ok (by kernel_rfl) (OrcOk.or (orcSum_ok evSum.any) evBegun.ok) t_c7
theorem t_c8 (W : World) : pieceOk (.ptr 365 0) l17 (runQ Tryz.prog ((orcSum 66).or (orcTrue 10)) 1000000 (.call 12 [.ptr 356 0, .int .i64 (.ofNat 64)]) ⟨.nil, []⟩ (l16.st (G.map fun g => (W, g)))) = true := by kernel_rfl
theorem ok_c8 : OrcOk Tryz.prog c8 := orcCut_ok (by kernel_rfl) (OrcOk.or (orcSum_ok evSum.any) evBegun.ok) t_c8
theorem t_c9 (W : World) : pieceOk (.ptr 331 0) l19 (runQ Tryz.prog ((orcSum 66).or (orcTrue 10)) 1000000 (.call 12 [.ptr 322 0, .int .i64 (.ofNat 64)]) ⟨.nil, []⟩ (l18.st (G.map fun g => (W, g)))) = true := by kernel_rfl
theorem ok_c9 : OrcOk Tryz.prog c9 := orcCut_ok (by kernel_rfl) (OrcOk.or (orcSum_ok evSum.any) evBegun.ok) t_c9
theorem t_c10 (W : World) : pieceOk (.ptr 369 0) l21 (runQ Tryz.prog ((orcSum 66).or (orcTrue 10)) 1000000 (.call 12 [.ptr 357 0, .int .i64 (.ofNat 64)]) ⟨.nil, []⟩ (l20.st (G.map fun g => (W, g)))) = true := by kernel_rfl
theorem ok_c10 : OrcOk Tryz.prog c10 := orcCut_ok (by kernel_rfl) (OrcOk.or (orcSum_ok evSum.any) evBegun.ok) t_c10
theorem t_c11 (W : World) : pieceOk (.ptr 366 0) l23 (runQ Tryz.prog ((orcSum 66).or (orcTrue 10)) 1000000 (.call 12 [.ptr 357 0, .int .i64 (.ofNat 64)]) ⟨.nil, []⟩ (l22.st (G.map fun g => (W, g)))) = true := by kernel_rfl
theorem ok_c11 : OrcOk Tryz.prog c11 := orcCut_ok (by kernel_rfl) (OrcOk.or (orcSum_ok evSum.any) evBegun.ok) t_c11
theorem t_c12 (W : World) : pieceOk (.bool true) l25 (runQ Tryz.prog ((orcSum 66).or (orcTrue 10)) 1000000 (.call 13 [.ptr 12 0, .agg [.str 3 3093300, .int .i64 (.ofNat 0), .nilSlice, .nilSlice, .int .i64 (.ofNat 0), .int .i64 (.ofNat 0), .int .i64 (.ofNat 99), .nilSlice]]) ⟨.nil, []⟩ (l24.st (G.map fun g => (W, g)))) = true := by kernel_rfl
theorem ok_c12 : OrcOk Tryz.prog c12 := orcCut_ok (by kernel_rfl) (OrcOk.or (orcSum_ok evSum.any) evBegun.ok) t_c12
theorem t_c13 (W : World) : pieceOk (.int .i64 (.ofNat 3)) l27 (runQ Tryz.prog ((orcSum 66).or (orcTrue 10)) 1000000 (.call 16 [.ptr 12 0, .int .i64 (.ofNat 0)]) ⟨.nil, []⟩ (l26.st (G.map fun g => (W, g)))) = true := by kernel_rfl
theorem ok_c13 : OrcOk Tryz.prog c13 := orcCut_ok (by kernel_rfl) (OrcOk.or (orcSum_ok evSum.any) evBegun.ok) t_c13
theorem t_c14 (W : World) : pieceOk (.ptr 579 0) l29 (runQ Tryz.prog ((orcSum 66).or (orcTrue 10)) 1000000 (.call 12 [.ptr 564 0, .int .i64 (.ofNat 64)]) ⟨.nil, []⟩ (l28.st (G.map fun g => (W, g)))) = true := by kernel_rfl
theorem ok_c14 : OrcOk Tryz.prog c14 := orcCut_ok (by kernel_rfl) (OrcOk.or (orcSum_ok evSum.any) evBegun.ok) t_c14
theorem t_c15 (W : World) : pieceOk (.ptr 576 0) l31 (runQ Tryz.prog ((orcSum 66).or (orcTrue 10)) 1000000 (.call 12 [.ptr 564 0, .int .i64 (.ofNat 64)]) ⟨.nil, []⟩ (l30.st (G.map fun g => (W, g)))) = true := by kernel_rfl
theorem ok_c15 : OrcOk Tryz.prog c15 := orcCut_ok (by kernel_rfl) (OrcOk.or (orcSum_ok evSum.any) evBegun.ok) t_c15
theorem t_c16 (W : World) : pieceOk (.ptr 520 0) l33 (runQ Tryz.prog ((orcSum 66).or (orcTrue 10)) 1000000 (.call 12 [.ptr 505 0, .int .i64 (.ofNat 64)]) ⟨.nil, []⟩ (l32.st (G.map fun g => (W, g)))) = true := by kernel_rfl
theorem ok_c16 : OrcOk Tryz.prog c16 := orcCut_ok (by kernel_rfl) (OrcOk.or (orcSum_ok evSum.any) evBegun.ok) t_c16
theorem t_c17 (W : World) : pieceOk (.ptr 517 0) l35 (runQ Tryz.prog ((orcSum 66).or (orcTrue 10)) 1000000 (.call 12 [.ptr 505 0, .int .i64 (.ofNat 64)]) ⟨.nil, []⟩ (l34.st (G.map fun g => (W, g)))) = true := by kernel_rfl
theorem ok_c17 : OrcOk Tryz.prog c17 := orcCut_ok (by kernel_rfl) (OrcOk.or (orcSum_ok evSum.any) evBegun.ok) t_c17
theorem t_c18 (W : World) : pieceOk (.ptr 482 0) l37 (runQ Tryz.prog ((orcSum 66).or (orcTrue 10)) 1000000 (.call 12 [.ptr 470 0, .int .i64 (.ofNat 64)]) ⟨.nil, []⟩ (l36.st (G.map fun g => (W, g)))) = true := by kernel_rfl
theorem ok_c18 : OrcOk Tryz.prog c18 := orcCut_ok (by kernel_rfl) (OrcOk.or (orcSum_ok evSum.any) evBegun.ok) t_c18
theorem t_c19 (W : World) : pieceOk (.int .i64 (.ofNat 2)) l38 (runQ Tryz.prog ((orcSum 66).or (orcTrue 10)) 1000000 (.call 16 [.ptr 12 0, .int .i64 (.ofNat 4)]) ⟨.nil, []⟩ (l26.st (G.map fun g => (W, g)))) = true := by kernel_rfl
theorem ok_c19 : OrcOk Tryz.prog c19 := orcCut_ok (by kernel_rfl) (OrcOk.or (orcSum_ok evSum.any) evBegun.ok) t_c19
theorem t_c20 (W : World) : pieceOk (.ptr 550 0) l40 (runQ Tryz.prog ((orcSum 66).or (orcTrue 10)) 1000000 (.call 12 [.ptr 535 0, .int .i64 (.ofNat 64)]) ⟨.nil, []⟩ (l39.st (G.map fun g => (W, g)))) = true := by kernel_rfl
theorem ok_c20 : OrcOk Tryz.prog c20 := orcCut_ok (by kernel_rfl) (OrcOk.or (orcSum_ok evSum.any) evBegun.ok) t_c20
theorem t_c21 (W : World) : pieceOk (.ptr 547 0) l42 (runQ Tryz.prog ((orcSum 66).or (orcTrue 10)) 1000000 (.call 12 [.ptr 535 0, .int .i64 (.ofNat 64)]) ⟨.nil, []⟩ (l41.st (G.map fun g => (W, g)))) = true := by kernel_rfl
theorem ok_c21 : OrcOk Tryz.prog c21 := orcCut_ok (by kernel_rfl) (OrcOk.or (orcSum_ok evSum.any) evBegun.ok) t_c21
theorem t_c22 (W : World) : pieceOk (.bool true) l44 (runQ Tryz.prog ((orcSum 66).or (orcTrue 10)) 1000000 (.call 13 [.ptr 12 0, .agg [.str 3 6565681, .int .i64 (.ofNat 0), .nilSlice, .nilSlice, .int .i64 (.ofNat 0), .int .i64 (.ofNat 0), .int .i64 (.ofNat 99), .nilSlice]]) ⟨.nil, []⟩ (l43.st (G.map fun g => (W, g)))) = true := by kernel_rfl
theorem ok_c22 : OrcOk Tryz.prog c22 := orcCut_ok (by kernel_rfl) (OrcOk.or (orcSum_ok evSum.any) evBegun.ok) t_c22
theorem t_c23 (W : World) : pieceOk (.int .i64 (.ofNat 4)) l46 (runQ Tryz.prog ((orcSum 66).or (orcTrue 10)) 1000000 (.call 16 [.ptr 12 0, .int .i64 (.ofNat 0)]) ⟨.nil, []⟩ (l45.st (G.map fun g => (W, g)))) = true := by kernel_rfl
theorem ok_c23 : OrcOk Tryz.prog c23 := orcCut_ok (by kernel_rfl) (OrcOk.or (orcSum_ok evSum.any) evBegun.ok) t_c23
theorem t_c24 (W : World) : pieceOk (.ptr 773 0) l48 (runQ Tryz.prog ((orcSum 66).or (orcTrue 10)) 1000000 (.call 12 [.ptr 755 0, .int .i64 (.ofNat 64)]) ⟨.nil, []⟩ (l47.st (G.map fun g => (W, g)))) = true := by kernel_rfl
theorem ok_c24 : OrcOk Tryz.prog c24 := orcCut_ok (by kernel_rfl) (OrcOk.or (orcSum_ok evSum.any) evBegun.ok) t_c24
theorem t_c25 (W : World) : pieceOk (.ptr 770 0) l50 (runQ Tryz.prog ((orcSum 66).or (orcTrue 10)) 1000000 (.call 12 [.ptr 755 0, .int .i64 (.ofNat 64)]) ⟨.nil, []⟩ (l49.st (G.map fun g => (W, g)))) = true := by kernel_rfl
theorem ok_c25 : OrcOk Tryz.prog c25 := orcCut_ok (by kernel_rfl) (OrcOk.or (orcSum_ok evSum.any) evBegun.ok) t_c25
theorem t_c26 (W : World) : pieceOk (.int .i64 (.ofNat 2)) l51 (runQ Tryz.prog ((orcSum 66).or (orcTrue 10)) 1000000 (.call 16 [.ptr 12 0, .int .i64 (.ofNat 1)]) ⟨.nil, []⟩ (l45.st (G.map fun g => (W, g)))) = true := by kernel_rfl
theorem ok_c26 : OrcOk Tryz.prog c26 := orcCut_ok (by kernel_rfl) (OrcOk.or (orcSum_ok evSum.any) evBegun.ok) t_c26
theorem t_c27 (W : World) : pieceOk (.ptr 714 0) l53 (runQ Tryz.prog ((orcSum 66).or (orcTrue 10)) 1000000 (.call 12 [.ptr 696 0, .int .i64 (.ofNat 64)]) ⟨.nil, []⟩ (l52.st (G.map fun g => (W, g)))) = true := by kernel_rfl
theorem ok_c27 : OrcOk Tryz.prog c27 := orcCut_ok (by kernel_rfl) (OrcOk.or (orcSum_ok evSum.any) evBegun.ok) t_c27
theorem t_c28 (W : World) : pieceOk (.ptr 711 0) l55 (runQ Tryz.prog ((orcSum 66).or (orcTrue 10)) 1000000 (.call 12 [.ptr 696 0, .int .i64 (.ofNat 64)]) ⟨.nil, []⟩ (l54.st (G.map fun g => (W, g)))) = true := by kernel_rfl
theorem ok_c28 : OrcOk Tryz.prog c28 := orcCut_ok (by kernel_rfl) (OrcOk.or (orcSum_ok evSum.any) evBegun.ok) t_c28
theorem t_c29 (W : World) : pieceOk (.int .i64 (.ofNat 0)) l56 (runQ Tryz.prog ((orcSum 66).or (orcTrue 10)) 1000000 (.call 16 [.ptr 12 0, .int .i64 (.ofNat 2)]) ⟨.nil, []⟩ (l45.st (G.map fun g => (W, g)))) = true := by kernel_rfl
theorem ok_c29 : OrcOk Tryz.prog c29 := orcCut_ok (by kernel_rfl) (OrcOk.or (orcSum_ok evSum.any) evBegun.ok) t_c29
theorem t_c30 (W : World) : pieceOk (.ptr 646 0) l58 (runQ Tryz.prog ((orcSum 66).or (orcTrue 10)) 1000000 (.call 12 [.ptr 631 0, .int .i64 (.ofNat 64)]) ⟨.nil, []⟩ (l57.st (G.map fun g => (W, g)))) = true := by kernel_rfl
theorem ok_c30 : OrcOk Tryz.prog c30 := orcCut_ok (by kernel_rfl) (OrcOk.or (orcSum_ok evSum.any) evBegun.ok) t_c30
theorem t_c31 (W : World) : pieceOk (.int .i64 (.ofNat 0)) l56 (runQ Tryz.prog ((orcSum 66).or (orcTrue 10)) 1000000 (.call 16 [.ptr 12 0, .int .i64 (.ofNat 3)]) ⟨.nil, []⟩ (l45.st (G.map fun g => (W, g)))) = true := by kernel_rfl
theorem ok_c31 : OrcOk Tryz.prog c31 := orcCut_ok (by kernel_rfl) (OrcOk.or (orcSum_ok evSum.any) evBegun.ok) t_c31
end Go.Proofs.YtmjhcnkngaglmaaGreatDoor.persistClears
