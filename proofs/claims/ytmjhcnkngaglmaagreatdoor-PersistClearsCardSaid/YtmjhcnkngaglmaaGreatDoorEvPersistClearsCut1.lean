/- PersistClears: pieces of its runs, by the kernel. -/
import Derived.Test.YtmjhcnkngaglmaaGreatDoorEvPersistClearsLit
import Derived.Test.YtmjhcnkngaglmaaGreatDoorRows
import Derived.KernelRfl
namespace Go.Proofs.YtmjhcnkngaglmaaGreatDoor.persistClears
open Go.YtmjhcnkngaglmaaGreatDoorEv
set_option maxRecDepth 100000
theorem t_c32 (W : World) : pieceOk (.int .i64 (.ofNat 2)) l59 (runQ Tryz.prog ((orcSum 66).or (orcTrue 10)) 1000000 (.call 16 [.ptr 12 0, .int .i64 (.ofNat 4)]) ⟨.nil, []⟩ (l45.st (G.map fun g => (W, g)))) = true := by kernel_rfl
theorem ok_c32 : OrcOk Tryz.prog c32 := orcCut_ok (by kernel_rfl) (OrcOk.or (orcSum_ok evSum.any) evBegun.ok) t_c32
theorem t_c33 (W : World) : pieceOk (.ptr 715 0) l61 (runQ Tryz.prog ((orcSum 66).or (orcTrue 10)) 1000000 (.call 12 [.ptr 697 0, .int .i64 (.ofNat 64)]) ⟨.nil, []⟩ (l60.st (G.map fun g => (W, g)))) = true := by kernel_rfl
theorem ok_c33 : OrcOk Tryz.prog c33 := orcCut_ok (by kernel_rfl) (OrcOk.or (orcSum_ok evSum.any) evBegun.ok) t_c33
theorem t_c34 (W : World) : pieceOk (.ptr 712 0) l63 (runQ Tryz.prog ((orcSum 66).or (orcTrue 10)) 1000000 (.call 12 [.ptr 697 0, .int .i64 (.ofNat 64)]) ⟨.nil, []⟩ (l62.st (G.map fun g => (W, g)))) = true := by kernel_rfl
theorem ok_c34 : OrcOk Tryz.prog c34 := orcCut_ok (by kernel_rfl) (OrcOk.or (orcSum_ok evSum.any) evBegun.ok) t_c34
theorem t_c35 (W : World) : pieceOk (.bool true) l65 (runQ Tryz.prog ((orcSum 66).or (orcTrue 10)) 1000000 (.call 13 [.ptr 12 0, .agg [.str 3 3093812, .int .i64 (.ofNat 0), .nilSlice, .nilSlice, .int .i64 (.ofNat 0), .int .i64 (.ofNat 0), .int .i64 (.ofNat 99), .nilSlice]]) ⟨.nil, []⟩ (l64.st (G.map fun g => (W, g)))) = true := by kernel_rfl
theorem ok_c35 : OrcOk Tryz.prog c35 := orcCut_ok (by kernel_rfl) (OrcOk.or (orcSum_ok evSum.any) evBegun.ok) t_c35
theorem t_c36 (W : World) : pieceOk (.int .i64 (.ofNat 5)) l67 (runQ Tryz.prog ((orcSum 66).or (orcTrue 10)) 1000000 (.call 16 [.ptr 12 0, .int .i64 (.ofNat 0)]) ⟨.nil, []⟩ (l66.st (G.map fun g => (W, g)))) = true := by kernel_rfl
theorem ok_c36 : OrcOk Tryz.prog c36 := orcCut_ok (by kernel_rfl) (OrcOk.or (orcSum_ok evSum.any) evBegun.ok) t_c36
theorem t_c37 (W : World) : pieceOk (.ptr 956 0) l69 (runQ Tryz.prog ((orcSum 66).or (orcTrue 10)) 1000000 (.call 12 [.ptr 935 0, .int .i64 (.ofNat 64)]) ⟨.nil, []⟩ (l68.st (G.map fun g => (W, g)))) = true := by kernel_rfl
theorem ok_c37 : OrcOk Tryz.prog c37 := orcCut_ok (by kernel_rfl) (OrcOk.or (orcSum_ok evSum.any) evBegun.ok) t_c37
theorem t_c38 (W : World) : pieceOk (.ptr 953 0) l71 (runQ Tryz.prog ((orcSum 66).or (orcTrue 10)) 1000000 (.call 12 [.ptr 935 0, .int .i64 (.ofNat 64)]) ⟨.nil, []⟩ (l70.st (G.map fun g => (W, g)))) = true := by kernel_rfl
theorem ok_c38 : OrcOk Tryz.prog c38 := orcCut_ok (by kernel_rfl) (OrcOk.or (orcSum_ok evSum.any) evBegun.ok) t_c38
theorem t_c39 (W : World) : pieceOk (.int .i64 (.ofNat 2)) l72 (runQ Tryz.prog ((orcSum 66).or (orcTrue 10)) 1000000 (.call 16 [.ptr 12 0, .int .i64 (.ofNat 1)]) ⟨.nil, []⟩ (l66.st (G.map fun g => (W, g)))) = true := by kernel_rfl
theorem ok_c39 : OrcOk Tryz.prog c39 := orcCut_ok (by kernel_rfl) (OrcOk.or (orcSum_ok evSum.any) evBegun.ok) t_c39
theorem t_c40 (W : World) : pieceOk (.ptr 868 0) l74 (runQ Tryz.prog ((orcSum 66).or (orcTrue 10)) 1000000 (.call 12 [.ptr 847 0, .int .i64 (.ofNat 64)]) ⟨.nil, []⟩ (l73.st (G.map fun g => (W, g)))) = true := by kernel_rfl
theorem ok_c40 : OrcOk Tryz.prog c40 := orcCut_ok (by kernel_rfl) (OrcOk.or (orcSum_ok evSum.any) evBegun.ok) t_c40
theorem t_c41 (W : World) : pieceOk (.ptr 865 0) l76 (runQ Tryz.prog ((orcSum 66).or (orcTrue 10)) 1000000 (.call 12 [.ptr 847 0, .int .i64 (.ofNat 64)]) ⟨.nil, []⟩ (l75.st (G.map fun g => (W, g)))) = true := by kernel_rfl
theorem ok_c41 : OrcOk Tryz.prog c41 := orcCut_ok (by kernel_rfl) (OrcOk.or (orcSum_ok evSum.any) evBegun.ok) t_c41
theorem t_c42 (W : World) : pieceOk (.int .i64 (.ofNat 0)) l77 (runQ Tryz.prog ((orcSum 66).or (orcTrue 10)) 1000000 (.call 16 [.ptr 12 0, .int .i64 (.ofNat 2)]) ⟨.nil, []⟩ (l66.st (G.map fun g => (W, g)))) = true := by kernel_rfl
theorem ok_c42 : OrcOk Tryz.prog c42 := orcCut_ok (by kernel_rfl) (OrcOk.or (orcSum_ok evSum.any) evBegun.ok) t_c42
theorem t_c43 (W : World) : pieceOk (.ptr 799 0) l79 (runQ Tryz.prog ((orcSum 66).or (orcTrue 10)) 1000000 (.call 12 [.ptr 781 0, .int .i64 (.ofNat 64)]) ⟨.nil, []⟩ (l78.st (G.map fun g => (W, g)))) = true := by kernel_rfl
theorem ok_c43 : OrcOk Tryz.prog c43 := orcCut_ok (by kernel_rfl) (OrcOk.or (orcSum_ok evSum.any) evBegun.ok) t_c43
theorem t_c44 (W : World) : pieceOk (.int .i64 (.ofNat 0)) l77 (runQ Tryz.prog ((orcSum 66).or (orcTrue 10)) 1000000 (.call 16 [.ptr 12 0, .int .i64 (.ofNat 3)]) ⟨.nil, []⟩ (l66.st (G.map fun g => (W, g)))) = true := by kernel_rfl
theorem ok_c44 : OrcOk Tryz.prog c44 := orcCut_ok (by kernel_rfl) (OrcOk.or (orcSum_ok evSum.any) evBegun.ok) t_c44
theorem t_c45 (W : World) : pieceOk (.int .i64 (.ofNat 3)) l80 (runQ Tryz.prog ((orcSum 66).or (orcTrue 10)) 1000000 (.call 16 [.ptr 12 0, .int .i64 (.ofNat 4)]) ⟨.nil, []⟩ (l66.st (G.map fun g => (W, g)))) = true := by kernel_rfl
theorem ok_c45 : OrcOk Tryz.prog c45 := orcCut_ok (by kernel_rfl) (OrcOk.or (orcSum_ok evSum.any) evBegun.ok) t_c45
theorem t_c46 (W : World) : pieceOk (.ptr 898 0) l82 (runQ Tryz.prog ((orcSum 66).or (orcTrue 10)) 1000000 (.call 12 [.ptr 877 0, .int .i64 (.ofNat 64)]) ⟨.nil, []⟩ (l81.st (G.map fun g => (W, g)))) = true := by kernel_rfl
theorem ok_c46 : OrcOk Tryz.prog c46 := orcCut_ok (by kernel_rfl) (OrcOk.or (orcSum_ok evSum.any) evBegun.ok) t_c46
theorem t_c47 (W : World) : pieceOk (.ptr 895 0) l84 (runQ Tryz.prog ((orcSum 66).or (orcTrue 10)) 1000000 (.call 12 [.ptr 877 0, .int .i64 (.ofNat 64)]) ⟨.nil, []⟩ (l83.st (G.map fun g => (W, g)))) = true := by kernel_rfl
theorem ok_c47 : OrcOk Tryz.prog c47 := orcCut_ok (by kernel_rfl) (OrcOk.or (orcSum_ok evSum.any) evBegun.ok) t_c47
theorem t_c48 (W : World) : pieceOk (.bool true) l86 (runQ Tryz.prog ((orcSum 66).or (orcTrue 10)) 1000000 (.call 13 [.ptr 12 0, .agg [.str 3 6696753, .int .i64 (.ofNat 0), .nilSlice, .nilSlice, .int .i64 (.ofNat 0), .int .i64 (.ofNat 0), .int .i64 (.ofNat 99), .nilSlice]]) ⟨.nil, []⟩ (l85.st (G.map fun g => (W, g)))) = true := by kernel_rfl
theorem ok_c48 : OrcOk Tryz.prog c48 := orcCut_ok (by kernel_rfl) (OrcOk.or (orcSum_ok evSum.any) evBegun.ok) t_c48
theorem t_c49 (W : World) : pieceOk (.int .i64 (.ofNat 6)) l88 (runQ Tryz.prog ((orcSum 66).or (orcTrue 10)) 1000000 (.call 16 [.ptr 12 0, .int .i64 (.ofNat 0)]) ⟨.nil, []⟩ (l87.st (G.map fun g => (W, g)))) = true := by kernel_rfl
theorem ok_c49 : OrcOk Tryz.prog c49 := orcCut_ok (by kernel_rfl) (OrcOk.or (orcSum_ok evSum.any) evBegun.ok) t_c49
theorem t_c50 (W : World) : pieceOk (.ptr 1152 0) l90 (runQ Tryz.prog ((orcSum 66).or (orcTrue 10)) 1000000 (.call 12 [.ptr 1128 0, .int .i64 (.ofNat 64)]) ⟨.nil, []⟩ (l89.st (G.map fun g => (W, g)))) = true := by kernel_rfl
theorem ok_c50 : OrcOk Tryz.prog c50 := orcCut_ok (by kernel_rfl) (OrcOk.or (orcSum_ok evSum.any) evBegun.ok) t_c50
theorem t_c51 (W : World) : pieceOk (.ptr 1149 0) l92 (runQ Tryz.prog ((orcSum 66).or (orcTrue 10)) 1000000 (.call 12 [.ptr 1128 0, .int .i64 (.ofNat 64)]) ⟨.nil, []⟩ (l91.st (G.map fun g => (W, g)))) = true := by kernel_rfl
theorem ok_c51 : OrcOk Tryz.prog c51 := orcCut_ok (by kernel_rfl) (OrcOk.or (orcSum_ok evSum.any) evBegun.ok) t_c51
end Go.Proofs.YtmjhcnkngaglmaaGreatDoor.persistClears
