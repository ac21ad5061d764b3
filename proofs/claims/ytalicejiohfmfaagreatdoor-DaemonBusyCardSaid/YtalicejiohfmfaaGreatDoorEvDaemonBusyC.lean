/- DaemonBusy: what its pieces share. -/
import Derived.Test.YtalicejiohfmfaaGreatDoorEvOrc
import Derived.Test.YtalicejiohfmfaaGreatDoorEvBegun
import Derived.Test.YtalicejiohfmfaaGreatDoorEvSum
import Derived.Test.YtalicejiohfmfaaGreatDoorRows
import Derived.KernelRfl
import Derived.Test.YtalicejiohfmfaaGreatDoorEv28
import Derived.Test.YtalicejiohfmfaaGreatDoorChecked
namespace Go.Proofs.YtalicejiohfmfaaGreatDoor.daemonBusy
open Go Go.RowKit Go.YtalicejiohfmfaaGreatDoorEv
set_option linter.unusedVariables false
set_option linter.unusedSectionVars false
set_option maxRecDepth 100000

noncomputable def tab6 : List SV := ([0, 1, 28, 2, 29, 14, 24, 3, 30, 22, 20, 15, 25, 17, 4, 8, 31, 27, 13, 23, 21, 19, 16, 7, 26, 12, 18, 6, 11, 5, 10, 9] : List Int).map (SV.int .u8)
noncomputable def tab7 : List SV := ([0, 1, 56, 2, 57, 49, 28, 3, 61, 58, 42, 50, 38, 29, 17, 4, 62, 47, 59, 36, 45, 43, 51, 22, 53, 39, 33, 30, 24, 18, 12, 5, 63, 55, 48, 27, 60, 41, 37, 16, 46, 35, 44, 21, 52, 32, 23, 11, 54, 26, 40, 15, 34, 20, 31, 10, 25, 14, 19, 9, 13, 8, 7, 6] : List Int).map (SV.int .u8)
noncomputable def tab1 : List SV := ([1, 10, 100, 1000, 10000, 100000, 1000000, 10000000, 100000000, 1000000000, 10000000000, 100000000000, 1000000000000, 10000000000000, 100000000000000, 1000000000000000, 10000000000000000, 100000000000000000, 1000000000000000000, 10000000000000000000] : List Int).map (SV.int .u64)
noncomputable def tabs : List (Nat × List SV) := [(6, tab6), (7, tab7), (1, tab1)]
abbrev p0 (b : Nat) : SV := .ptr b 0
abbrev so (b n k : Nat) : SV := .slice b 0 n (.op k)
abbrev se (b n : Nat) : SV := .slice b 0 n (.ex n)
abbrev ip (t b : Nat) : SV := .iface t (.ptr b 0)
abbrev nS : SV := .nilSlice
abbrev Cc (b t : Nat) (l : List SV) : Nat × Option LB := (b, some (.cells t 0 l))
abbrev Dd (b : Nat) : Nat × Option LB := (b, none)
noncomputable def gl : Gl := ⟨[2, 3], tabs⟩
noncomputable def body : Code := (Tryz.f3.body).getD .skip
noncomputable def ih : Job → Fr → St → Res := runQ Tryz.prog ((orcSum 109).or ((orcTrue 4).or evOrc.orc)) 1000000
noncomputable def seg (W : World) (y : SV) (T : List SV) (M : LMem) : Sx := segFrom Tryz.prog ih 1 1000 body (some (W, gl)) [0, 1, 0, 1, 1, 1, 1, 1, 1, 1] (subL (fun _ => y) T) M
noncomputable def atH (y : SV) (T : List SV) (M : LMem) (x : Sx) : Bool := atHeadI Tryz.f3.ntmps [0, 1, 0, 1, 1, 1, 1, 1, 1, 1] (subL (fun _ => y) T) M x
noncomputable def fin (x : Sx) : Bool := isFin Tryz.prog Tryz.f3 x
noncomputable def oT (W : World) (i : Nat) (t u : List SV) (M L : LMem) : Prop := atH (LY 20 i) u L (seg W (LY 20 i) t M) = true
noncomputable def fT (W : World) (i : Nat) (t : List SV) (M : LMem) : Prop := fin (seg W (n6 i) t M) = true
noncomputable def st0 (W : World) (k : Nat) : Sx := sgo Tryz.prog ih 1 1000 body [] [] ⟨putL [LY 20 0, n6 k] .nil 0, []⟩ ⟨Tryz.prog.globals.size, .nil, some (W, gl)⟩
theorem okB : codeOk Tryz.f3.ntmps body = true := by kernel_rfl
theorem okF : fnc Tryz.prog 3 = some Tryz.f3 := (fnc_eq _ _).trans Tryz.func3
theorem okY : Tryz.f3.body = some body := by kernel_rfl
theorem snd [Lane] : Sound Tryz.prog ih := runQ_sound (extOk _) (by kernel_rfl) (OrcOk.or (orcSum_ok evSum.any) (OrcOk.or evBegun.ok evOrc.orcOk)) 1000000
/-- A chain of heads, from the beginning on. -/
theorem all {k : Nat} {t : Nat → List SV} {M : Nat → LMem} (W : World) (h0 : atH (LY 20 0) (t 0) (M 0) (st0 W k) = true)
    (ho : ∀ i, i < 20 → atH (LY 20 i) (t (i + 1)) (M (i + 1)) (seg W (LY 20 i) (t i) (M i)) = true) (hf : ∀ i, i < 20 → fin (seg W (n6 (i + 1)) (t (i + 1)) (M (i + 1))) = true)
    (q : Nat) (hq : q < 20) (hw : ∀ [Lane], WR Tryz.prog (fun _ => none) ⟨Tryz.prog.globals.size, .nil, some (W, gl)⟩ W) : Calls Tryz.prog 3 #[.int .i64 (.ofNat (q + 1)), .int .i64 (.ofNat k)] W (Fin0 W) := by
  letI : Lane := ⟨q⟩
  exact seg_topI snd okF okY okB (of_decide_eq_true (by kernel_rfl)) (.cons ((mn_LY (show Lane.x < 20 from hq) (Nat.zero_le _) _ _).2 rfl) (.cons (.int ..) .nil)) hw h0 (chain snd okB hq ho hf)
end Go.Proofs.YtalicejiohfmfaaGreatDoor.daemonBusy
