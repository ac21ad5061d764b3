/- StubBound: what its pieces share. -/
import Derived.Test.YtghdjomjcododaaGreatDoorEvOrc
import Derived.Test.YtghdjomjcododaaGreatDoorRows
import Derived.KernelRfl
import Derived.Test.YtghdjomjcododaaGreatDoorEv32
import Derived.Test.YtghdjomjcododaaGreatDoorChecked
namespace Go.Proofs.YtghdjomjcododaaGreatDoor.stubBound
open Go Go.RowKit Go.YtghdjomjcododaaGreatDoorEv
set_option linter.unusedVariables false
set_option linter.unusedSectionVars false
set_option maxRecDepth 100000
abbrev p0 (b : Nat) : SV := .ptr b 0
abbrev so (b n k : Nat) : SV := .slice b 0 n (.op k)
abbrev se (b n : Nat) : SV := .slice b 0 n (.ex n)
abbrev nS : SV := .nilSlice
abbrev Cc (b t : Nat) (l : List SV) : Nat × Option LB := (b, some (.cells t 0 l))
abbrev Dd (b : Nat) : Nat × Option LB := (b, none)
noncomputable def celL (L : LMem) (b : Nat) : List SV :=
  match fnd b L.blks with
  | some (.cells _ _ l) => l
  | _ => []
noncomputable abbrev Ca (b t : Nat) (L : LMem) (b0 : Nat) (l : List SV) : Nat × Option LB := (b, some (.cells t 0 (celL L b0 ++ l)))
noncomputable def hp : HdP := fun p _ => numsEq p [0, 1, 0, 1, 1, 1, 1, 1, 1, 1, 1, 1, 1, 1, 1, 1, 1, 1, 1, 1]
noncomputable def tab6 : List SV := ([0, 1, 28, 2, 29, 14, 24, 3, 30, 22, 20, 15, 25, 17, 4, 8, 31, 27, 13, 23, 21, 19, 16, 7, 26, 12, 18, 6, 11, 5, 10, 9] : List Int).map (SV.int .u8)
noncomputable def tab7 : List SV := ([0, 1, 56, 2, 57, 49, 28, 3, 61, 58, 42, 50, 38, 29, 17, 4, 62, 47, 59, 36, 45, 43, 51, 22, 53, 39, 33, 30, 24, 18, 12, 5, 63, 55, 48, 27, 60, 41, 37, 16, 46, 35, 44, 21, 52, 32, 23, 11, 54, 26, 40, 15, 34, 20, 31, 10, 25, 14, 19, 9, 13, 8, 7, 6] : List Int).map (SV.int .u8)
noncomputable def tab1 : List SV := ([1, 10, 100, 1000, 10000, 100000, 1000000, 10000000, 100000000, 1000000000, 10000000000, 100000000000, 1000000000000, 10000000000000, 100000000000000, 1000000000000000, 10000000000000000, 100000000000000000, 1000000000000000000, 10000000000000000000] : List Int).map (SV.int .u64)
noncomputable def tabs : List (Nat × List SV) := [(6, tab6), (7, tab7), (1, tab1)]
noncomputable def gl : Gl := ⟨[4, 5], tabs⟩
noncomputable def allK (f : Nat → Bool) : Nat → Bool
  | 0 => true
  | n + 1 => f n && allK f n
theorem allK_of {f : Nat → Bool} : ∀ {n k : Nat}, allK f n = true → k < n → f k = true
  | n + 1, k, h, hk => by
    unfold allK at h
    rw [Bool.and_eq_true] at h
    rcases Nat.lt_or_eq_of_le (Nat.le_of_lt_succ hk) with h1 | h1
    · exact allK_of h.2 h1
    · rw [h1]; exact h.1
noncomputable def body : Code := (Tryz.f3.body).getD .skip
noncomputable def ih : Job → Fr → St → Res := runQ Tryz.prog evOrc.orc 1000000
noncomputable def seg (W : World) (p : List Nat) (T : List SV) (M : LMem) : Sx := segFrom Tryz.prog ih hp 1000 body (some (W, gl)) p T M
noncomputable def st0 (W : World) (s a : Nat) (q : Bool) : Sx := sgo Tryz.prog ih hp 1000 body [] [] ⟨putL [n6 s, n6 a, LY 9 0, .bool q] .nil 0, []⟩ ⟨Tryz.prog.globals.size, .nil, some (W, gl)⟩
theorem okB : codeOk Tryz.f3.ntmps body = true := by kernel_rfl
theorem okF : fnc Tryz.prog 3 = some Tryz.f3 := (fnc_eq _ _).trans Tryz.func3
theorem okY : Tryz.f3.body = some body := by kernel_rfl
section
variable [Lane]
theorem snd : Sound Tryz.prog ih := runQ_sound (extOk _) (by kernel_rfl) evOrc.orcOk 1000000
theorem stepI {Q : Exit → Act → World → Prop} {W w0 : World} {p p1 : List Nat} {T T1 : List SV} {L L1 : LMem} (h : atHeadI Tryz.f3.ntmps p1 T1 L1 (seg W p T L) = true) (hd : Hd Tryz.prog Q Tryz.f3.ntmps body (some (W, gl)) w0 p1 T1 L1) :
    Hd Tryz.prog Q Tryz.f3.ntmps body (some (W, gl)) w0 p T L := seg_sound snd okB fun m w hi hw => nx_headI h rfl hw.big hi hd
theorem entryH {Q : Exit → Act → World → Prop} {W w0 : World} {H : Nat} {p p1 : List Nat} {T T1 : List SV} {L L1 : LMem} (h : atHeadH Tryz.prog.globals.size H Tryz.f3.ntmps p1 T1 L1 (seg W p T L) = true) (hd : Hd Tryz.prog Q Tryz.f3.ntmps body (some (W, gl)) w0 p1 T1 L1) :
    Hd Tryz.prog Q Tryz.f3.ntmps body (some (W, gl)) w0 p T L := seg_sound snd okB fun m w hi hw => nx_headH h rfl hw.big hi hd
end
theorem startI {x s a : Nat} {q : Bool} {W : World} {p1 : List Nat} {T1 : List SV} {L1 : LMem} (hx : x < 9) (hw : ∀ [Lane], WR Tryz.prog (fun _ => none) ⟨Tryz.prog.globals.size, .nil, some (W, gl)⟩ W) (h : atHeadI Tryz.f3.ntmps p1 T1 L1 (st0 W s a q) = true)
    (hd : @Hd ⟨x⟩ Tryz.prog (bodyPostD Tryz.prog Tryz.f3 (Fin0 W)) Tryz.f3.ntmps body (some (W, gl)) W p1 T1 L1) : Calls Tryz.prog 3 #[.int .i64 (.ofNat s), .int .i64 (.ofNat a), .int .i64 (.ofNat (x + 1)), .bool q] W (Fin0 W) := by
  letI : Lane := ⟨x⟩
  exact seg_topI snd okF okY okB (of_decide_eq_true (by kernel_rfl)) (.cons (.int ..) (.cons (.int ..) (.cons ((mn_LY (show Lane.x < 9 from hx) (Nat.zero_le _) _ _).2 rfl) (.cons (.bool _) .nil)))) hw h hd
noncomputable def tb0 : List SV := [n6 2, n6 3, hol 0, bF, uU, uU, uU, uU, bF, bT, p0 8, hol 1, n6 2, p0 9, p0 10, n6 2, .iface 64 (p0 11), n6 12, hol 7, p0 27, nS, .nilIface, bF, uU, uU, uU, uU, bT, bT, bF, n6 2, bF, bF, n6 2, bF, bF, bF, n6 3, bF, bF, bF, n6 3, bF, bF, bF, hol 0, bF, bF, bF, hol 0, bF, bF, uU, p0 8, n6 2, n6 2, bF, n6 1, n6 2, .str 19 227291675015332067373322226630110023311516014, n6 1, n6 50, n8 50, se 12 1, .str 1 50, .str 18 4371335315957596204611667803128940913844590, .str 19 227378787301263827619968850529612555973648750, .str 38 1298103398184032033168255643906339748948828107535586864794222092411087927127730391408796014, .str 38 1298103398184032033168255643906339748948828107535586864794222092411087927127730391408796014, n6 3, n6 51, n8 51, se 13 1, .str 1 51, .str 18 4462616425607435009318098565160513653993583, .str 27 24046958046621465266714842538146997504011067681979880364385267823, hol 0, hol 2, hol 3, se 14 1, hol 4, hol 5, hol 6, hol 1, p0 8, hol 1, so 15 67 1, uU, p0 8, p0 9, p0 9, bF, .agg [n6 1, .str 3 7876200, .str 0 0, n6 0], bF, uU, p0 9, .agg [n6 1, .str 3 7876200, .str 0 0, n6 0], .iface 64 (p0 11), .iface 64 (p0 11), bF, n6 2, n6 2, n6 4, n6 3, n6 12, hol 8, n6 12, hol 0, hol 9, bT, hol 8, hol 7, .tuple [.agg [nS, nS, n6 0, n6 0], nS, .nilIface, bF], .iface 64 (p0 11), .tuple [.agg [nS, nS, n6 0, n6 0], nS, .nilIface, bF], .agg [nS, nS, n6 0, n6 0], nS, .nilIface, bF, bF, bF, p0 8, so 28 1 3, n6 1, hol 8, hol 0, n6 0, n6 1, bF, bF, p0 8, uU, uU, uU, uU, uU, uU, uU, uU, uU, uU, uU, uU, uU, uU, uU, uU, uU, uU, uU, uU, uU, uU, uU, uU]
end Go.Proofs.YtghdjomjcododaaGreatDoor.stubBound
