/- LinkOthers answers true: its runs by an evaluator that was proved sound. -/
import Derived.Test.YtncibghfgdldoaaDoorEvLinkOthersRunS0
import Derived.Test.YtncibghfgdldoaaDoorEvLinkOthersRunS1
import Derived.Test.YtncibghfgdldoaaDoorEvLinkOthersRunS2
import Derived.Test.YtncibghfgdldoaaDoorEvLinkOthersRunS3
import Derived.Test.YtncibghfgdldoaaDoorEvLinkOthersRunS4
import Derived.Test.YtncibghfgdldoaaDoorEvLinkOthersRunS5
import Derived.Test.YtncibghfgdldoaaDoorEvLinkOthersRun0
import Derived.Test.YtncibghfgdldoaaDoorEvLinkOthersRun1
import Derived.Test.YtncibghfgdldoaaDoorEvLinkOthersRun2
import Derived.Test.YtncibghfgdldoaaDoorEvLinkOthersRun3
import Derived.Test.YtncibghfgdldoaaDoorEvLinkOthersRun4
import Derived.Test.YtncibghfgdldoaaDoorEvLinkOthersRun5
import Derived.Test.YtncibghfgdldoaaDoorEvLinkOthersRun6
import Derived.Test.YtncibghfgdldoaaDoorEvLinkOthersRun7
import Derived.Test.YtncibghfgdldoaaDoorEvLinkOthersRun8
import Derived.Test.YtncibghfgdldoaaDoorEvLinkOthersRun9
import Derived.Test.YtncibghfgdldoaaDoorEvLinkOthersRun10
import Derived.Test.YtncibghfgdldoaaDoorRows
import Derived.WalkKit
import Derived.ProofKit
import Derived.OpenShut
import Derived.ChangeOld
import Derived.Below
import Derived.SizedLaws
import Derived.KernelRfl
import Derived.Lay
import Derived.LaidHandle
import Derived.Stop.Joined
import Derived.Test.YtncibghfgdldoaaDoorTie
import Derived.Test.YtncibghfgdldoaaDoorCards
import Derived.SevenTiedAt
namespace Go.Proofs.YtncibghfgdldoaaDoor.linkOthers
open Go.ChangeShapes Go.WideShapes Go.ChangeAt Go.RowKit Go.YtncibghfgdldoaaDoorEv
set_option linter.unusedVariables false
set_option maxRecDepth 100000
theorem runs (W : World) (a0 : Int) (a1 : Int) : tst W [.int .i64 a0, .int .i64 a1] = true :=
  (match a0 with | .negSucc m0 => s0 W m0 a1 | .ofNat 0 => (match a1 with | .negSucc m1 => s1 W m1 | .ofNat 0 => g0_0 W | .ofNat 1 => g1_0 W | .ofNat 2 => g2_0 W | .ofNat 3 => g3_0 W | .ofNat (m1 + 4) => s2 W m1) | .ofNat 1 => (match a1 with | .negSucc m1 => s3 W m1 | .ofNat 0 => g4_0 W | .ofNat 1 => g5_0 W | .ofNat 2 => g6_0 W | .ofNat 3 => g7_0 W | .ofNat (m1 + 4) => s4 W m1) | .ofNat 2 => (match a1 with | .negSucc m1 => s5 W m1 | .ofNat 0 => g8_0 W | .ofNat 1 => g9_0 W | .ofNat 2 => g10_0 W | .ofNat 3 => g11_0 W | .ofNat (m1 + 4) => s6 W m1) | .ofNat 3 => (match a1 with | .negSucc m1 => s7 W m1 | .ofNat 0 => g12_0 W | .ofNat 1 => g13_0 W | .ofNat 2 => g14_0 W | .ofNat 3 => g15_0 W | .ofNat (m1 + 4) => s8 W m1) | .ofNat 4 => (match a1 with | .negSucc m1 => s9 W m1 | .ofNat 0 => g16_0 W | .ofNat 1 => g17_0 W | .ofNat 2 => g18_0 W | .ofNat 3 => g19_0 W | .ofNat (m1 + 4) => s10 W m1) | .ofNat 5 => (match a1 with | .negSucc m1 => s11 W m1 | .ofNat 0 => g20_0 W | .ofNat 1 => g21_0 W | .ofNat 2 => g22_0 W | .ofNat 3 => g23_0 W | .ofNat (m1 + 4) => s12 W m1) | .ofNat 6 => (match a1 with | .negSucc m1 => s13 W m1 | .ofNat 0 => g24_0 W | .ofNat 1 => g25_0 W | .ofNat 2 => g26_0 W | .ofNat 3 => g27_0 W | .ofNat (m1 + 4) => s14 W m1) | .ofNat 7 => (match a1 with | .negSucc m1 => s15 W m1 | .ofNat 0 => g28_0 W | .ofNat 1 => g29_0 W | .ofNat 2 => g30_0 W | .ofNat 3 => g31_0 W | .ofNat (m1 + 4) => s16 W m1) | .ofNat 8 => (match a1 with | .negSucc m1 => s17 W m1 | .ofNat 0 => g32_0 W | .ofNat 1 => g33_0 W | .ofNat 2 => g34_0 W | .ofNat 3 => g35_0 W | .ofNat (m1 + 4) => s18 W m1) | .ofNat 9 => (match a1 with | .negSucc m1 => s19 W m1 | .ofNat 0 => g36_0 W | .ofNat 1 => g37_0 W | .ofNat 2 => g38_0 W | .ofNat 3 => g39_0 W | .ofNat (m1 + 4) => s20 W m1) | .ofNat 10 => (match a1 with | .negSucc m1 => s21 W m1 | .ofNat 0 => g40_0 W | .ofNat 1 => g41_0 W | .ofNat 2 => g42_0 W | .ofNat 3 => g43_0 W | .ofNat (m1 + 4) => s22 W m1) | .ofNat 11 => (match a1 with | .negSucc m1 => s23 W m1 | .ofNat 0 => g44_0 W | .ofNat 1 => g45_0 W | .ofNat 2 => g46_0 W | .ofNat 3 => g47_0 W | .ofNat (m1 + 4) => s24 W m1) | .ofNat 12 => (match a1 with | .negSucc m1 => s25 W m1 | .ofNat 0 => g48_0 W | .ofNat 1 => g49_0 W | .ofNat 2 => g50_0 W | .ofNat 3 => g51_0 W | .ofNat (m1 + 4) => s26 W m1) | .ofNat 13 => (match a1 with | .negSucc m1 => s27 W m1 | .ofNat 0 => g52_0 W | .ofNat 1 => g53_0 W | .ofNat 2 => g54_0 W | .ofNat 3 => g55_0 W | .ofNat (m1 + 4) => s28 W m1) | .ofNat 14 => (match a1 with | .negSucc m1 => s29 W m1 | .ofNat 0 => g56_0 W | .ofNat 1 => g57_0 W | .ofNat 2 => g58_0 W | .ofNat 3 => g59_0 W | .ofNat (m1 + 4) => s30 W m1) | .ofNat 15 => (match a1 with | .negSucc m1 => s31 W m1 | .ofNat 0 => g60_0 W | .ofNat 1 => g61_0 W | .ofNat 2 => g62_0 W | .ofNat 3 => g63_0 W | .ofNat (m1 + 4) => s32 W m1) | .ofNat 16 => (match a1 with | .negSucc m1 => s33 W m1 | .ofNat 0 => g64_0 W | .ofNat 1 => g65_0 W | .ofNat 2 => g66_0 W | .ofNat 3 => g67_0 W | .ofNat (m1 + 4) => s34 W m1) | .ofNat 17 => (match a1 with | .negSucc m1 => s35 W m1 | .ofNat 0 => g68_0 W | .ofNat 1 => g69_0 W | .ofNat 2 => g70_0 W | .ofNat 3 => g71_0 W | .ofNat (m1 + 4) => s36 W m1) | .ofNat 18 => (match a1 with | .negSucc m1 => s37 W m1 | .ofNat 0 => g72_0 W | .ofNat 1 => g73_0 W | .ofNat 2 => g74_0 W | .ofNat 3 => g75_0 W | .ofNat (m1 + 4) => s38 W m1) | .ofNat 19 => (match a1 with | .negSucc m1 => s39 W m1 | .ofNat 0 => g76_0 W | .ofNat 1 => g77_0 W | .ofNat 2 => g78_0 W | .ofNat 3 => g79_0 W | .ofNat (m1 + 4) => s40 W m1) | .ofNat 20 => (match a1 with | .negSucc m1 => s41 W m1 | .ofNat 0 => g80_0 W | .ofNat 1 => g81_0 W | .ofNat 2 => g82_0 W | .ofNat 3 => g83_0 W | .ofNat (m1 + 4) => s42 W m1) | .ofNat 21 => (match a1 with | .negSucc m1 => s43 W m1 | .ofNat 0 => g84_0 W | .ofNat 1 => g85_0 W | .ofNat 2 => g86_0 W | .ofNat 3 => g87_0 W | .ofNat (m1 + 4) => s44 W m1) | .ofNat 22 => (match a1 with | .negSucc m1 => s45 W m1 | .ofNat 0 => g88_0 W | .ofNat 1 => g89_0 W | .ofNat 2 => g90_0 W | .ofNat 3 => g91_0 W | .ofNat (m1 + 4) => s46 W m1) | .ofNat 23 => (match a1 with | .negSucc m1 => s47 W m1 | .ofNat 0 => g92_0 W | .ofNat 1 => g93_0 W | .ofNat 2 => g94_0 W | .ofNat 3 => g95_0 W | .ofNat (m1 + 4) => s48 W m1) | .ofNat 24 => (match a1 with | .negSucc m1 => s49 W m1 | .ofNat 0 => g96_0 W | .ofNat 1 => g97_0 W | .ofNat 2 => g98_0 W | .ofNat 3 => g99_0 W | .ofNat (m1 + 4) => s50 W m1) | .ofNat 25 => (match a1 with | .negSucc m1 => s51 W m1 | .ofNat 0 => g100_0 W | .ofNat 1 => g101_0 W | .ofNat 2 => g102_0 W | .ofNat 3 => g103_0 W | .ofNat (m1 + 4) => s52 W m1) | .ofNat 26 => (match a1 with | .negSucc m1 => s53 W m1 | .ofNat 0 => g104_0 W | .ofNat 1 => g105_0 W | .ofNat 2 => g106_0 W | .ofNat 3 => g107_0 W | .ofNat (m1 + 4) => s54 W m1) | .ofNat 27 => (match a1 with | .negSucc m1 => s55 W m1 | .ofNat 0 => g108_0 W | .ofNat 1 => g109_0 W | .ofNat 2 => g110_0 W | .ofNat 3 => g111_0 W | .ofNat (m1 + 4) => s56 W m1) | .ofNat 28 => (match a1 with | .negSucc m1 => s57 W m1 | .ofNat 0 => g112_0 W | .ofNat 1 => g113_0 W | .ofNat 2 => g114_0 W | .ofNat 3 => g115_0 W | .ofNat (m1 + 4) => s58 W m1) | .ofNat 29 => (match a1 with | .negSucc m1 => s59 W m1 | .ofNat 0 => g116_0 W | .ofNat 1 => g117_0 W | .ofNat 2 => g118_0 W | .ofNat 3 => g119_0 W | .ofNat (m1 + 4) => s60 W m1) | .ofNat 30 => (match a1 with | .negSucc m1 => s61 W m1 | .ofNat 0 => g120_0 W | .ofNat 1 => g121_0 W | .ofNat 2 => g122_0 W | .ofNat 3 => g123_0 W | .ofNat (m1 + 4) => s62 W m1) | .ofNat 31 => (match a1 with | .negSucc m1 => s63 W m1 | .ofNat 0 => g124_0 W | .ofNat 1 => g125_0 W | .ofNat 2 => g126_0 W | .ofNat 3 => g127_0 W | .ofNat (m1 + 4) => s64 W m1) | .ofNat 32 => (match a1 with | .negSucc m1 => s65 W m1 | .ofNat 0 => g128_0 W | .ofNat 1 => g129_0 W | .ofNat 2 => g130_0 W | .ofNat 3 => g131_0 W | .ofNat (m1 + 4) => s66 W m1) | .ofNat 33 => (match a1 with | .negSucc m1 => s67 W m1 | .ofNat 0 => g132_0 W | .ofNat 1 => g133_0 W | .ofNat 2 => g134_0 W | .ofNat 3 => g135_0 W | .ofNat (m1 + 4) => s68 W m1) | .ofNat 34 => (match a1 with | .negSucc m1 => s69 W m1 | .ofNat 0 => g136_0 W | .ofNat 1 => g137_0 W | .ofNat 2 => g138_0 W | .ofNat 3 => g139_0 W | .ofNat (m1 + 4) => s70 W m1) | .ofNat 35 => (match a1 with | .negSucc m1 => s71 W m1 | .ofNat 0 => g140_0 W | .ofNat 1 => g141_0 W | .ofNat 2 => g142_0 W | .ofNat 3 => g143_0 W | .ofNat (m1 + 4) => s72 W m1) | .ofNat 36 => (match a1 with | .negSucc m1 => s73 W m1 | .ofNat 0 => g144_0 W | .ofNat 1 => g145_0 W | .ofNat 2 => g146_0 W | .ofNat 3 => g147_0 W | .ofNat (m1 + 4) => s74 W m1) | .ofNat 37 => (match a1 with | .negSucc m1 => s75 W m1 | .ofNat 0 => g148_0 W | .ofNat 1 => g149_0 W | .ofNat 2 => g150_0 W | .ofNat 3 => g151_0 W | .ofNat (m1 + 4) => s76 W m1) | .ofNat 38 => (match a1 with | .negSucc m1 => s77 W m1 | .ofNat 0 => g152_0 W | .ofNat 1 => g153_0 W | .ofNat 2 => g154_0 W | .ofNat 3 => g155_0 W | .ofNat (m1 + 4) => s78 W m1) | .ofNat 39 => (match a1 with | .negSucc m1 => s79 W m1 | .ofNat 0 => g156_0 W | .ofNat 1 => g157_0 W | .ofNat 2 => g158_0 W | .ofNat 3 => g159_0 W | .ofNat (m1 + 4) => s80 W m1) | .ofNat 40 => (match a1 with | .negSucc m1 => s81 W m1 | .ofNat 0 => g160_0 W | .ofNat 1 => g161_0 W | .ofNat 2 => g162_0 W | .ofNat 3 => g163_0 W | .ofNat (m1 + 4) => s82 W m1) | .ofNat (m0 + 41) => s83 W m0 a1)
theorem own : ownKnob Tryd.prog.godebug = none := by kernel_rfl
def laid : List (String × DataW Unit) := [("unicode/utf8.acceptRanges", Rows.laid_unicode_utf8_acceptRanges), ("unicode/utf8.first", Rows.laid_unicode_utf8_first)]
theorem calls (a0 : Int) (a1 : Int) (W : World) (hsh : W.ShapedOpen Tryd.prog) (hl : laidMet Tryd.prog laid W) : Calls Tryd.prog 4 #[.int .i64 a0, .int .i64 a1] W fun e W' => e = .returned (.bool true) ∧ Below W.heap.size W W' := by
  obtain ⟨σ, hσ⟩ := isTrue_done (runs W a0 a1)
  have hi : ∀ g ∈ ([] : List Nat), ∃ te pe, W.cell? ⟨g, 0, none⟩ = some (.iface te pe) := by
    intro g hg; cases hg
  have ht : ∀ g l, (g, l) ∈ tabs → ∀ i v, l[i]? = some v → ∃ v', W.cell? ⟨g, i, none⟩ = some v' ∧ VR (fun _ => none) v v' := by
    intro g l hm; cases hm
  have hw : WR Tryd.prog (fun _ => none) ⟨Tryd.prog.globals.size, .nil, some (W, ⟨[], tabs⟩)⟩ W :=
    ⟨fun _ _ h => (by cases h), fun _ _ h => (by cases h), fun _ _ _ _ h => (by cases h), fun i hi => absurd (Tr.get_nil i) hi, fun _ _ _ h => (by cases h), Nat.le_refl _,
      fun W0 L h => (by cases h; exact ⟨⟨hsh, hi, ht⟩, Nat.le_refl _, fun _ _ h => (by cases h), fun _ _ => rfl⟩)⟩
  refine ((runQ_sound (extOk _) (by kernel_rfl) (OrcOk.or (orcTree_ok trok_) evOrc.orcOk) 1000000).call 4 _ _ _ _ _ hσ _ #[.int .i64 a0, .int .i64 a1] W (.cons (.int ..) (.cons (.int ..) (.nil))) hw).mono fun e W' he => ?_
  obtain ⟨m', v', rfl, hv, hp⟩ := he
  cases hv
  exact ⟨rfl, hp.kp.os, hp.kp.tape, hp.kp.output, hp.kp.size, fun k hk => hp.kp.block k hk fun i im h => by cases h⟩
theorem lifted (os : Os) (started : os.Started) (H : Type) (enc : TypeId × Value → H) :
    ReturnsInHanded {} Tryd.checked os 4 .any (fun w args => (Rows.linkOthersSpec.pre enc Tryd.prog Tryd.f4 [] false w args ∧ laidMetH Tryd.prog laid w) ∧ sizedMet enc Tryd.prog Tryd.f4 (OpenSpec.ofChange Rows.linkOthersSpec) false w args)
      (Rows.linkOthersSpec.post enc Tryd.prog Tryd.f4 false true false false) := by
  refine returnsInHanded_of_calls (C := Tryd.checked) own started (by kernel_rfl)
    (ChangeSpec.witness_shaped (enc := enc) (C := Tryd.checked) (os := os) (X := fun w _ => laidMetH Tryd.prog laid w) false (World.laidAll Tryd.prog os laid) #[.int .i64 0, .int .i64 0] 8 (World.laidAll_os _ _ _)
      (World.shaped_of_ZipB (by kernel_rfl) (by kernel_rfl)) (by kernel_rfl) (by kernel_rfl) (by kernel_rfl)
      (by rw [MakeChecks.laidMetH_plain _ _ _ (by kernel_rfl)]; exact laidMet_laidAll _ (by kernel_rfl) (by kernel_rfl))) ?_
  intro w tape i _ hsh _ hok hpre _
  obtain ⟨_, _, _, fn', hfn', _, _, _, _, hval0⟩ := hok
  obtain rfl : fn' = Tryd.f4 := Option.some.inj (hfn'.symm.trans Tryd.func4)
  obtain ⟨⟨⟨ds, gs, before, hw0, _⟩, hx⟩, _⟩ := hpre
  have hW := DataW.Whole.of_heap (w' := w.forCall tape i) (by rfl) hw0
  have hX : laidMetH Tryd.prog laid (w.forCall tape i) := hx.of_heap (show (w.forCall tape i).memory.heap = (w.forCall tape i).heap from rfl)
  rw [MakeChecks.laidMetH_plain _ _ _ (by kernel_rfl)] at hX
  have hval : ∀ (j : Nat) t v, Tryd.f4.params[j]? = some t → i.args[j]? = some v → Value.okWide Tryd.prog (w.forCall tape i) .any w.heap.size t v := hval0
  clear hval0
  generalize w.forCall tape i = W at *
  generalize i.args = args at *
  have hW' := hW
  obtain ⟨p, q, hA0, hV, rfl, hfz, hnd⟩ := hW
  have hA : DataW.TrodAll enc Tryd.prog W 0 (fun _ => true) true Tryd.f4.params.toList args.toList ds p := hA0
  rw [Tryd.params4] at hA hval
  obtain ⟨v0, vs0, d0, ds0, p0, q0, hargs, rfl, rfl, h0, r0⟩ := trodAll_cons hA
  obtain ⟨v1, vs1, d1, ds1, p1, q1, rfl, rfl, rfl, h1, r1⟩ := trodAll_cons r0
  obtain ⟨rfl, rfl, rfl⟩ := trodAll_nil r1
  obtain rfl : args = #[v0, v1] := by cases args; simp_all
  obtain ⟨rfl, rfl⟩ := trodVars_none hV
  obtain ⟨a0, rfl, rfl, rfl, w0⟩ := open_int Tryd.underlying3 (hval 0 3 v0 rfl rfl) h0
  obtain ⟨a1, rfl, rfl, rfl, w1⟩ := open_int Tryd.underlying3 (hval 1 3 v1 rfl rfl) h1
  refine (calls a0 a1 W hsh hX).mono fun e W' ⟨he, bel⟩ => ?_
  subst he
  exact ChangeSpec.post_blind ⟨_, _, _, [], _, [], hW', trodAll_mk1 (shut_bool Tryd.underlying4 _), (trodAll_cons_mk (shut_int Tryd.underlying3 w0) (trodAll_cons_mk (shut_int Tryd.underlying3 w1) trodAll_mk0)), rfl, bel.frame _, fun h => by cases h⟩
theorem over : Rows.linkOthersRow.holds Tryd.pinned (OpenSpec.ofChange Rows.linkOthersSpec) :=
  OpenClaim.holds_of_wide 4 Tryd.f4 rfl rfl rfl rfl rfl rfl rfl ⟨rfl, rfl, rfl, rfl, rfl⟩ rfl rfl rfl rfl rfl (by kernel_rfl) Tryd.func4 (by kernel_rfl)
    (of_decide_eq_true (by kernel_rfl)) (by unfold Func.isWrapper; first | (rw [if_pos (by decide +kernel)]; kernel_rfl) | (rw [if_neg (by decide +kernel)]; exact ⟨rfl, rfl⟩))
    (fun os started H enc _ => lifted os started H enc)
theorem card : Rows.LinkOthersCardSaid :=
  Claim7.holds_tied_plain_at .later [] [.data, .pinned] true (true, "86a124b6714a5bc8331d90010c556175ec5215da0b72ca0d412e8808c7082661") true
    over (fun _ h => by cases h) (by kernel_rfl) (fun _ h => by cases h) linkOthers_row_tie rfl ⟨rfl, rfl⟩ (by kernel_rfl) rfl
    (fun f fn hf hfn => by
      obtain rfl : f = 4 := Option.some.inj ((show Tryd.prog.funcNamed Rows.linkOthersRow.func = some 4 from (by kernel_rfl)).symm.trans hf) |>.symm
      obtain rfl : fn = Tryd.f4 := (Option.some.inj (Tryd.func4.symm.trans hfn)).symm
      exact ⟨(by kernel_rfl), fun j t ht => by
        rw [Tryd.params4] at ht
        rcases j with _ | (_ | j)
        · obtain rfl : t = 3 := by simpa using ht.symm
          kernel_rfl
        · obtain rfl : t = 3 := by simpa using ht.symm
          kernel_rfl
        · simp at ht⟩)
    (by kernel_rfl)
end Go.Proofs.YtncibghfgdldoaaDoor.linkOthers
namespace Go.Proofs.YtncibghfgdldoaaDoor
theorem linkOthers_holds : Rows.LinkOthersCardSaid := linkOthers.card
end Go.Proofs.YtncibghfgdldoaaDoor
