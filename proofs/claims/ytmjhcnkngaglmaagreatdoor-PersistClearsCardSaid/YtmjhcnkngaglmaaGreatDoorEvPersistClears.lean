/- PersistClears answers true: its runs by an evaluator that was proved sound. -/
import Derived.Test.YtmjhcnkngaglmaaGreatDoorEvPersistClearsRunS0
import Derived.Test.YtmjhcnkngaglmaaGreatDoorEvPersistClearsRunS1
import Derived.Test.YtmjhcnkngaglmaaGreatDoorEvPersistClearsRun0
import Derived.Test.YtmjhcnkngaglmaaGreatDoorEvPersistClearsRun1
import Derived.Test.YtmjhcnkngaglmaaGreatDoorEvPersistClearsRun2
import Derived.Test.YtmjhcnkngaglmaaGreatDoorEvPersistClearsRun3
import Derived.Test.YtmjhcnkngaglmaaGreatDoorEvPersistClearsRun4
import Derived.Test.YtmjhcnkngaglmaaGreatDoorRows
import Derived.WalkKit
import Derived.ProofKit
import Derived.OpenShut
import Derived.ChangeOld
import Derived.Below
import Derived.SizedLaws
import Derived.KernelRfl
import Derived.Lay
import Derived.LaidHandle
import Derived.Stop.Joined
import Derived.Test.YtmjhcnkngaglmaaGreatDoorTie
import Derived.Test.YtmjhcnkngaglmaaGreatDoorCards
import Derived.SevenTiedAt
namespace Go.Proofs.YtmjhcnkngaglmaaGreatDoor.persistClears
open Go.ChangeShapes Go.WideShapes Go.ChangeAt Go.RowKit Go.YtmjhcnkngaglmaaGreatDoorEv
set_option linter.unusedVariables false
set_option maxRecDepth 100000
theorem runs (a0 : Int) (a1 : Int) (a2 : Bool) : tst [.int .i64 a0, .int .i64 a1, .bool a2] = true :=
  (match a0 with | .negSucc m0 => s0 m0 a1 a2 | .ofNat 0 => (match a1 with | .negSucc m1 => s1 m1 a2 | .ofNat 0 => (match a2 with | true => g0_0 | false => g1_0) | .ofNat 1 => (match a2 with | true => g2_0 | false => g3_0) | .ofNat 2 => (match a2 with | true => g4_0 | false => g5_0) | .ofNat 3 => (match a2 with | true => g6_0 | false => g7_0) | .ofNat 4 => (match a2 with | true => g8_0 | false => g9_0) | .ofNat (m1 + 5) => s2 m1 a2) | .ofNat 1 => (match a1 with | .negSucc m1 => s3 m1 a2 | .ofNat 0 => (match a2 with | true => g10_0 | false => g11_0) | .ofNat 1 => (match a2 with | true => g12_0 | false => g13_0) | .ofNat 2 => (match a2 with | true => g14_0 | false => g15_0) | .ofNat 3 => (match a2 with | true => g16_0 | false => g17_0) | .ofNat 4 => (match a2 with | true => g18_0 | false => g19_0) | .ofNat (m1 + 5) => s4 m1 a2) | .ofNat 2 => (match a1 with | .negSucc m1 => s5 m1 a2 | .ofNat 0 => (match a2 with | true => g20_0 | false => g21_0) | .ofNat 1 => (match a2 with | true => g22_0 | false => g23_0) | .ofNat 2 => (match a2 with | true => g24_0 | false => g25_0) | .ofNat 3 => (match a2 with | true => g26_0 | false => g27_0) | .ofNat 4 => (match a2 with | true => g28_0 | false => g29_0) | .ofNat (m1 + 5) => s6 m1 a2) | .ofNat 3 => (match a1 with | .negSucc m1 => s7 m1 a2 | .ofNat 0 => (match a2 with | true => g30_0 | false => g31_0) | .ofNat 1 => (match a2 with | true => g32_0 | false => g33_0) | .ofNat 2 => (match a2 with | true => g34_0 | false => g35_0) | .ofNat 3 => (match a2 with | true => g36_0 | false => g37_0) | .ofNat 4 => (match a2 with | true => g38_0 | false => g39_0) | .ofNat (m1 + 5) => s8 m1 a2) | .ofNat 4 => (match a1 with | .negSucc m1 => s9 m1 a2 | .ofNat 0 => (match a2 with | true => g40_0 | false => g41_0) | .ofNat 1 => (match a2 with | true => g42_0 | false => g43_0) | .ofNat 2 => (match a2 with | true => g44_0 | false => g45_0) | .ofNat 3 => (match a2 with | true => g46_0 | false => g47_0) | .ofNat 4 => (match a2 with | true => g48_0 | false => g49_0) | .ofNat (m1 + 5) => s10 m1 a2) | .ofNat 5 => (match a1 with | .negSucc m1 => s11 m1 a2 | .ofNat 0 => (match a2 with | true => g50_0 | false => g51_0) | .ofNat 1 => (match a2 with | true => g52_0 | false => g53_0) | .ofNat 2 => (match a2 with | true => g54_0 | false => g55_0) | .ofNat 3 => (match a2 with | true => g56_0 | false => g57_0) | .ofNat 4 => (match a2 with | true => g58_0 | false => g59_0) | .ofNat (m1 + 5) => s12 m1 a2) | .ofNat 6 => (match a1 with | .negSucc m1 => s13 m1 a2 | .ofNat 0 => (match a2 with | true => g60_0 | false => g61_0) | .ofNat 1 => (match a2 with | true => g62_0 | false => g63_0) | .ofNat 2 => (match a2 with | true => g64_0 | false => g65_0) | .ofNat 3 => (match a2 with | true => g66_0 | false => g67_0) | .ofNat 4 => (match a2 with | true => g68_0 | false => g69_0) | .ofNat (m1 + 5) => s14 m1 a2) | .ofNat 7 => (match a1 with | .negSucc m1 => s15 m1 a2 | .ofNat 0 => (match a2 with | true => g70_0 | false => g71_0) | .ofNat 1 => (match a2 with | true => g72_0 | false => g73_0) | .ofNat 2 => (match a2 with | true => g74_0 | false => g75_0) | .ofNat 3 => (match a2 with | true => g76_0 | false => g77_0) | .ofNat 4 => (match a2 with | true => g78_0 | false => g79_0) | .ofNat (m1 + 5) => s16 m1 a2) | .ofNat 8 => (match a1 with | .negSucc m1 => s17 m1 a2 | .ofNat 0 => (match a2 with | true => g80_0 | false => g81_0) | .ofNat 1 => (match a2 with | true => g82_0 | false => g83_0) | .ofNat 2 => (match a2 with | true => g84_0 | false => g85_0) | .ofNat 3 => (match a2 with | true => g86_0 | false => g87_0) | .ofNat 4 => (match a2 with | true => g88_0 | false => g89_0) | .ofNat (m1 + 5) => s18 m1 a2) | .ofNat 9 => (match a1 with | .negSucc m1 => s19 m1 a2 | .ofNat 0 => (match a2 with | true => g90_0 | false => g91_0) | .ofNat 1 => (match a2 with | true => g92_0 | false => g93_0) | .ofNat 2 => (match a2 with | true => g94_0 | false => g95_0) | .ofNat 3 => (match a2 with | true => g96_0 | false => g97_0) | .ofNat 4 => (match a2 with | true => g98_0 | false => g99_0) | .ofNat (m1 + 5) => s20 m1 a2) | .ofNat 10 => (match a1 with | .negSucc m1 => s21 m1 a2 | .ofNat 0 => (match a2 with | true => g100_0 | false => g101_0) | .ofNat 1 => (match a2 with | true => g102_0 | false => g103_0) | .ofNat 2 => (match a2 with | true => g104_0 | false => g105_0) | .ofNat 3 => (match a2 with | true => g106_0 | false => g107_0) | .ofNat 4 => (match a2 with | true => g108_0 | false => g109_0) | .ofNat (m1 + 5) => s22 m1 a2) | .ofNat 11 => (match a1 with | .negSucc m1 => s23 m1 a2 | .ofNat 0 => (match a2 with | true => g110_0 | false => g111_0) | .ofNat 1 => (match a2 with | true => g112_0 | false => g113_0) | .ofNat 2 => (match a2 with | true => g114_0 | false => g115_0) | .ofNat 3 => (match a2 with | true => g116_0 | false => g117_0) | .ofNat 4 => (match a2 with | true => g118_0 | false => g119_0) | .ofNat (m1 + 5) => s24 m1 a2) | .ofNat 12 => (match a1 with | .negSucc m1 => s25 m1 a2 | .ofNat 0 => (match a2 with | true => g120_0 | false => g121_0) | .ofNat 1 => (match a2 with | true => g122_0 | false => g123_0) | .ofNat 2 => (match a2 with | true => g124_0 | false => g125_0) | .ofNat 3 => (match a2 with | true => g126_0 | false => g127_0) | .ofNat 4 => (match a2 with | true => g128_0 | false => g129_0) | .ofNat (m1 + 5) => s26 m1 a2) | .ofNat (m0 + 13) => s27 m0 a1 a2)
theorem own : ownKnob Tryz.prog.godebug = none := by kernel_rfl
theorem calls (a0 : Int) (a1 : Int) (a2 : Bool) (W : World) : Calls Tryz.prog 4 #[.int .i64 a0, .int .i64 a1, .bool a2] W fun e W' => e = .returned (.bool true) ∧ Below W.heap.size W W' := by
  obtain ⟨σ, hσ⟩ := isTrue_done (runs a0 a1 a2)
  have hw : WR Tryz.prog (fun _ => none) ⟨Tryz.prog.globals.size, .nil, none⟩ W :=
    ⟨fun _ _ h => (by cases h), fun _ _ h => (by cases h), fun _ _ _ _ h => (by cases h), fun i hi => absurd (Tr.get_nil i) hi, fun _ _ _ h => (by cases h), Nat.le_refl _, fun _ _ h => (by cases h)⟩
  refine ((runQ_sound (extOk _) (by kernel_rfl) (OrcOk.or ok_c160 (OrcOk.or ok_c158 (OrcOk.or ok_c156 (OrcOk.or ok_c155 (OrcOk.or ok_c154 (OrcOk.or ok_c152 (OrcOk.or ok_c151 (OrcOk.or ok_c149 (OrcOk.or ok_c147 (OrcOk.or ok_c146 (OrcOk.or ok_c144 (OrcOk.or ok_c142 (OrcOk.or ok_c141 (OrcOk.or ok_c140 (OrcOk.or ok_c138 (OrcOk.or ok_c136 (OrcOk.or ok_c135 (OrcOk.or ok_c134 (OrcOk.or ok_c132 (OrcOk.or ok_c131 (OrcOk.or ok_c129 (OrcOk.or ok_c127 (OrcOk.or ok_c126 (OrcOk.or ok_c124 (OrcOk.or ok_c122 (OrcOk.or ok_c121 (OrcOk.or ok_c120 (OrcOk.or ok_c118 (OrcOk.or ok_c116 (OrcOk.or ok_c115 (OrcOk.or ok_c114 (OrcOk.or ok_c112 (OrcOk.or ok_c111 (OrcOk.or ok_c109 (OrcOk.or ok_c107 (OrcOk.or ok_c106 (OrcOk.or ok_c104 (OrcOk.or ok_c102 (OrcOk.or ok_c101 (OrcOk.or ok_c100 (OrcOk.or ok_c99 (OrcOk.or ok_c98 (OrcOk.or ok_c97 (OrcOk.or ok_c96 (OrcOk.or ok_c95 (OrcOk.or ok_c94 (OrcOk.or ok_c93 (OrcOk.or ok_c92 (OrcOk.or ok_c91 (OrcOk.or ok_c90 (OrcOk.or ok_c88 (OrcOk.or ok_c87 (OrcOk.or ok_c86 (OrcOk.or ok_c85 (OrcOk.or ok_c84 (OrcOk.or ok_c83 (OrcOk.or ok_c82 (OrcOk.or ok_c81 (OrcOk.or ok_c80 (OrcOk.or ok_c79 (OrcOk.or ok_c78 (OrcOk.or ok_c77 (OrcOk.or ok_c76 (OrcOk.or ok_c75 (OrcOk.or ok_c74 (OrcOk.or ok_c73 (OrcOk.or ok_c72 (OrcOk.or ok_c71 (OrcOk.or ok_c70 (OrcOk.or ok_c69 (OrcOk.or ok_c68 (OrcOk.or ok_c67 (OrcOk.or ok_c66 (OrcOk.or ok_c65 (OrcOk.or ok_c64 (OrcOk.or ok_c63 (OrcOk.or ok_c62 (OrcOk.or ok_c61 (OrcOk.or ok_c60 (OrcOk.or ok_c59 (OrcOk.or ok_c58 (OrcOk.or ok_c57 (OrcOk.or ok_c56 (OrcOk.or ok_c55 (OrcOk.or ok_c54 (OrcOk.or ok_c53 (OrcOk.or ok_c52 (OrcOk.or ok_c51 (OrcOk.or ok_c50 (OrcOk.or ok_c49 (OrcOk.or ok_c48 (OrcOk.or ok_c47 (OrcOk.or ok_c46 (OrcOk.or ok_c45 (OrcOk.or ok_c44 (OrcOk.or ok_c43 (OrcOk.or ok_c42 (OrcOk.or ok_c41 (OrcOk.or ok_c40 (OrcOk.or ok_c39 (OrcOk.or ok_c38 (OrcOk.or ok_c37 (OrcOk.or ok_c36 (OrcOk.or ok_c35 (OrcOk.or ok_c34 (OrcOk.or ok_c33 (OrcOk.or ok_c32 (OrcOk.or ok_c31 (OrcOk.or ok_c30 (OrcOk.or ok_c29 (OrcOk.or ok_c28 (OrcOk.or ok_c27 (OrcOk.or ok_c26 (OrcOk.or ok_c25 (OrcOk.or ok_c24 (OrcOk.or ok_c23 (OrcOk.or ok_c22 (OrcOk.or ok_c21 (OrcOk.or ok_c20 (OrcOk.or ok_c19 (OrcOk.or ok_c18 (OrcOk.or ok_c17 (OrcOk.or ok_c16 (OrcOk.or ok_c15 (OrcOk.or ok_c14 (OrcOk.or ok_c13 (OrcOk.or ok_c12 (OrcOk.or ok_c11 (OrcOk.or ok_c10 (OrcOk.or ok_c9 (OrcOk.or ok_c8 (OrcOk.or ok_c7 (OrcOk.or ok_c6 (OrcOk.or ok_c5 (OrcOk.or ok_c4 (OrcOk.or ok_c3 (OrcOk.or ok_c2 (OrcOk.or ok_c1 (OrcOk.or ok_c0 (OrcOk.or (orcSum_ok evSum.any) evBegun.ok)))))))))))))))))))))))))))))))))))))))))))))))))))))))))))))))))))))))))))))))))))))))))))))))))))))))))))))))))))))))))))))))))))))))))))) 1000000).call 4 _ _ _ _ _ hσ _ #[.int .i64 a0, .int .i64 a1, .bool a2] W (.cons (.int ..) (.cons (.int ..) (.cons (.bool _) (.nil)))) hw).mono fun e W' he => ?_
  obtain ⟨m', v', rfl, hv, hp⟩ := he
  cases hv
  exact ⟨rfl, hp.kp.os, hp.kp.tape, hp.kp.output, hp.kp.size, fun k hk => hp.kp.block k hk fun i im h => by cases h⟩
def laid : List (String × DataW Unit) := [("math/bits.deBruijn32tab", Rows.laid_math_bits_deBruijn32tab), ("math/bits.deBruijn64tab", Rows.laid_math_bits_deBruijn64tab), ("internal/strconv.uint64pow10", Rows.laid_internal_strconv_uint64pow10), ("unicode/utf8.acceptRanges", Rows.laid_unicode_utf8_acceptRanges), ("strconv.ErrRange", Rows.laid_strconv_ErrRange), ("strconv.ErrSyntax", Rows.laid_strconv_ErrSyntax), ("unicode/utf8.first", Rows.laid_unicode_utf8_first)]
theorem lifted (os : Os) (started : os.Started) (H : Type) (enc : TypeId × Value → H) :
    ReturnsInHanded {} Tryz.checked os 4 .any (fun w args => (Rows.persistClearsSpec.pre enc Tryz.prog Tryz.f4 [] false w args ∧ laidMetH Tryz.prog laid w) ∧ sizedMet enc Tryz.prog Tryz.f4 (OpenSpec.ofChange Rows.persistClearsSpec) false w args)
      (Rows.persistClearsSpec.post enc Tryz.prog Tryz.f4 false true false false) := by
  refine returnsInHanded_of_change_and (C := Tryz.checked) (X := fun w _ => laidMetH Tryz.prog laid w) (fun _ _ _ hh h => h.of_heap hh) own started (by kernel_rfl) Tryz.func4
    (ChangeSpec.witness_shaped (enc := enc) (C := Tryz.checked) (os := os) (X := fun w _ => laidMetH Tryz.prog laid w) false (World.laidAll Tryz.prog os laid) #[.int .i64 0, .int .i64 0, .bool false] 8 (World.laidAll_os _ _ _)
      (World.shaped_of_ZipB (by kernel_rfl) (by kernel_rfl)) (by kernel_rfl) (by kernel_rfl) (by kernel_rfl)
      (by rw [MakeChecks.laidMetH_plain _ _ _ (by kernel_rfl)]; exact laidMet_laidAll _ (by kernel_rfl) (by kernel_rfl))) ?_
  intro W base args ds gs before hval0 hW _ _ _ _
  have hval : ∀ (j : Nat) t v, Tryz.f4.params[j]? = some t → args[j]? = some v → Value.okWide Tryz.prog W .any base t v := hval0
  have hW' := hW
  obtain ⟨p, q, hA0, hV, rfl, hfz, hnd⟩ := hW
  have hA : DataW.TrodAll enc Tryz.prog W 0 (fun _ => true) true Tryz.f4.params.toList args.toList ds p := hA0
  rw [Tryz.params4] at hA hval
  obtain ⟨v0, vs0, d0, ds0, p0, q0, hargs, rfl, rfl, h0, r0⟩ := trodAll_cons hA
  obtain ⟨v1, vs1, d1, ds1, p1, q1, rfl, rfl, rfl, h1, r1⟩ := trodAll_cons r0
  obtain ⟨v2, vs2, d2, ds2, p2, q2, rfl, rfl, rfl, h2, r2⟩ := trodAll_cons r1
  obtain ⟨rfl, rfl, rfl⟩ := trodAll_nil r2
  obtain rfl : args = #[v0, v1, v2] := by cases args; simp_all
  obtain ⟨rfl, rfl⟩ := trodVars_none hV
  obtain ⟨a0, rfl, rfl, rfl, w0⟩ := open_int Tryz.underlying3 (hval 0 3 v0 rfl rfl) h0
  obtain ⟨a1, rfl, rfl, rfl, w1⟩ := open_int Tryz.underlying3 (hval 1 3 v1 rfl rfl) h1
  obtain ⟨a2, rfl, rfl, rfl⟩ := open_bool Tryz.underlying4 (hval 2 4 v2 rfl rfl) h2
  refine (calls a0 a1 a2 W).mono fun e W' ⟨he, bel⟩ => ?_
  subst he
  exact ⟨_, rfl, _, _, _, [], _, [], hW', trodAll_mk1 (shut_bool Tryz.underlying4 _), (trodAll_cons_mk (shut_int Tryz.underlying3 w0) (trodAll_cons_mk (shut_int Tryz.underlying3 w1) (trodAll_cons_mk (shut_bool Tryz.underlying4 _) trodAll_mk0))), rfl, bel.frame _, fun h => by cases h⟩
theorem over : Rows.persistClearsRow.holds Tryz.pinned (OpenSpec.ofChange Rows.persistClearsSpec) :=
  OpenClaim.holds_of_wide 4 Tryz.f4 rfl rfl rfl rfl rfl rfl rfl ⟨rfl, rfl, rfl, rfl, rfl⟩ rfl rfl rfl rfl rfl (by kernel_rfl) Tryz.func4 (by kernel_rfl)
    (of_decide_eq_true (by kernel_rfl)) (by unfold Func.isWrapper; first | (rw [if_pos (by decide +kernel)]; kernel_rfl) | (rw [if_neg (by decide +kernel)]; exact ⟨rfl, rfl⟩))
    (fun os started H enc _ => lifted os started H enc)
theorem card : Rows.PersistClearsCardSaid :=
  Claim7.holds_tied_plain_at .later [] [.data, .data, .data, .data, .sentinel, .sentinel, .pinned] true (true, "40f4bc383bc983c3966cdffb8491b99c75c1458797e4d023d168dc3d65b08ef9") true
    over (fun _ h => by cases h) (by kernel_rfl) (fun _ h => by cases h) persistClears_row_tie rfl ⟨rfl, rfl⟩ (by kernel_rfl) rfl
    (fun f fn hf hfn => by
      obtain rfl : f = 4 := Option.some.inj ((show Tryz.prog.funcNamed Rows.persistClearsRow.func = some 4 from (by kernel_rfl)).symm.trans hf) |>.symm
      obtain rfl : fn = Tryz.f4 := (Option.some.inj (Tryz.func4.symm.trans hfn)).symm
      exact ⟨(by kernel_rfl), fun j t ht => by
        rw [Tryz.params4] at ht
        rcases j with _ | (_ | (_ | j))
        · obtain rfl : t = 3 := by simpa using ht.symm
          kernel_rfl
        · obtain rfl : t = 3 := by simpa using ht.symm
          kernel_rfl
        · obtain rfl : t = 4 := by simpa using ht.symm
          kernel_rfl
        · simp at ht⟩)
    (by kernel_rfl)
end Go.Proofs.YtmjhcnkngaglmaaGreatDoor.persistClears
namespace Go.Proofs.YtmjhcnkngaglmaaGreatDoor
theorem persistClears_holds : Rows.PersistClearsCardSaid := persistClears.card
end Go.Proofs.YtmjhcnkngaglmaaGreatDoor
