/- ChainDeps answers true: its runs by an evaluator that was proved sound. -/
import Derived.Test.YtmjbaanljfbobaaEvChainDepsRunS
import Derived.Test.YtmjbaanljfbobaaEvChainDepsRun0
import Derived.Test.YtmjbaanljfbobaaEvChainDepsRun1
import Derived.Test.YtmjbaanljfbobaaEvChainDepsRun2
import Derived.Test.YtmjbaanljfbobaaRows
import Derived.WalkKit
import Derived.ProofKit
import Derived.OpenShut
import Derived.ChangeOld
import Derived.Below
import Derived.SizedLaws
import Derived.KernelRfl
namespace Go.Proofs.Ytmjbaanljfbobaa.chainDeps
open Go.ChangeShapes Go.WideShapes Go.ChangeAt Go.RowKit Go.YtmjbaanljfbobaaEv
set_option linter.unusedVariables false
set_option maxRecDepth 100000
theorem runs (a0 : Int) (a1 : Int) : tst [.int .i64 a0, .int .i64 a1] = true :=
  (match a0 with | .negSucc m0 => s0 m0 a1 | .ofNat 0 => s1 a1 | .ofNat 1 => (match a1 with | .negSucc m1 => s2 m1 | .ofNat 0 => g0_0 | .ofNat 1 => g1_0 | .ofNat 2 => g2_0 | .ofNat 3 => g3_0 | .ofNat 4 => g4_0 | .ofNat 5 => g5_0 | .ofNat 6 => g6_0 | .ofNat 7 => g7_0 | .ofNat (m1 + 8) => s3 m1) | .ofNat 2 => (match a1 with | .negSucc m1 => s4 m1 | .ofNat 0 => g8_0 | .ofNat 1 => g9_0 | .ofNat 2 => g10_0 | .ofNat 3 => g11_0 | .ofNat 4 => g12_0 | .ofNat 5 => g13_0 | .ofNat 6 => g14_0 | .ofNat 7 => g15_0 | .ofNat (m1 + 8) => s5 m1) | .ofNat 3 => (match a1 with | .negSucc m1 => s6 m1 | .ofNat 0 => g16_0 | .ofNat 1 => g17_0 | .ofNat 2 => g18_0 | .ofNat 3 => g19_0 | .ofNat 4 => g20_0 | .ofNat 5 => g21_0 | .ofNat 6 => g22_0 | .ofNat 7 => g23_0 | .ofNat (m1 + 8) => s7 m1) | .ofNat 4 => (match a1 with | .negSucc m1 => s8 m1 | .ofNat 0 => g24_0 | .ofNat 1 => g25_0 | .ofNat 2 => g26_0 | .ofNat 3 => g27_0 | .ofNat 4 => g28_0 | .ofNat 5 => g29_0 | .ofNat 6 => g30_0 | .ofNat 7 => g31_0 | .ofNat (m1 + 8) => s9 m1) | .ofNat 5 => (match a1 with | .negSucc m1 => s10 m1 | .ofNat 0 => g32_0 | .ofNat 1 => g33_0 | .ofNat 2 => g34_0 | .ofNat 3 => g35_0 | .ofNat 4 => g36_0 | .ofNat 5 => g37_0 | .ofNat 6 => g38_0 | .ofNat 7 => g39_0 | .ofNat (m1 + 8) => s11 m1) | .ofNat 6 => (match a1 with | .negSucc m1 => s12 m1 | .ofNat 0 => g40_0 | .ofNat 1 => g41_0 | .ofNat 2 => g42_0 | .ofNat 3 => g43_0 | .ofNat 4 => g44_0 | .ofNat 5 => g45_0 | .ofNat 6 => g46_0 | .ofNat 7 => g47_0 | .ofNat (m1 + 8) => s13 m1) | .ofNat 7 => (match a1 with | .negSucc m1 => s14 m1 | .ofNat 0 => g48_0 | .ofNat 1 => g49_0 | .ofNat 2 => g50_0 | .ofNat 3 => g51_0 | .ofNat 4 => g52_0 | .ofNat 5 => g53_0 | .ofNat 6 => g54_0 | .ofNat 7 => g55_0 | .ofNat (m1 + 8) => s15 m1) | .ofNat 8 => (match a1 with | .negSucc m1 => s16 m1 | .ofNat 0 => g56_0 | .ofNat 1 => g57_0 | .ofNat 2 => g58_0 | .ofNat 3 => g59_0 | .ofNat 4 => g60_0 | .ofNat 5 => g61_0 | .ofNat 6 => g62_0 | .ofNat 7 => g63_0 | .ofNat (m1 + 8) => s17 m1) | .ofNat (m0 + 9) => s18 m0 a1)
theorem own : ownKnob Try.prog.godebug = none := by kernel_rfl
theorem calls (a0 : Int) (a1 : Int) (W : World) : Calls Try.prog 3 #[.int .i64 a0, .int .i64 a1] W fun e W' => e = .returned (.bool true) ∧ Below W.heap.size W W' := by
  letI : Lane := ⟨0⟩
  obtain ⟨σ, hσ⟩ := isTrue_done (runs a0 a1)
  have hw : WR Try.prog (fun _ => none) ⟨Try.prog.globals.size, .nil, none⟩ W :=
    ⟨fun _ _ h => (by cases h), fun _ _ h => (by cases h), fun _ _ _ _ h => (by cases h), fun i hi => absurd (Tr.get_nil i) hi, fun _ _ _ h => (by cases h), Nat.le_refl _, fun _ _ h => (by cases h)⟩
  refine ((runQ_sound (extOk _) (by kernel_rfl) (OrcOk.or evIns.ok evBegun.ok) 1000000).call 3 _ _ _ _ _ hσ _ #[.int .i64 a0, .int .i64 a1] W (.cons (.int ..) (.cons (.int ..) (.nil))) hw).mono fun e W' he => ?_
  obtain ⟨m', v', rfl, hv, hp⟩ := he
  cases hv
  exact ⟨rfl, hp.kp.os, hp.kp.tape, hp.kp.output, hp.kp.size, fun k hk => hp.kp.block k hk fun i im h _ => by cases h⟩
theorem lifted (os : Os) (started : os.Started) (H : Type) (enc : TypeId × Value → H) :
    ReturnsInHanded {} Try.checked os 3 .any (Rows.chainDepsSpec.pre6 enc Try.prog Try.f3 Rows.chainDepsRow.domain false) (Rows.chainDepsSpec.post enc Try.prog Try.f3 false true false false) := by
  refine returnsInHanded_of_change_sized (C := Try.checked) own started (by kernel_rfl) Try.func3
    (ChangeSpec.witness6 (enc := enc) (C := Try.checked) false ⟨#[], #[.int .i64 0, .int .i64 0], []⟩ 8 (by kernel_rfl) (by kernel_rfl) (by kernel_rfl) (by kernel_rfl)) ?_
  intro W base args ds gs before hval0 hW _ _ _
  have hval : ∀ (j : Nat) t v, Try.f3.params[j]? = some t → args[j]? = some v → Value.okWide Try.prog W .any base t v := hval0
  have hW' := hW
  obtain ⟨p, q, hA0, hV, rfl, hfz, hnd⟩ := hW
  have hA : DataW.TrodAll enc Try.prog W 0 (fun _ => true) true Try.f3.params.toList args.toList ds p := hA0
  rw [Try.params3] at hA hval
  obtain ⟨v0, vs0, d0, ds0, p0, q0, hargs, rfl, rfl, h0, r0⟩ := trodAll_cons hA
  obtain ⟨v1, vs1, d1, ds1, p1, q1, rfl, rfl, rfl, h1, r1⟩ := trodAll_cons r0
  obtain ⟨rfl, rfl, rfl⟩ := trodAll_nil r1
  obtain rfl : args = #[v0, v1] := by cases args; simp_all
  obtain ⟨rfl, rfl⟩ := trodVars_none hV
  obtain ⟨a0, rfl, rfl, rfl, w0⟩ := open_int Try.underlying3 (hval 0 3 v0 rfl rfl) h0
  obtain ⟨a1, rfl, rfl, rfl, w1⟩ := open_int Try.underlying3 (hval 1 3 v1 rfl rfl) h1
  refine (calls a0 a1 W).mono fun e W' ⟨he, bel⟩ => ?_
  subst he
  exact ⟨_, rfl, _, _, _, [], _, [], hW', trodAll_mk1 (shut_bool Try.underlying4 _), (trodAll_cons_mk (shut_int Try.underlying3 w0) (trodAll_cons_mk (shut_int Try.underlying3 w1) trodAll_mk0)), rfl, bel.frame _, fun h => by cases h⟩
theorem over : Rows.chainDepsRow.holds Try.pinned (OpenSpec.ofChange Rows.chainDepsSpec) :=
  OpenClaim.holds_of_wide 3 Try.f3 rfl rfl rfl rfl rfl rfl rfl ⟨rfl, rfl, rfl, rfl, rfl⟩ rfl rfl rfl rfl rfl (by kernel_rfl) Try.func3 (by kernel_rfl)
    (of_decide_eq_true (by kernel_rfl)) (by unfold Func.isWrapper; first | (rw [if_pos (by decide +kernel)]; kernel_rfl) | (rw [if_neg (by decide +kernel)]; exact ⟨rfl, rfl⟩))
    (fun os started H enc _ => lifted os started H enc)
end Go.Proofs.Ytmjbaanljfbobaa.chainDeps
namespace Go.Proofs.Ytmjbaanljfbobaa
theorem chainDeps_holds : Rows.ChainDepsSaid := chainDeps.over
end Go.Proofs.Ytmjbaanljfbobaa
