/- SourceNone answers true: its runs by an evaluator that was proved sound. -/
import Derived.Test.YtdbibbchpdklcaaEvSourceNoneRun0
import Derived.Test.YtdbibbchpdklcaaRows
import Derived.WalkKit
import Derived.ProofKit
import Derived.OpenShut
import Derived.ChangeOld
import Derived.Below
import Derived.SizedLaws
import Derived.KernelRfl
namespace Go.Proofs.Ytdbibbchpdklcaa.sourceNone
open Go.ChangeShapes Go.WideShapes Go.ChangeAt Go.RowKit Go.YtdbibbchpdklcaaEv
set_option linter.unusedVariables false
set_option maxRecDepth 100000
theorem runs  : tst [] = true :=
  g0_0
theorem own : ownKnob Try.prog.godebug = none := by kernel_rfl
theorem calls  (W : World) : Calls Try.prog 4 #[] W fun e W' => e = .returned (.bool true) ∧ Below W.heap.size W W' := by
  obtain ⟨σ, hσ⟩ := isTrue_done (runs )
  have hw : WR Try.prog (fun _ => none) ⟨Try.prog.globals.size, .nil, none⟩ W :=
    ⟨fun _ _ h => (by cases h), fun _ _ h => (by cases h), fun _ _ _ _ h => (by cases h), fun i hi => absurd (Tr.get_nil i) hi, fun _ _ _ h => (by cases h), Nat.le_refl _, fun _ _ h => (by cases h)⟩
  refine ((runQ_sound (extOk _) (by kernel_rfl) (OrcOk.none _) 1000000).call 4 _ _ _ _ _ hσ _ #[] W (.nil) hw).mono fun e W' he => ?_
  obtain ⟨m', v', rfl, hv, hp⟩ := he
  cases hv
  exact ⟨rfl, hp.kp.os, hp.kp.tape, hp.kp.output, hp.kp.size, fun k hk => hp.kp.block k hk fun i im h => by cases h⟩
theorem lifted (os : Os) (started : os.Started) (H : Type) (enc : TypeId × Value → H) :
    ReturnsInHanded {} Try.checked os 4 .any (Rows.sourceNoneSpec.pre6 enc Try.prog Try.f4 Rows.sourceNoneRow.domain false) (Rows.sourceNoneSpec.post enc Try.prog Try.f4 false true false false) := by
  refine returnsInHanded_of_change_sized (C := Try.checked) own started (by kernel_rfl) Try.func4
    (ChangeSpec.witness6 (enc := enc) (C := Try.checked) false ⟨#[], #[], []⟩ 8 (by kernel_rfl) (by kernel_rfl) (by kernel_rfl) (by kernel_rfl)) ?_
  intro W base args ds gs before hval0 hW _ _ _

  have hW' := hW
  obtain ⟨p, q, hA0, hV, rfl, hfz, hnd⟩ := hW
  have hA : DataW.TrodAll enc Try.prog W 0 (fun _ => true) true Try.f4.params.toList args.toList ds p := hA0
  rw [Try.params4] at hA
  obtain ⟨hargs, rfl, rfl⟩ := trodAll_nil hA
  obtain rfl : args = #[] := by apply Array.ext'; simpa using hargs
  obtain ⟨rfl, rfl⟩ := trodVars_none hV
  refine (calls  W).mono fun e W' ⟨he, bel⟩ => ?_
  subst he
  exact ⟨_, rfl, _, _, _, [], _, [], hW', trodAll_mk1 (shut_bool Try.underlying4 _), trodAll_mk0, rfl, bel.frame _, fun h => by cases h⟩
theorem over : Rows.sourceNoneRow.holds Try.pinned (OpenSpec.ofChange Rows.sourceNoneSpec) :=
  OpenClaim.holds_of_wide 4 Try.f4 rfl rfl rfl rfl rfl rfl rfl ⟨rfl, rfl, rfl, rfl, rfl⟩ rfl rfl rfl rfl rfl (by kernel_rfl) Try.func4 (by kernel_rfl)
    (of_decide_eq_true (by kernel_rfl)) (by unfold Func.isWrapper; first | (rw [if_pos (by decide +kernel)]; kernel_rfl) | (rw [if_neg (by decide +kernel)]; exact ⟨rfl, rfl⟩))
    (fun os started H enc _ => lifted os started H enc)
end Go.Proofs.Ytdbibbchpdklcaa.sourceNone
namespace Go.Proofs.Ytdbibbchpdklcaa
theorem sourceNone_holds : Rows.SourceNoneSaid := sourceNone.over
end Go.Proofs.Ytdbibbchpdklcaa
