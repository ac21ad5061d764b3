/- ClientNone answers true (a closed law): its run by an evaluator that was proved sound. -/
import Derived.Test.YtkgkmmdlpnbloaaGreatDoorEvClientNoneRun
import Derived.Test.YtkgkmmdlpnbloaaGreatDoorRows
import Derived.WalkKit
import Derived.ProofKit
import Derived.OpenShut
import Derived.ChangeOld
import Derived.Below
import Derived.SizedLaws
import Derived.KernelRfl
import Derived.Lay
import Derived.LaidHandle
import Derived.Stop.Joined
import Derived.Test.YtkgkmmdlpnbloaaGreatDoorTie
import Derived.Test.YtkgkmmdlpnbloaaGreatDoorCards
import Derived.SevenTiedAt
namespace Go.Proofs.YtkgkmmdlpnbloaaGreatDoor.clientNone
open Go.ChangeShapes Go.WideShapes Go.ChangeAt Go.RowKit Go.YtkgkmmdlpnbloaaGreatDoorEv
set_option linter.unusedVariables false
set_option maxRecDepth 100000
theorem own : ownKnob Tryz.prog.godebug = none := by kernel_rfl
theorem calls (W : World) : Calls Tryz.prog 4 #[] W fun e W' => e = .returned (.bool true) ∧ Below W.heap.size W W' := by
  obtain ⟨σ, hσ⟩ := isTrue_done runs
  have hw : WR Tryz.prog (fun _ => none) ⟨Tryz.prog.globals.size, .nil, none⟩ W :=
    ⟨fun _ _ h => (by cases h), fun _ _ h => (by cases h), fun _ _ _ _ h => (by cases h), fun i hi => absurd (Tr.get_nil i) hi, fun _ _ _ h => (by cases h), Nat.le_refl _, fun _ h => (by cases h)⟩
  refine ((runQ_sound (extOk _) (by kernel_rfl) (OrcOk.none _) 1000000).call 4 [] _ _ _ _ hσ _ #[] W .nil hw).mono fun e W' he => ?_
  obtain ⟨m', v', rfl, hv, hp⟩ := he
  cases hv
  exact ⟨rfl, hp.kp.os, hp.kp.tape, hp.kp.output, hp.kp.size, fun k hk => hp.kp.block k hk fun i im h => by cases h⟩
def laid : List (String × DataW Unit) := [("unicode/utf8.acceptRanges", Rows.laid_unicode_utf8_acceptRanges), ("unicode/utf8.first", Rows.laid_unicode_utf8_first)]
theorem lifted (os : Os) (started : os.Started) (H : Type) (enc : TypeId × Value → H) :
    ReturnsInHanded {} Tryz.checked os 4 .any (fun w args => (Rows.clientNoneSpec.pre enc Tryz.prog Tryz.f4 [] false w args ∧ laidMetH Tryz.prog laid w) ∧ sizedMet enc Tryz.prog Tryz.f4 (OpenSpec.ofChange Rows.clientNoneSpec) false w args)
      (Rows.clientNoneSpec.post enc Tryz.prog Tryz.f4 false true false false) := by
  refine returnsInHanded_of_change_and (C := Tryz.checked) (X := fun w _ => laidMetH Tryz.prog laid w) (fun _ _ _ hh h => h.of_heap hh) own started (by kernel_rfl) Tryz.func4
    (ChangeSpec.witness_shaped (enc := enc) (C := Tryz.checked) (os := os) (X := fun w _ => laidMetH Tryz.prog laid w) false (World.laidAll Tryz.prog os laid) #[] 8 (World.laidAll_os _ _ _)
      (World.shaped_of_ZipB (by kernel_rfl) (by kernel_rfl)) (by kernel_rfl) (by kernel_rfl) (by kernel_rfl)
      (by rw [MakeChecks.laidMetH_plain _ _ _ (by kernel_rfl)]; exact laidMet_laidAll _ (by kernel_rfl) (by kernel_rfl))) ?_
  intro W base args ds gs before hval0 hW _ _ _ _
  have hW' := hW
  obtain ⟨p, q, hA0, hV, rfl, hfz, hnd⟩ := hW
  have hA : DataW.TrodAll enc Tryz.prog W 0 (fun _ => true) true Tryz.f4.params.toList args.toList ds p := hA0
  rw [Tryz.params4] at hA
  obtain ⟨hargs, rfl, rfl⟩ := trodAll_nil hA
  obtain rfl : args = #[] := by apply Array.ext'; simpa using hargs
  obtain ⟨rfl, rfl⟩ := trodVars_none hV
  refine (calls W).mono fun e W' ⟨he, bel⟩ => ?_
  subst he
  exact ⟨_, rfl, _, _, _, [], _, [], hW', trodAll_mk1 (shut_bool Tryz.underlying4 _), trodAll_mk0, rfl, bel.frame _, fun h => by cases h⟩
theorem over : Rows.clientNoneRow.holds Tryz.pinned (OpenSpec.ofChange Rows.clientNoneSpec) :=
  OpenClaim.holds_of_wide 4 Tryz.f4 rfl rfl rfl rfl rfl rfl rfl ⟨rfl, rfl, rfl, rfl, rfl⟩ rfl rfl rfl rfl rfl (by kernel_rfl) Tryz.func4 (by kernel_rfl)
    (of_decide_eq_true (by kernel_rfl)) (by unfold Func.isWrapper; first | (rw [if_pos (by decide +kernel)]; kernel_rfl) | (rw [if_neg (by decide +kernel)]; exact ⟨rfl, rfl⟩))
    (fun os started H enc _ => lifted os started H enc)
theorem card : Rows.ClientNoneCardSaid :=
  Claim7.holds_tied_plain_at .later [] [.data, .pinned] true (true, "2d1ed19b671d00921f3f0ffc3fe31216f4bf989fa3a2ff0c72f62e56b037b139") true
    over (fun _ h => by cases h) (by kernel_rfl) (fun _ h => by cases h) clientNone_row_tie rfl ⟨rfl, rfl⟩ (by kernel_rfl) rfl
    (fun f fn hf hfn => by
      obtain rfl : f = 4 := Option.some.inj ((show Tryz.prog.funcNamed Rows.clientNoneRow.func = some 4 by kernel_rfl).symm.trans hf) |>.symm
      obtain rfl : fn = Tryz.f4 := (Option.some.inj (Tryz.func4.symm.trans hfn)).symm
      exact ⟨by kernel_rfl, fun j t ht => by rw [Tryz.params4] at ht; simp at ht⟩)
    (by kernel_rfl)
end Go.Proofs.YtkgkmmdlpnbloaaGreatDoor.clientNone
namespace Go.Proofs.YtkgkmmdlpnbloaaGreatDoor
theorem clientNone_holds : Rows.ClientNoneCardSaid := clientNone.card
end Go.Proofs.YtkgkmmdlpnbloaaGreatDoor
