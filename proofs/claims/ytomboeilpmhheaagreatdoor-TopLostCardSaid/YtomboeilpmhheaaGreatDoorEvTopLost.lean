/- TopLost answers true: its runs by an evaluator that was proved sound. -/
import Derived.Test.YtomboeilpmhheaaGreatDoorEvTopLostRunS
import Derived.Test.YtomboeilpmhheaaGreatDoorEvTopLostFacts
import Derived.Test.YtomboeilpmhheaaGreatDoorRows
import Derived.WalkKit
import Derived.ProofKit
import Derived.OpenShut
import Derived.ChangeOld
import Derived.Below
import Derived.SizedLaws
import Derived.KernelRfl
import Derived.Lay
import Derived.LaidHandle
import Derived.Stop.Joined
import Derived.Test.YtomboeilpmhheaaGreatDoorTie
import Derived.Test.YtomboeilpmhheaaGreatDoorCards
import Derived.SevenTiedAt
namespace Go.Proofs.YtomboeilpmhheaaGreatDoor.topLost
open Go.ChangeShapes Go.WideShapes Go.ChangeAt Go.RowKit Go.YtomboeilpmhheaaGreatDoorEv
set_option linter.unusedVariables false
set_option maxRecDepth 100000
theorem runs (a0 : Int) : tst [.int .i64 a0] = true :=
  s0 a0
theorem own : ownKnob Tryz.prog.godebug = none := by kernel_rfl
theorem calls (a0 : Int) (W : World) : Calls Tryz.prog 5 #[.int .i64 a0] W fun e W' => e = .returned (.bool true) ∧ Below W.heap.size W W' := by
  obtain ⟨σ, hσ⟩ := isTrue_done (runs a0)
  have hw : WR Tryz.prog (fun _ => none) ⟨Tryz.prog.globals.size, .nil, none⟩ W :=
    ⟨fun _ _ h => (by cases h), fun _ _ h => (by cases h), fun _ _ _ _ h => (by cases h), fun i hi => absurd (Tr.get_nil i) hi, fun _ _ _ h => (by cases h), Nat.le_refl _, fun _ _ h => (by cases h)⟩
  refine ((runQ_sound (extOk _) (by kernel_rfl) evBegun.ok 1000000).call 5 _ _ _ _ _ hσ _ #[.int .i64 a0] W (.cons (.int ..) (.nil)) hw).mono fun e W' he => ?_
  obtain ⟨m', v', rfl, hv, hp⟩ := he
  cases hv
  exact ⟨rfl, hp.kp.os, hp.kp.tape, hp.kp.output, hp.kp.size, fun k hk => hp.kp.block k hk fun i im h => by cases h⟩
def laid : List (String × DataW Unit) := [("math/bits.deBruijn32tab", Rows.laid_math_bits_deBruijn32tab), ("math/bits.deBruijn64tab", Rows.laid_math_bits_deBruijn64tab), ("internal/strconv.uint64pow10", Rows.laid_internal_strconv_uint64pow10), ("unicode/utf8.acceptRanges", Rows.laid_unicode_utf8_acceptRanges), ("strconv.ErrRange", Rows.laid_strconv_ErrRange), ("strconv.ErrSyntax", Rows.laid_strconv_ErrSyntax), ("unicode/utf8.first", Rows.laid_unicode_utf8_first)]
theorem lifted (os : Os) (started : os.Started) (H : Type) (enc : TypeId × Value → H) :
    ReturnsInHanded {} Tryz.checked os 5 .any (fun w args => (Rows.topLostSpec.pre enc Tryz.prog Tryz.f5 [] false w args ∧ laidMetH Tryz.prog laid w) ∧ sizedMet enc Tryz.prog Tryz.f5 (OpenSpec.ofChange Rows.topLostSpec) false w args)
      (Rows.topLostSpec.post enc Tryz.prog Tryz.f5 false true false false) := by
  refine returnsInHanded_of_change_and (C := Tryz.checked) (X := fun w _ => laidMetH Tryz.prog laid w) (fun _ _ _ hh h => h.of_heap hh) own started (by kernel_rfl) Tryz.func5
    (ChangeSpec.witness_shaped (enc := enc) (C := Tryz.checked) (os := os) (X := fun w _ => laidMetH Tryz.prog laid w) false (World.laidAll Tryz.prog os laid) #[.int .i64 0] 8 (World.laidAll_os _ _ _)
      (World.shaped_of_ZipB (by kernel_rfl) (by kernel_rfl)) (by kernel_rfl) (by kernel_rfl) (by kernel_rfl)
      (by rw [MakeChecks.laidMetH_plain _ _ _ (by kernel_rfl)]; exact laidMet_laidAll _ (by kernel_rfl) (by kernel_rfl))) ?_
  intro W base args ds gs before hval0 hW _ _ _ _
  have hval : ∀ (j : Nat) t v, Tryz.f5.params[j]? = some t → args[j]? = some v → Value.okWide Tryz.prog W .any base t v := hval0
  have hW' := hW
  obtain ⟨p, q, hA0, hV, rfl, hfz, hnd⟩ := hW
  have hA : DataW.TrodAll enc Tryz.prog W 0 (fun _ => true) true Tryz.f5.params.toList args.toList ds p := hA0
  rw [Tryz.params5] at hA hval
  obtain ⟨v0, vs0, d0, ds0, p0, q0, hargs, rfl, rfl, h0, r0⟩ := trodAll_cons hA
  obtain ⟨rfl, rfl, rfl⟩ := trodAll_nil r0
  obtain rfl : args = #[v0] := by cases args; simp_all
  obtain ⟨rfl, rfl⟩ := trodVars_none hV
  obtain ⟨a0, rfl, rfl, rfl, w0⟩ := open_int Tryz.underlying3 (hval 0 3 v0 rfl rfl) h0
  refine (calls a0 W).mono fun e W' ⟨he, bel⟩ => ?_
  subst he
  exact ⟨_, rfl, _, _, _, [], _, [], hW', trodAll_mk1 (shut_bool Tryz.underlying4 _), (trodAll_cons_mk (shut_int Tryz.underlying3 w0) trodAll_mk0), rfl, bel.frame _, fun h => by cases h⟩
theorem over : Rows.topLostRow.holds Tryz.pinned (OpenSpec.ofChange Rows.topLostSpec) :=
  OpenClaim.holds_of_wide 5 Tryz.f5 rfl rfl rfl rfl rfl rfl rfl ⟨rfl, rfl, rfl, rfl, rfl⟩ rfl rfl rfl rfl rfl named Tryz.func5 closed inst wrap
    (fun os started H enc _ => lifted os started H enc)
theorem card : Rows.TopLostCardSaid :=
  Claim7.holds_tied_plain_at .later [] [.data, .data, .data, .data, .sentinel, .sentinel, .pinned] true (true, "5117795b8fe955a5aae29c046616c2cfd9daf9fa5e00472dfc946fba7a4a4321") true
    over (fun _ h => by cases h) wfText (fun _ h => by cases h) topLost_row_tie rfl ⟨rfl, rfl⟩ mainIs rfl
    (fun f fn hf hfn => by
      obtain rfl : f = 5 := Option.some.inj ((show Tryz.prog.funcNamed Rows.topLostRow.func = some 5 from named).symm.trans hf) |>.symm
      obtain rfl : fn = Tryz.f5 := (Option.some.inj (Tryz.func5.symm.trans hfn)).symm
      exact ⟨looks, fun j t ht => by
        rw [Tryz.params5] at ht
        rcases j with _ | j
        · obtain rfl : t = 3 := by simpa using ht.symm
          kernel_rfl
        · simp at ht⟩)
    goes
end Go.Proofs.YtomboeilpmhheaaGreatDoor.topLost
namespace Go.Proofs.YtomboeilpmhheaaGreatDoor
theorem topLost_holds : Rows.TopLostCardSaid := topLost.card
end Go.Proofs.YtomboeilpmhheaaGreatDoor
