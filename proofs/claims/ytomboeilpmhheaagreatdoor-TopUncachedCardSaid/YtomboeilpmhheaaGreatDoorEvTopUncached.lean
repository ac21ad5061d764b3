/- TopUncached answers true: its runs by an evaluator that was proved sound. -/
import Derived.Test.YtomboeilpmhheaaGreatDoorEvTopUncachedRunS0
import Derived.Test.YtomboeilpmhheaaGreatDoorEvTopUncachedRunS1
import Derived.Test.YtomboeilpmhheaaGreatDoorEvTopUncachedRunS2
import Derived.Test.YtomboeilpmhheaaGreatDoorEvTopUncachedRunS3
import Derived.Test.YtomboeilpmhheaaGreatDoorEvTopUncachedRunS4
import Derived.Test.YtomboeilpmhheaaGreatDoorEvTopUncachedRunS5
import Derived.Test.YtomboeilpmhheaaGreatDoorEvTopUncachedFacts
import Derived.Test.YtomboeilpmhheaaGreatDoorRows
import Derived.WalkKit
import Derived.ProofKit
import Derived.OpenShut
import Derived.ChangeOld
import Derived.Below
import Derived.SizedLaws
import Derived.KernelRfl
import Derived.Lay
import Derived.LaidHandle
import Derived.Stop.Joined
import Derived.Test.YtomboeilpmhheaaGreatDoorTie
import Derived.Test.YtomboeilpmhheaaGreatDoorCards
import Derived.SevenTiedAt
namespace Go.Proofs.YtomboeilpmhheaaGreatDoor.topUncached
open Go.ChangeShapes Go.WideShapes Go.ChangeAt Go.RowKit Go.YtomboeilpmhheaaGreatDoorEv
set_option linter.unusedVariables false
set_option maxRecDepth 100000
theorem runs (a0 : Int) (a1 : Int) : ∃ l, VRs (fun _ => none) l (#[.int .i64 a0, .int .i64 a1] : Array Value).toList ∧ tst l = true :=
  (match evSmall.lt a0 3 (by decide) with | ⟨0, _, h0⟩ => (match evSmall.lt a1 6 (by decide) with | ⟨0, _, h1⟩ => ⟨_, (.cons (.res h0) (.cons (.res h1) .nil)), s0 a0 h0 a1 h1⟩ | ⟨1, _, h1⟩ => ⟨_, (.cons (.res h0) (.cons (.res h1) .nil)), s1 a0 h0 a1 h1⟩ | ⟨2, _, h1⟩ => ⟨_, (.cons (.res h0) (.cons (.res h1) .nil)), s2 a0 h0 a1 h1⟩ | ⟨3, _, h1⟩ => ⟨_, (.cons (.res h0) (.cons (.res h1) .nil)), s3 a0 h0 a1 h1⟩ | ⟨4, _, h1⟩ => ⟨_, (.cons (.res h0) (.cons (.res h1) .nil)), s4 a0 h0 a1 h1⟩ | ⟨5, _, h1⟩ => ⟨_, (.cons (.res h0) (.cons (.res h1) .nil)), s5 a0 h0 a1 h1⟩ | ⟨k + 6, q, _⟩ => absurd q (by omega)) | ⟨1, _, h0⟩ => (match evSmall.lt a1 6 (by decide) with | ⟨0, _, h1⟩ => ⟨_, (.cons (.res h0) (.cons (.res h1) .nil)), s6 a0 h0 a1 h1⟩ | ⟨1, _, h1⟩ => ⟨_, (.cons (.res h0) (.cons (.res h1) .nil)), s7 a0 h0 a1 h1⟩ | ⟨2, _, h1⟩ => ⟨_, (.cons (.res h0) (.cons (.res h1) .nil)), s8 a0 h0 a1 h1⟩ | ⟨3, _, h1⟩ => ⟨_, (.cons (.res h0) (.cons (.res h1) .nil)), s9 a0 h0 a1 h1⟩ | ⟨4, _, h1⟩ => ⟨_, (.cons (.res h0) (.cons (.res h1) .nil)), s10 a0 h0 a1 h1⟩ | ⟨5, _, h1⟩ => ⟨_, (.cons (.res h0) (.cons (.res h1) .nil)), s11 a0 h0 a1 h1⟩ | ⟨k + 6, q, _⟩ => absurd q (by omega)) | ⟨2, _, h0⟩ => (match evSmall.lt a1 6 (by decide) with | ⟨0, _, h1⟩ => ⟨_, (.cons (.res h0) (.cons (.res h1) .nil)), s12 a0 h0 a1 h1⟩ | ⟨1, _, h1⟩ => ⟨_, (.cons (.res h0) (.cons (.res h1) .nil)), s13 a0 h0 a1 h1⟩ | ⟨2, _, h1⟩ => ⟨_, (.cons (.res h0) (.cons (.res h1) .nil)), s14 a0 h0 a1 h1⟩ | ⟨3, _, h1⟩ => ⟨_, (.cons (.res h0) (.cons (.res h1) .nil)), s15 a0 h0 a1 h1⟩ | ⟨4, _, h1⟩ => ⟨_, (.cons (.res h0) (.cons (.res h1) .nil)), s16 a0 h0 a1 h1⟩ | ⟨5, _, h1⟩ => ⟨_, (.cons (.res h0) (.cons (.res h1) .nil)), s17 a0 h0 a1 h1⟩ | ⟨k + 6, q, _⟩ => absurd q (by omega)) | ⟨k + 3, q, _⟩ => absurd q (by omega))
theorem own : ownKnob Tryz.prog.godebug = none := by kernel_rfl
theorem calls (a0 : Int) (a1 : Int) (W : World) : Calls Tryz.prog 6 #[.int .i64 a0, .int .i64 a1] W fun e W' => e = .returned (.bool true) ∧ Below W.heap.size W W' := by
  obtain ⟨l, hlr, ht_⟩ := runs a0 a1
  obtain ⟨σ, hσ⟩ := isTrue_done ht_
  have hw : WR Tryz.prog (fun _ => none) ⟨Tryz.prog.globals.size, .nil, none⟩ W :=
    ⟨fun _ _ h => (by cases h), fun _ _ h => (by cases h), fun _ _ _ _ h => (by cases h), fun i hi => absurd (Tr.get_nil i) hi, fun _ _ _ h => (by cases h), Nat.le_refl _, fun _ _ h => (by cases h)⟩
  refine ((runQ_sound (extOk _) (by kernel_rfl) (OrcOk.or (orcRes_ok evSmall.any) evBegun.ok) 1000000).call 6 _ _ _ _ _ hσ _ #[.int .i64 a0, .int .i64 a1] W hlr hw).mono fun e W' he => ?_
  obtain ⟨m', v', rfl, hv, hp⟩ := he
  cases hv
  exact ⟨rfl, hp.kp.os, hp.kp.tape, hp.kp.output, hp.kp.size, fun k hk => hp.kp.block k hk fun i im h => by cases h⟩
def laid : List (String × DataW Unit) := [("math/bits.deBruijn32tab", Rows.laid_math_bits_deBruijn32tab), ("math/bits.deBruijn64tab", Rows.laid_math_bits_deBruijn64tab), ("internal/strconv.uint64pow10", Rows.laid_internal_strconv_uint64pow10), ("unicode/utf8.acceptRanges", Rows.laid_unicode_utf8_acceptRanges), ("strconv.ErrRange", Rows.laid_strconv_ErrRange), ("strconv.ErrSyntax", Rows.laid_strconv_ErrSyntax), ("unicode/utf8.first", Rows.laid_unicode_utf8_first)]
theorem lifted (os : Os) (started : os.Started) (H : Type) (enc : TypeId × Value → H) :
    ReturnsInHanded {} Tryz.checked os 6 .any (fun w args => (Rows.topUncachedSpec.pre enc Tryz.prog Tryz.f6 [] false w args ∧ laidMetH Tryz.prog laid w) ∧ sizedMet enc Tryz.prog Tryz.f6 (OpenSpec.ofChange Rows.topUncachedSpec) false w args)
      (Rows.topUncachedSpec.post enc Tryz.prog Tryz.f6 false true false false) := by
  refine returnsInHanded_of_change_and (C := Tryz.checked) (X := fun w _ => laidMetH Tryz.prog laid w) (fun _ _ _ hh h => h.of_heap hh) own started (by kernel_rfl) Tryz.func6
    (ChangeSpec.witness_shaped (enc := enc) (C := Tryz.checked) (os := os) (X := fun w _ => laidMetH Tryz.prog laid w) false (World.laidAll Tryz.prog os laid) #[.int .i64 0, .int .i64 0] 8 (World.laidAll_os _ _ _)
      (World.shaped_of_ZipB (by kernel_rfl) (by kernel_rfl)) (by kernel_rfl) (by kernel_rfl) (by kernel_rfl)
      (by rw [MakeChecks.laidMetH_plain _ _ _ (by kernel_rfl)]; exact laidMet_laidAll _ (by kernel_rfl) (by kernel_rfl))) ?_
  intro W base args ds gs before hval0 hW _ _ _ _
  have hval : ∀ (j : Nat) t v, Tryz.f6.params[j]? = some t → args[j]? = some v → Value.okWide Tryz.prog W .any base t v := hval0
  have hW' := hW
  obtain ⟨p, q, hA0, hV, rfl, hfz, hnd⟩ := hW
  have hA : DataW.TrodAll enc Tryz.prog W 0 (fun _ => true) true Tryz.f6.params.toList args.toList ds p := hA0
  rw [Tryz.params6] at hA hval
  obtain ⟨v0, vs0, d0, ds0, p0, q0, hargs, rfl, rfl, h0, r0⟩ := trodAll_cons hA
  obtain ⟨v1, vs1, d1, ds1, p1, q1, rfl, rfl, rfl, h1, r1⟩ := trodAll_cons r0
  obtain ⟨rfl, rfl, rfl⟩ := trodAll_nil r1
  obtain rfl : args = #[v0, v1] := by cases args; simp_all
  obtain ⟨rfl, rfl⟩ := trodVars_none hV
  obtain ⟨a0, rfl, rfl, rfl, w0⟩ := open_int Tryz.underlying3 (hval 0 3 v0 rfl rfl) h0
  obtain ⟨a1, rfl, rfl, rfl, w1⟩ := open_int Tryz.underlying3 (hval 1 3 v1 rfl rfl) h1
  refine (calls a0 a1 W).mono fun e W' ⟨he, bel⟩ => ?_
  subst he
  exact ⟨_, rfl, _, _, _, [], _, [], hW', trodAll_mk1 (shut_bool Tryz.underlying4 _), (trodAll_cons_mk (shut_int Tryz.underlying3 w0) (trodAll_cons_mk (shut_int Tryz.underlying3 w1) trodAll_mk0)), rfl, bel.frame _, fun h => by cases h⟩
theorem over : Rows.topUncachedRow.holds Tryz.pinned (OpenSpec.ofChange Rows.topUncachedSpec) :=
  OpenClaim.holds_of_wide 6 Tryz.f6 rfl rfl rfl rfl rfl rfl rfl ⟨rfl, rfl, rfl, rfl, rfl⟩ rfl rfl rfl rfl rfl named Tryz.func6 closed inst wrap
    (fun os started H enc _ => lifted os started H enc)
theorem card : Rows.TopUncachedCardSaid :=
  Claim7.holds_tied_plain_at .later [] [.data, .data, .data, .data, .sentinel, .sentinel, .pinned] true (true, "5117795b8fe955a5aae29c046616c2cfd9daf9fa5e00472dfc946fba7a4a4321") true
    over (fun _ h => by cases h) wfText (fun _ h => by cases h) topUncached_row_tie rfl ⟨rfl, rfl⟩ mainIs rfl
    (fun f fn hf hfn => by
      obtain rfl : f = 6 := Option.some.inj ((show Tryz.prog.funcNamed Rows.topUncachedRow.func = some 6 from named).symm.trans hf) |>.symm
      obtain rfl : fn = Tryz.f6 := (Option.some.inj (Tryz.func6.symm.trans hfn)).symm
      exact ⟨looks, fun j t ht => by
        rw [Tryz.params6] at ht
        rcases j with _ | (_ | j)
        · obtain rfl : t = 3 := by simpa using ht.symm
          kernel_rfl
        · obtain rfl : t = 3 := by simpa using ht.symm
          kernel_rfl
        · simp at ht⟩)
    goes
end Go.Proofs.YtomboeilpmhheaaGreatDoor.topUncached
namespace Go.Proofs.YtomboeilpmhheaaGreatDoor
theorem topUncached_holds : Rows.TopUncachedCardSaid := topUncached.card
end Go.Proofs.YtomboeilpmhheaaGreatDoor
