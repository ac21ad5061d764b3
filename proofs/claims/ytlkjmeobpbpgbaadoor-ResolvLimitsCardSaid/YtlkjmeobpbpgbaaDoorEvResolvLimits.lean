/- ResolvLimits answers true (a closed law): its run by an evaluator that was proved sound. -/
import Derived.Test.YtlkjmeobpbpgbaaDoorEvResolvLimitsRun
import Derived.Test.YtlkjmeobpbpgbaaDoorRows
import Derived.WalkKit
import Derived.ProofKit
import Derived.OpenShut
import Derived.ChangeOld
import Derived.Below
import Derived.SizedLaws
import Derived.KernelRfl
import Derived.Lay
import Derived.LaidHandle
import Derived.Stop.Joined
import Derived.Test.YtlkjmeobpbpgbaaDoorTie
import Derived.Test.YtlkjmeobpbpgbaaDoorCards
import Derived.SevenTiedAt
namespace Go.Proofs.YtlkjmeobpbpgbaaDoor.resolvLimits
open Go.ChangeShapes Go.WideShapes Go.ChangeAt Go.RowKit Go.YtlkjmeobpbpgbaaDoorEv
set_option linter.unusedVariables false
set_option maxRecDepth 100000
theorem own : ownKnob Tryd.prog.godebug = none := by kernel_rfl
def laid : List (String × DataW Unit) := [("math/bits.deBruijn32tab", Rows.laid_math_bits_deBruijn32tab), ("math/bits.deBruijn64tab", Rows.laid_math_bits_deBruijn64tab), ("internal/strconv.uint64pow10", Rows.laid_internal_strconv_uint64pow10), ("unicode/utf8.acceptRanges", Rows.laid_unicode_utf8_acceptRanges), ("strconv.ErrRange", Rows.laid_strconv_ErrRange), ("strconv.ErrSyntax", Rows.laid_strconv_ErrSyntax), ("unicode/utf8.first", Rows.laid_unicode_utf8_first)]
theorem calls (W : World) (hsh : W.ShapedOpen Tryd.prog) (hl : laidMet Tryd.prog laid W) : Calls Tryd.prog 4 #[] W fun e W' => e = .returned (.bool true) ∧ Below W.heap.size W W' := by
  obtain ⟨σ, hσ⟩ := isTrue_done (runs W)
  have he : ∀ g ∈ [2, 3], ∃ te pe, W.cell? ⟨g, 0, none⟩ = some (.iface te pe) := by
    intro g hg
    simp only [List.mem_cons, List.mem_nil_iff, or_false] at hg
    rcases hg with rfl | rfl
    · exact evOrc.errSyntax hl.tail.tail.tail.tail.tail
    · exact evOrc.errRange hl.tail.tail.tail.tail
  have hw : WR Tryd.prog (fun _ => none) ⟨Tryd.prog.globals.size, .nil, some (W, [2, 3])⟩ W :=
    ⟨fun _ _ h => (by cases h), fun _ _ h => (by cases h), fun _ _ _ _ h => (by cases h), fun i hi => absurd (Tr.get_nil i) hi, fun _ _ _ h => (by cases h), Nat.le_refl _,
      fun W0 L h => (by cases h; exact ⟨⟨hsh, he⟩, Nat.le_refl _, fun _ _ h => (by cases h), fun _ _ => rfl⟩)⟩
  refine ((runQ_sound (extOk _) (by kernel_rfl) evOrc.orcOk 1000000).call 4 [] _ _ _ _ hσ _ #[] W .nil hw).mono fun e W' he => ?_
  obtain ⟨m', v', rfl, hv, hp⟩ := he
  cases hv
  exact ⟨rfl, hp.kp.os, hp.kp.tape, hp.kp.output, hp.kp.size, fun k hk => hp.kp.block k hk fun i im h => by cases h⟩
theorem lifted (os : Os) (started : os.Started) (H : Type) (enc : TypeId × Value → H) :
    ReturnsInHanded {} Tryd.checked os 4 .any (fun w args => (Rows.resolvLimitsSpec.pre enc Tryd.prog Tryd.f4 [] false w args ∧ laidMetH Tryd.prog laid w) ∧ sizedMet enc Tryd.prog Tryd.f4 (OpenSpec.ofChange Rows.resolvLimitsSpec) false w args)
      (Rows.resolvLimitsSpec.post enc Tryd.prog Tryd.f4 false true false false) := by
  refine returnsInHanded_of_calls (C := Tryd.checked) own started (by kernel_rfl)
    (ChangeSpec.witness_shaped (enc := enc) (C := Tryd.checked) (os := os) (X := fun w _ => laidMetH Tryd.prog laid w) false (World.laidAll Tryd.prog os laid) #[] 8 (World.laidAll_os _ _ _)
      (World.shaped_of_ZipB (by kernel_rfl) (by kernel_rfl)) (by kernel_rfl) (by kernel_rfl) (by kernel_rfl)
      (by rw [MakeChecks.laidMetH_plain _ _ _ (by kernel_rfl)]; exact laidMet_laidAll _ (by kernel_rfl) (by kernel_rfl))) ?_
  intro w tape i _ hsh _ _ hpre _
  obtain ⟨⟨⟨ds, gs, before, hw0, _⟩, hx⟩, _⟩ := hpre
  have hW := DataW.Whole.of_heap (w' := w.forCall tape i) (by rfl) hw0
  have hX : laidMetH Tryd.prog laid (w.forCall tape i) := hx.of_heap (show (w.forCall tape i).memory.heap = (w.forCall tape i).heap from rfl)
  rw [MakeChecks.laidMetH_plain _ _ _ (by kernel_rfl)] at hX
  generalize w.forCall tape i = W at *
  generalize i.args = args at *
  have hW' := hW
  obtain ⟨p, q, hA0, hV, rfl, hfz, hnd⟩ := hW
  have hA : DataW.TrodAll enc Tryd.prog W 0 (fun _ => true) true Tryd.f4.params.toList args.toList ds p := hA0
  rw [Tryd.params4] at hA
  obtain ⟨hargs, rfl, rfl⟩ := trodAll_nil hA
  obtain rfl : args = #[] := by apply Array.ext'; simpa using hargs
  obtain ⟨rfl, rfl⟩ := trodVars_none hV
  refine (calls W hsh hX).mono fun e W' ⟨he, bel⟩ => ?_
  subst he
  exact ChangeSpec.post_blind ⟨_, _, _, [], _, [], hW', trodAll_mk1 (shut_bool Tryd.underlying4 _), trodAll_mk0, rfl, bel.frame _, fun h => by cases h⟩
theorem over : Rows.resolvLimitsRow.holds Tryd.pinned (OpenSpec.ofChange Rows.resolvLimitsSpec) :=
  OpenClaim.holds_of_wide 4 Tryd.f4 rfl rfl rfl rfl rfl rfl rfl ⟨rfl, rfl, rfl, rfl, rfl⟩ rfl rfl rfl rfl rfl (by kernel_rfl) Tryd.func4 (by kernel_rfl)
    (of_decide_eq_true (by kernel_rfl)) (by unfold Func.isWrapper; first | (rw [if_pos (by decide +kernel)]; kernel_rfl) | (rw [if_neg (by decide +kernel)]; exact ⟨rfl, rfl⟩))
    (fun os started H enc _ => lifted os started H enc)
theorem card : Rows.ResolvLimitsCardSaid :=
  Claim7.holds_tied_plain_at .later [] [.data, .data, .data, .data, .sentinel, .sentinel, .pinned] true (true, "8619323bfed21fea389a85ee2edf894a062bd90207f532283514dc4c50c95c44") true
    over (fun _ h => by cases h) (by kernel_rfl) (fun _ h => by cases h) resolvLimits_row_tie rfl ⟨rfl, rfl⟩ (by kernel_rfl) rfl
    (fun f fn hf hfn => by
      obtain rfl : f = 4 := Option.some.inj ((show Tryd.prog.funcNamed Rows.resolvLimitsRow.func = some 4 by kernel_rfl).symm.trans hf) |>.symm
      obtain rfl : fn = Tryd.f4 := (Option.some.inj (Tryd.func4.symm.trans hfn)).symm
      exact ⟨by kernel_rfl, fun j t ht => by rw [Tryd.params4] at ht; simp at ht⟩)
    (by kernel_rfl)
end Go.Proofs.YtlkjmeobpbpgbaaDoor.resolvLimits
namespace Go.Proofs.YtlkjmeobpbpgbaaDoor
theorem resolvLimits_holds : Rows.ResolvLimitsCardSaid := resolvLimits.card
end Go.Proofs.YtlkjmeobpbpgbaaDoor
