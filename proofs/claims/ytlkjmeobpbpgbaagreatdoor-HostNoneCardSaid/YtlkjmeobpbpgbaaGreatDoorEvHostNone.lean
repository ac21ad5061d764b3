/- HostNone answers true (a closed law): its run by an evaluator that was proved sound. -/
import Derived.Test.YtlkjmeobpbpgbaaGreatDoorEvHostNoneRun
import Derived.Test.YtlkjmeobpbpgbaaGreatDoorRows
import Derived.WalkKit
import Derived.ProofKit
import Derived.OpenShut
import Derived.ChangeOld
import Derived.Below
import Derived.SizedLaws
import Derived.KernelRfl
import Derived.Lay
import Derived.LaidHandle
import Derived.Stop.Joined
import Derived.Test.YtlkjmeobpbpgbaaGreatDoorTie
import Derived.Test.YtlkjmeobpbpgbaaGreatDoorCards
import Derived.SevenTiedAt
namespace Go.Proofs.YtlkjmeobpbpgbaaGreatDoor.hostNone
open Go.ChangeShapes Go.WideShapes Go.ChangeAt Go.RowKit Go.YtlkjmeobpbpgbaaGreatDoorEv
set_option linter.unusedVariables false
set_option maxRecDepth 100000
theorem own : ownKnob Tryz.prog.godebug = none := by kernel_rfl
def laid : List (String × DataW Unit) := [("math/bits.deBruijn32tab", Rows.laid_math_bits_deBruijn32tab), ("math/bits.deBruijn64tab", Rows.laid_math_bits_deBruijn64tab), ("internal/strconv.uint64pow10", Rows.laid_internal_strconv_uint64pow10), ("unicode/utf8.acceptRanges", Rows.laid_unicode_utf8_acceptRanges), ("strconv.ErrRange", Rows.laid_strconv_ErrRange), ("strconv.ErrSyntax", Rows.laid_strconv_ErrSyntax), ("unicode/utf8.first", Rows.laid_unicode_utf8_first)]
theorem calls (W : World) (hsh : W.ShapedOpen Tryz.prog) (hl : laidMet Tryz.prog laid W) : Calls Tryz.prog 3 #[] W fun e W' => e = .returned (.bool true) ∧ Below W.heap.size W W' := by
  obtain ⟨σ, hσ⟩ := isTrue_done (runs W)
  have he : ∀ g ∈ [1, 2], ∃ te pe, W.cell? ⟨g, 0, none⟩ = some (.iface te pe) := by
    intro g hg
    simp only [List.mem_cons, List.mem_nil_iff, or_false] at hg
    rcases hg with rfl | rfl
    · exact evOrc.errSyntax hl.tail.tail.tail.tail.tail
    · exact evOrc.errRange hl.tail.tail.tail.tail
  have hw : WR Tryz.prog (fun _ => none) ⟨Tryz.prog.globals.size, .nil, some (W, [1, 2])⟩ W :=
    ⟨fun _ _ h => (by cases h), fun _ _ h => (by cases h), fun _ _ _ _ h => (by cases h), fun i hi => absurd (Tr.get_nil i) hi, fun _ _ _ h => (by cases h), Nat.le_refl _,
      fun W0 L h => (by cases h; exact ⟨⟨hsh, he⟩, Nat.le_refl _, fun _ _ h => (by cases h), fun _ _ => rfl⟩)⟩
  refine ((runQ_sound (extOk _) (by kernel_rfl) evOrc.orcOk 1000000).call 3 [] _ _ _ _ hσ _ #[] W .nil hw).mono fun e W' he => ?_
  obtain ⟨m', v', rfl, hv, hp⟩ := he
  cases hv
  exact ⟨rfl, hp.kp.os, hp.kp.tape, hp.kp.output, hp.kp.size, fun k hk => hp.kp.block k hk fun i im h => by cases h⟩
theorem lifted (os : Os) (started : os.Started) (H : Type) (enc : TypeId × Value → H) :
    ReturnsInHanded {} Tryz.checked os 3 .any (fun w args => (Rows.hostNoneSpec.pre enc Tryz.prog Tryz.f3 [] false w args ∧ laidMetH Tryz.prog laid w) ∧ sizedMet enc Tryz.prog Tryz.f3 (OpenSpec.ofChange Rows.hostNoneSpec) false w args)
      (Rows.hostNoneSpec.post enc Tryz.prog Tryz.f3 false true false false) := by
  refine returnsInHanded_of_calls (C := Tryz.checked) own started (by kernel_rfl)
    (ChangeSpec.witness_shaped (enc := enc) (C := Tryz.checked) (os := os) (X := fun w _ => laidMetH Tryz.prog laid w) false (World.laidAll Tryz.prog os laid) #[] 8 (World.laidAll_os _ _ _)
      (World.shaped_of_ZipB (by kernel_rfl) (by kernel_rfl)) (by kernel_rfl) (by kernel_rfl) (by kernel_rfl)
      (by rw [MakeChecks.laidMetH_plain _ _ _ (by kernel_rfl)]; exact laidMet_laidAll _ (by kernel_rfl) (by kernel_rfl))) ?_
  intro w tape i _ hsh _ _ hpre _
  obtain ⟨⟨⟨ds, gs, before, hw0, _⟩, hx⟩, _⟩ := hpre
  have hW := DataW.Whole.of_heap (w' := w.forCall tape i) (by rfl) hw0
  have hX : laidMetH Tryz.prog laid (w.forCall tape i) := hx.of_heap (show (w.forCall tape i).memory.heap = (w.forCall tape i).heap from rfl)
  rw [MakeChecks.laidMetH_plain _ _ _ (by kernel_rfl)] at hX
  generalize w.forCall tape i = W at *
  generalize i.args = args at *
  have hW' := hW
  obtain ⟨p, q, hA0, hV, rfl, hfz, hnd⟩ := hW
  have hA : DataW.TrodAll enc Tryz.prog W 0 (fun _ => true) true Tryz.f3.params.toList args.toList ds p := hA0
  rw [Tryz.params3] at hA
  obtain ⟨hargs, rfl, rfl⟩ := trodAll_nil hA
  obtain rfl : args = #[] := by apply Array.ext'; simpa using hargs
  obtain ⟨rfl, rfl⟩ := trodVars_none hV
  refine (calls W hsh hX).mono fun e W' ⟨he, bel⟩ => ?_
  subst he
  exact ChangeSpec.post_blind ⟨_, _, _, [], _, [], hW', trodAll_mk1 (shut_bool Tryz.underlying4 _), trodAll_mk0, rfl, bel.frame _, fun h => by cases h⟩
theorem over : Rows.hostNoneRow.holds Tryz.pinned (OpenSpec.ofChange Rows.hostNoneSpec) :=
  OpenClaim.holds_of_wide 3 Tryz.f3 rfl rfl rfl rfl rfl rfl rfl ⟨rfl, rfl, rfl, rfl, rfl⟩ rfl rfl rfl rfl rfl (by kernel_rfl) Tryz.func3 (by kernel_rfl)
    (of_decide_eq_true (by kernel_rfl)) (by unfold Func.isWrapper; first | (rw [if_pos (by decide +kernel)]; kernel_rfl) | (rw [if_neg (by decide +kernel)]; exact ⟨rfl, rfl⟩))
    (fun os started H enc _ => lifted os started H enc)
theorem card : Rows.HostNoneCardSaid :=
  Claim7.holds_tied_plain_at .later [] [.data, .data, .data, .data, .sentinel, .sentinel, .pinned] true (true, "c826b49fb77c6634f0f51e2b61c97a77aeadf3c8d2c5b8ef39a532bf8bc2151e") true
    over (fun _ h => by cases h) (by kernel_rfl) (fun _ h => by cases h) hostNone_row_tie rfl ⟨rfl, rfl⟩ (by kernel_rfl) rfl
    (fun f fn hf hfn => by
      obtain rfl : f = 3 := Option.some.inj ((show Tryz.prog.funcNamed Rows.hostNoneRow.func = some 3 by kernel_rfl).symm.trans hf) |>.symm
      obtain rfl : fn = Tryz.f3 := (Option.some.inj (Tryz.func3.symm.trans hfn)).symm
      exact ⟨by kernel_rfl, fun j t ht => by rw [Tryz.params3] at ht; simp at ht⟩)
    (by kernel_rfl)
end Go.Proofs.YtlkjmeobpbpgbaaGreatDoor.hostNone
namespace Go.Proofs.YtlkjmeobpbpgbaaGreatDoor
theorem hostNone_holds : Rows.HostNoneCardSaid := hostNone.card
end Go.Proofs.YtlkjmeobpbpgbaaGreatDoor
