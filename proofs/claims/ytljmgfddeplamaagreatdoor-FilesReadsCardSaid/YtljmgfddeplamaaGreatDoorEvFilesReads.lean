/- FilesReads answers true: from loop's head to loop's head by an evaluator that was proved sound. -/
import Derived.Test.YtljmgfddeplamaaGreatDoorEvFilesReadsH
import Derived.Test.YtljmgfddeplamaaGreatDoorEvFilesReadsO
import Derived.Test.YtljmgfddeplamaaGreatDoorRows
import Derived.WalkKit
import Derived.ProofKit
import Derived.OpenShut
import Derived.ChangeOld
import Derived.Below
import Derived.SizedLaws
import Derived.KernelRfl
import Derived.Lay
import Derived.LaidHandle
import Derived.Stop.Joined
import Derived.Test.YtljmgfddeplamaaGreatDoorTie
import Derived.Test.YtljmgfddeplamaaGreatDoorCards
import Derived.SevenTiedAt
namespace Go.Proofs.YtljmgfddeplamaaGreatDoor.filesReads
open Go.ChangeShapes Go.WideShapes Go.ChangeAt Go.RowKit Go.YtljmgfddeplamaaGreatDoorEv
set_option linter.unusedVariables false
set_option maxRecDepth 100000
theorem calls0 (a0 a1 : Int) (W : World) : Calls Tryz.prog 3 #[.int .i64 a0, .int .i64 a1] W (Fin0 W) := by
  letI : Lane := ⟨0⟩
  rcases a0 with n | n
  · by_cases h0 : n = 0
    · subst h0; exact out (x1 a1) (.cons (.int ..) (.cons (.int ..) .nil)) W
    by_cases h1 : 20 < n
    · obtain ⟨n, rfl⟩ := Nat.exists_eq_add_of_le' h1
      exact out (x2 n a1) (.cons (.int ..) (.cons (.int ..) .nil)) W
    rcases a1 with k | k
    · by_cases k0 : k = 0
      · subst k0; exact out x4 (.cons (rg rfl (by omega) (by omega)) (.cons (.int ..) .nil)) W
      by_cases k1 : 20 < k
      · obtain ⟨k, rfl⟩ := Nat.exists_eq_add_of_le' k1
        exact out (x5 k) (.cons (rg rfl (by omega) (by omega)) (.cons (.int ..) .nil)) W
      obtain ⟨n, rfl⟩ := Nat.exists_eq_succ_of_ne_zero h0
      obtain ⟨k, rfl⟩ := Nat.exists_eq_succ_of_ne_zero k0
      exact callsIn n k (by omega) (by omega) W
    · exact out (x3 k) (.cons (rg rfl (by omega) (by omega)) (.cons (.int ..) .nil)) W
  · exact out (x0 n a1) (.cons (.int ..) (.cons (.int ..) .nil)) W
theorem own : ownKnob Tryz.prog.godebug = none := by kernel_rfl
theorem calls (a0 : Int) (a1 : Int) (W : World) : Calls Tryz.prog 3 #[.int .i64 a0, .int .i64 a1] W fun e W' => e = .returned (.bool true) ∧ Below W.heap.size W W' :=
  (calls0 a0 a1 W).mono fun e W' ⟨h0, h1, h2, h3, h4, h5⟩ => ⟨h0, h1, h2, h3, h4, h5⟩
def laid : List (String × DataW Unit) := [("math/bits.deBruijn32tab", Rows.laid_math_bits_deBruijn32tab), ("math/bits.deBruijn64tab", Rows.laid_math_bits_deBruijn64tab), ("internal/strconv.uint64pow10", Rows.laid_internal_strconv_uint64pow10), ("unicode/utf8.acceptRanges", Rows.laid_unicode_utf8_acceptRanges), ("strconv.ErrRange", Rows.laid_strconv_ErrRange), ("strconv.ErrSyntax", Rows.laid_strconv_ErrSyntax), ("unicode/utf8.first", Rows.laid_unicode_utf8_first)]
theorem lifted (os : Os) (started : os.Started) (H : Type) (enc : TypeId × Value → H) :
    ReturnsInHanded {} Tryz.checked os 3 .any (fun w args => (Rows.filesReadsSpec.pre enc Tryz.prog Tryz.f3 [] false w args ∧ laidMetH Tryz.prog laid w) ∧ sizedMet enc Tryz.prog Tryz.f3 (OpenSpec.ofChange Rows.filesReadsSpec) false w args)
      (Rows.filesReadsSpec.post enc Tryz.prog Tryz.f3 false true false false) := by
  refine returnsInHanded_of_change_and (C := Tryz.checked) (X := fun w _ => laidMetH Tryz.prog laid w) (fun _ _ _ hh h => h.of_heap hh) own started (by kernel_rfl) Tryz.func3
    (ChangeSpec.witness_shaped (enc := enc) (C := Tryz.checked) (os := os) (X := fun w _ => laidMetH Tryz.prog laid w) false (World.laidAll Tryz.prog os laid) #[.int .i64 0, .int .i64 0] 8 (World.laidAll_os _ _ _)
      (World.shaped_of_ZipB (by kernel_rfl) (by kernel_rfl)) (by kernel_rfl) (by kernel_rfl) (by kernel_rfl)
      (by rw [MakeChecks.laidMetH_plain _ _ _ (by kernel_rfl)]; exact laidMet_laidAll _ (by kernel_rfl) (by kernel_rfl))) ?_
  intro W base args ds gs before hval0 hW _ _ _ _
  have hval : ∀ (j : Nat) t v, Tryz.f3.params[j]? = some t → args[j]? = some v → Value.okWide Tryz.prog W .any base t v := hval0
  have hW' := hW
  obtain ⟨p, q, hA0, hV, rfl, hfz, hnd⟩ := hW
  have hA : DataW.TrodAll enc Tryz.prog W 0 (fun _ => true) true Tryz.f3.params.toList args.toList ds p := hA0
  rw [Tryz.params3] at hA hval
  obtain ⟨v0, vs0, d0, ds0, p0, q0, hargs, rfl, rfl, h0, r0⟩ := trodAll_cons hA
  obtain ⟨v1, vs1, d1, ds1, p1, q1, rfl, rfl, rfl, h1, r1⟩ := trodAll_cons r0
  obtain ⟨rfl, rfl, rfl⟩ := trodAll_nil r1
  obtain rfl : args = #[v0, v1] := by cases args; simp_all
  obtain ⟨rfl, rfl⟩ := trodVars_none hV
  obtain ⟨a0, rfl, rfl, rfl, w0⟩ := open_int Tryz.underlying3 (hval 0 3 v0 rfl rfl) h0
  obtain ⟨a1, rfl, rfl, rfl, w1⟩ := open_int Tryz.underlying3 (hval 1 3 v1 rfl rfl) h1
  refine (calls a0 a1 W).mono fun e W' ⟨he, bel⟩ => ?_
  subst he
  exact ⟨_, rfl, _, _, _, [], _, [], hW', trodAll_mk1 (shut_bool Tryz.underlying4 _), (trodAll_cons_mk (shut_int Tryz.underlying3 w0) (trodAll_cons_mk (shut_int Tryz.underlying3 w1) trodAll_mk0)), rfl, bel.frame _, fun h => by cases h⟩
theorem over : Rows.filesReadsRow.holds Tryz.pinned (OpenSpec.ofChange Rows.filesReadsSpec) :=
  OpenClaim.holds_of_wide 3 Tryz.f3 rfl rfl rfl rfl rfl rfl rfl ⟨rfl, rfl, rfl, rfl, rfl⟩ rfl rfl rfl rfl rfl (by kernel_rfl) Tryz.func3 (by kernel_rfl)
    (of_decide_eq_true (by kernel_rfl)) (by unfold Func.isWrapper; first | (rw [if_pos (by decide +kernel)]; kernel_rfl) | (rw [if_neg (by decide +kernel)]; exact ⟨rfl, rfl⟩))
    (fun os started H enc _ => lifted os started H enc)
theorem card : Rows.FilesReadsCardSaid :=
  Claim7.holds_tied_plain_at .later [] [.data, .data, .data, .data, .sentinel, .sentinel, .pinned] true (true, "1d4fa9eb564bd6899d02534871185f4da3a2e73d451d8c91894bff1e59f49fe6") true
    over (fun _ h => by cases h) (by kernel_rfl) (fun _ h => by cases h) filesReads_row_tie rfl ⟨rfl, rfl⟩ (by kernel_rfl) rfl
    (fun f fn hf hfn => by
      obtain rfl : f = 3 := Option.some.inj ((show Tryz.prog.funcNamed Rows.filesReadsRow.func = some 3 from (by kernel_rfl)).symm.trans hf) |>.symm
      obtain rfl : fn = Tryz.f3 := (Option.some.inj (Tryz.func3.symm.trans hfn)).symm
      exact ⟨(by kernel_rfl), fun j t ht => by
        rw [Tryz.params3] at ht
        rcases j with _ | (_ | j)
        · obtain rfl : t = 3 := by simpa using ht.symm
          kernel_rfl
        · obtain rfl : t = 3 := by simpa using ht.symm
          kernel_rfl
        · simp at ht⟩)
    (by kernel_rfl)
end Go.Proofs.YtljmgfddeplamaaGreatDoor.filesReads
namespace Go.Proofs.YtljmgfddeplamaaGreatDoor
theorem filesReads_holds : Rows.FilesReadsCardSaid := filesReads.card
end Go.Proofs.YtljmgfddeplamaaGreatDoor
