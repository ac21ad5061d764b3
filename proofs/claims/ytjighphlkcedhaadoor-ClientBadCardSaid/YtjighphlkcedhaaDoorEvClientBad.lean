/- ClientBad answers true: its runs by an evaluator that was proved sound. -/
import Derived.Test.YtjighphlkcedhaaDoorEvClientBadRun0
import Derived.Test.YtjighphlkcedhaaDoorEvClientBadRun1
import Derived.Test.YtjighphlkcedhaaDoorEvClientBadRun2
import Derived.Deep.Slices
import Derived.Test.YtjighphlkcedhaaDoorRows
import Derived.WalkKit
import Derived.ProofKit
import Derived.OpenShut
import Derived.ChangeOld
import Derived.Below
import Derived.SizedLaws
import Derived.KernelRfl
import Derived.Lay
import Derived.LaidHandle
import Derived.Stop.Joined
import Derived.Test.YtjighphlkcedhaaDoorTie
import Derived.Test.YtjighphlkcedhaaDoorCards
import Derived.SevenTiedAt
namespace Go.Proofs.YtjighphlkcedhaaDoor.clientBad
open Go.ChangeShapes Go.WideShapes Go.ChangeAt Go.RowKit Go.YtjighphlkcedhaaDoorEv
set_option linter.unusedVariables false
set_option maxRecDepth 100000
theorem all : ∀ n, n ≤ 50 → ∀ (c ty : Nat) (x : Nat → Int), tst n n c ty x = true
  | 0, _ => t0
  | 1, _ => t1
  | 2, _ => t2
  | 3, _ => t3
  | 4, _ => t4
  | 5, _ => t5
  | 6, _ => t6
  | 7, _ => t7
  | 8, _ => t8
  | 9, _ => t9
  | 10, _ => t10
  | 11, _ => t11
  | 12, _ => t12
  | 13, _ => t13
  | 14, _ => t14
  | 15, _ => t15
  | 16, _ => t16
  | 17, _ => t17
  | 18, _ => t18
  | 19, _ => t19
  | 20, _ => t20
  | 21, _ => t21
  | 22, _ => t22
  | 23, _ => t23
  | 24, _ => t24
  | 25, _ => t25
  | 26, _ => t26
  | 27, _ => t27
  | 28, _ => t28
  | 29, _ => t29
  | 30, _ => t30
  | 31, _ => t31
  | 32, _ => t32
  | 33, _ => t33
  | 34, _ => t34
  | 35, _ => t35
  | 36, _ => t36
  | 37, _ => t37
  | 38, _ => t38
  | 39, _ => t39
  | 40, _ => t40
  | 41, _ => t41
  | 42, _ => t42
  | 43, _ => t43
  | 44, _ => t44
  | 45, _ => t45
  | 46, _ => t46
  | 47, _ => t47
  | 48, _ => t48
  | 49, _ => t49
  | 50, _ => t50
  | n + 51, h => absurd h (by omega)
theorem laidOut : laidOutB Tryd.prog = true := by kernel_rfl
theorem own : ownKnob Tryd.prog.godebug = none := by kernel_rfl
theorem calls (v : Value) (W : World) (hv : BArg W v) : Calls Tryd.prog 3 #[v] W fun e W' => e = .returned (.bool true) ∧ Below W.heap.size W W' := by
  letI : Lane := ⟨0⟩
  rcases hv with rfl | ⟨a, len, cap, ty, tot, x, rfl, hl, hs, hsh, hr⟩
  · obtain ⟨σ, hσ⟩ := isTrue_done tn
    refine ((runQ_sound (extOk _) (by kernel_rfl) evBegun.ok 1000000).call 3 _ _ _ _ _ hσ _ #[.slice none 0 0] W (.cons .nilSlice .nil) (WR.start _ W)).mono fun e W' he => ?_
    obtain ⟨m', v', rfl, hv, hp⟩ := he
    cases hv
    exact ⟨rfl, hp.kp.os, hp.kp.tape, hp.kp.output, hp.kp.size, fun k hk => hp.kp.block k hk fun i im h _ => by cases h⟩
  · have hrow : ∀ i, i < cap → a.off + i < tot := fun i hi => by
      have h := hr i hi
      unfold World.shape? at hsh
      split at hsh
      · rename_i c e f ho
        simp only [Option.some.injEq, Prod.mk.injEq] at hsh
        obtain ⟨_, rfl⟩ := hsh
        simp only [World.cell?, ho] at h
        exact (Array.getElem?_eq_some_iff.1 h).1
      · cases hsh
    obtain ⟨n, c, hn, hrun, hc, e2⟩ : ∃ n c, n ≤ len ∧ tst n len c ty x = true ∧ len ≤ c ∧ c = cap := by
      by_cases h : len ≤ 50
      · exact ⟨len, cap, Nat.le_refl _, all len h cap ty x, hl, rfl⟩
      · obtain ⟨k, rfl⟩ := Nat.exists_eq_add_of_le' (show 51 ≤ len by omega)
        obtain ⟨d, rfl⟩ := Nat.exists_eq_add_of_le' hl
        exact ⟨50, _, by omega, tl k d ty x, Nat.le_add_left .., rfl⟩
    subst e2
    have go : ∀ base : Nat, (c ≠ 0 → a.off = base + 0) → base + n ≤ tot → (∀ i, i < n → W.cell? ⟨a.block, base + i, none⟩ = some (.int .u8 (x i))) → Calls Tryd.prog 3 #[.slice (some a) len c] W fun e W' => e = .returned (.bool true) ∧ Below W.heap.size W W' := by
      intro base hb h1 h2
      obtain ⟨σ, hσ⟩ := isTrue_done hrun
      refine ((runQ_sound (extOk _) (by kernel_rfl) evBegun.ok 1000000).call 3 _ _ _ _ _ hσ _ #[.slice (some a) len c] W (.cons (.sliceEx (upd_same ..) rfl hs hb hc) .nil) (byteMem_wr hsh h2 h1)).mono fun e W' he => ?_
      obtain ⟨m', v', rfl, hv, hp⟩ := he
      cases hv
      exact ⟨rfl, hp.kp.os, hp.kp.tape, hp.kp.output, hp.kp.size, fun k hk => hp.kp.block k hk byteMem_keeps⟩
    by_cases h0 : c = 0
    · exact go 0 (fun h => absurd h0 h) (by omega) fun i hi => absurd hi (by omega)
    · refine go a.off (fun _ => rfl) ?_ fun i hi => hr i (by omega)
      have := hrow 0 (by omega)
      by_cases hn0 : n = 0
      · omega
      · have := hrow (n - 1) (by omega); omega
def laid : List (String × DataW Unit) := [("unicode/utf8.acceptRanges", Rows.laid_unicode_utf8_acceptRanges), ("unicode/utf8.first", Rows.laid_unicode_utf8_first)]
theorem lifted (os : Os) (started : os.Started) (H : Type) (enc : TypeId × Value → H) :
    ReturnsInHanded {} Tryd.checked os 3 .any (fun w args => (Rows.clientBadSpec.pre enc Tryd.prog Tryd.f3 [] false w args ∧ laidMetH Tryd.prog laid w) ∧ sizedMet enc Tryd.prog Tryd.f3 (OpenSpec.ofChange Rows.clientBadSpec) false w args)
      (Rows.clientBadSpec.post enc Tryd.prog Tryd.f3 false true false false) := by
  refine returnsInHanded_of_change_and (C := Tryd.checked) (X := fun w _ => laidMetH Tryd.prog laid w) (fun _ _ _ hh h => h.of_heap hh) own started (by kernel_rfl) Tryd.func3
    (ChangeSpec.witness_shaped (enc := enc) (C := Tryd.checked) (os := os) (X := fun w _ => laidMetH Tryd.prog laid w) false (World.laidAll Tryd.prog os laid) #[.slice none 0 0] 8 (World.laidAll_os _ _ _)
      (World.shaped_of_ZipB (by kernel_rfl) (by kernel_rfl)) (by kernel_rfl) (by kernel_rfl) (by kernel_rfl)
      (by rw [MakeChecks.laidMetH_plain _ _ _ (by kernel_rfl)]; exact laidMet_laidAll _ (by kernel_rfl) (by kernel_rfl))) ?_
  intro W base args ds gs before hval0 hW _ _ _ _
  have hval : ∀ (j : Nat) t v, Tryd.f3.params[j]? = some t → args[j]? = some v → Value.okWide Tryd.prog W .any base t v := hval0
  have hW' := hW
  obtain ⟨p, q, hA0, hV, rfl, hfz, hnd⟩ := hW
  have hA : DataW.TrodAll enc Tryd.prog W 0 (fun _ => true) true Tryd.f3.params.toList args.toList ds p := hA0
  rw [Tryd.params3] at hA hval
  obtain ⟨v0, vs0, d0, ds0, p0, q0, hargs, rfl, rfl, h0, r0⟩ := trodAll_cons hA
  obtain ⟨rfl, rfl, rfl⟩ := trodAll_nil r0
  obtain rfl : args = #[v0] := by cases args; simp_all
  obtain ⟨rfl, rfl⟩ := trodVars_none hV
  obtain ⟨av, len, cap, rfl⟩ := okWide_slice Tryd.underlying22 (hval 0 22 v0 rfl rfl)
  have k0 := h0
  have lt0 : ∀ x ∈ p0, x.block < W.heap.size := by obtain ⟨m, hm⟩ := k0; exact DataW.trod_lt m _ _ _ hm
  have b0 : BArg W (.slice av len cap) := by
    obtain ⟨fuel, hf⟩ := h0
    exact bArg_of Tryd.underlying22 Tryd.underlying5 (by kernel_rfl) hf (hval 0 22 _ rfl rfl)
  refine (calls _ W b0).mono fun e W' ⟨he, bel⟩ => ?_
  subst he
  exact ⟨_, rfl, _, _, _, [], _, [], hW', trodAll_mk1 (shut_bool Tryd.underlying4 _), (trodAll_cons_mk (Below.trod laidOut (by kernel_rfl) (of_decide_eq_true (by kernel_rfl)) k0 bel lt0) trodAll_mk0), rfl, bel.frame _, fun h => by cases h⟩
theorem over : Rows.clientBadRow.holds Tryd.pinned (OpenSpec.ofChange Rows.clientBadSpec) :=
  OpenClaim.holds_of_wide 3 Tryd.f3 rfl rfl rfl rfl rfl rfl rfl ⟨rfl, rfl, rfl, rfl, rfl⟩ rfl rfl rfl rfl rfl (by kernel_rfl) Tryd.func3 (by kernel_rfl)
    (of_decide_eq_true (by kernel_rfl)) (by unfold Func.isWrapper; first | (rw [if_pos (by decide +kernel)]; kernel_rfl) | (rw [if_neg (by decide +kernel)]; exact ⟨rfl, rfl⟩))
    (fun os started H enc _ => lifted os started H enc)
theorem card : Rows.ClientBadCardSaid :=
  Claim7.holds_tied_plain_at .later [] [.data, .pinned] true (true, "265c6de7e0c5489b3bf05039c7d639a33f9fa1e67fa13e5c8057b21536cd54d8") true
    over (fun _ h => by cases h) (by kernel_rfl) (fun _ h => by cases h) clientBad_row_tie rfl ⟨rfl, rfl⟩ (by kernel_rfl) rfl
    (fun f fn hf hfn => by
      obtain rfl : f = 3 := Option.some.inj ((show Tryd.prog.funcNamed Rows.clientBadRow.func = some 3 from (by kernel_rfl)).symm.trans hf) |>.symm
      obtain rfl : fn = Tryd.f3 := (Option.some.inj (Tryd.func3.symm.trans hfn)).symm
      exact ⟨(by kernel_rfl), fun j t ht => by
        rw [Tryd.params3] at ht
        rcases j with _ | j
        · obtain rfl : t = 22 := by simpa using ht.symm
          kernel_rfl
        · simp at ht⟩)
    (by kernel_rfl)
end Go.Proofs.YtjighphlkcedhaaDoor.clientBad
namespace Go.Proofs.YtjighphlkcedhaaDoor
theorem clientBad_holds : Rows.ClientBadCardSaid := clientBad.card
end Go.Proofs.YtjighphlkcedhaaDoor
