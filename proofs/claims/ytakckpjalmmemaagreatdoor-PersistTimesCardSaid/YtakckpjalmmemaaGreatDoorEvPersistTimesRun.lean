/- PersistTimes: the evaluator's run. -/
import Derived.Test.YtakckpjalmmemaaGreatDoorEvPersistTimesFrT
import Derived.Test.YtakckpjalmmemaaGreatDoorEv20
import Derived.Test.YtakckpjalmmemaaGreatDoorEvBegun
import Derived.Test.YtakckpjalmmemaaGreatDoorEvSum
import Derived.Test.YtakckpjalmmemaaGreatDoorRows
import Derived.KernelRfl
namespace Go.Proofs.YtakckpjalmmemaaGreatDoor.persistTimes
open Go.YtakckpjalmmemaaGreatDoorEv
set_option maxRecDepth 100000
def isTrue : Res → Bool
  | .done (.bool true) _ => true
  | _ => false
theorem isTrue_done {r : Res} (h : isTrue r = true) : ∃ σ, r = .done (.bool true) σ := by
  unfold isTrue at h
  split at h
  · exact ⟨_, rfl⟩
  · cases h
noncomputable def tst (ar : List SV) : Bool := isTrue (runQ Tryz.prog ((orcTreeF trF).or ((orcSum 38).or (orcTrue 4))) 1000000 (.call 3 ar) ⟨.nil, []⟩ ⟨Tryz.prog.globals.size, .nil, none⟩)
noncomputable def tsts : List (List SV) → Bool
  | [] => true
  | a :: l => tst a && tsts l
theorem tsts_cons {a : List SV} {l : List (List SV)} (h : tsts (a :: l) = true) : tst a = true ∧ tsts l = true := by
  unfold tsts at h
  exact Bool.and_eq_true_iff.1 h
set_option linter.unusedVariables false
/-- From 1 to what is left of L. -/
noncomputable def rngE (L : Nat) : Nat → Nat → List (Int × Int)
  | 0, _ => []
  | n + 1, w => (.ofNat 1, .ofNat (Nat.sub L w)) :: rngE L n (w + 1)
noncomputable def rngF (L : Nat) : Nat → Nat → List (Int × Int)
  | 0, _ => []
  | n + 1, w => (.ofNat (Nat.sub L w), .ofNat 100) :: rngF L n (w + 1)
theorem rngE_get {L : Nat} : ∀ {n w i : Nat}, i < n → (rngE L n w)[i]? = some (.ofNat 1, .ofNat (L - (w + i)))
  | 0, _, _, h => by omega
  | n + 1, w, 0, _ => rfl
  | n + 1, w, i + 1, h => by
    show (rngE L n (w + 1))[i]? = _
    rw [rngE_get (by omega), show w + 1 + i = w + (i + 1) by omega]
theorem rngF_get {L : Nat} : ∀ {n w i : Nat}, i < n → (rngF L n w)[i]? = some (.ofNat (L - (w + i)), .ofNat 100)
  | 0, _, _, h => by omega
  | n + 1, w, 0, _ => rfl
  | n + 1, w, i + 1, h => by
    show (rngF L n (w + 1))[i]? = _
    rw [rngF_get (by omega), show w + 1 + i = w + (i + 1) by omega]
def Ok (a0 a1 a2 : Int) : Prop := ∃ (Ln : Lane) (l : List SV), @VRs Ln (fun _ => none) l (#[.int .i64 a0, .int .i64 a1, .int .i64 a2] : Array Value).toList ∧ tst l = true
theorem leaf0 {l : List SV} {a0 a1 a2 : Int} (h : ∀ [Lane], VRs (fun _ => none) l [.int .i64 a0, .int .i64 a1, .int .i64 a2]) (s : tst l = true) : Ok a0 a1 a2 := by
  letI : Lane := ⟨0⟩
  exact ⟨⟨0⟩, _, h, s⟩
theorem rg {lo hi n : Nat} (h1 : lo ≤ n) (h2 : n ≤ hi) : @VR ⟨0⟩ (fun _ => none) (.rng [(.ofNat lo, .ofNat hi)]) (.int .i64 (.ofNat n)) :=
  @VR.rng ⟨0⟩ _ _ (.ofNat lo) (.ofNat hi) _ rfl (Int.ofNat_le.2 h1) (Int.ofNat_le.2 h2)
/-- All that is known is between which numbers they lie. -/
theorem leafR {l : List SV} {a0 a1 a2 : Int} (h : @VRs ⟨0⟩ (fun _ => none) l [.int .i64 a0, .int .i64 a1, .int .i64 a2]) (s : tst l = true) : Ok a0 a1 a2 := ⟨⟨0⟩, _, h, s⟩
theorem leafE {L w m : Nat} (h1 : 0 < w) (h2 : 0 < m) (h3 : w + m < L) (s : tst [.int .i64 (.ofNat L), .lan (lanT (L - 2) 1), .rng (rngE (L - 1) (L - 2) 1)] = true) : Ok (.ofNat L) (.ofNat w) (.ofNat m) := by
  letI : Lane := ⟨w - 1⟩
  refine ⟨⟨w - 1⟩, _, .cons (.int ..) (.cons (.lanI (by show (lanT _ 1)[w - 1]? = _; rw [lanT_get (by omega)]; congr 3; omega)) (.cons (.rng (by show (rngE _ _ 1)[w - 1]? = _; exact rngE_get (by omega)) (Int.ofNat_le.2 h2) (Int.ofNat_le.2 (by omega))) .nil)), s⟩
theorem leafF {L w m : Nat} (h1 : 0 < w) (h2 : w < L) (h3 : L ≤ w + m) (h4 : m < 101) (s : tst [.int .i64 (.ofNat L), .lan (lanT (L - 1) 1), .rng (rngF L (L - 1) 1)] = true) : Ok (.ofNat L) (.ofNat w) (.ofNat m) := by
  letI : Lane := ⟨w - 1⟩
  refine ⟨⟨w - 1⟩, _, .cons (.int ..) (.cons (.lanI (by show (lanT _ 1)[w - 1]? = _; rw [lanT_get (by omega)]; congr 3; omega)) (.cons (.rng (by show (rngF _ _ 1)[w - 1]? = _; exact rngF_get (by omega)) (Int.ofNat_le.2 (by omega)) (Int.ofNat_le.2 (by omega))) .nil)), s⟩
end Go.Proofs.YtakckpjalmmemaaGreatDoor.persistTimes
