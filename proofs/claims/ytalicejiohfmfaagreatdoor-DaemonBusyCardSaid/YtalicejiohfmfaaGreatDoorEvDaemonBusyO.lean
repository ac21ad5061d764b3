/- DaemonBusy: what is out of its bounds. -/
import Derived.Test.YtalicejiohfmfaaGreatDoorEvDaemonBusyS0
import Derived.Test.YtalicejiohfmfaaGreatDoorEvDaemonBusyS1
import Derived.Test.YtalicejiohfmfaaGreatDoorEvDaemonBusyS2
import Derived.Test.YtalicejiohfmfaaGreatDoorEvDaemonBusyS3
import Derived.Test.YtalicejiohfmfaaGreatDoorEvDaemonBusyS4
import Derived.Test.YtalicejiohfmfaaGreatDoorEvDaemonBusyS5
import Derived.Test.YtalicejiohfmfaaGreatDoorEvDaemonBusyS6
import Derived.Test.YtalicejiohfmfaaGreatDoorEvDaemonBusyS7
import Derived.Test.YtalicejiohfmfaaGreatDoorEvDaemonBusyS8
import Derived.Test.YtalicejiohfmfaaGreatDoorEvDaemonBusyS9
import Derived.KernelRfl
namespace Go.Proofs.YtalicejiohfmfaaGreatDoor.daemonBusy
open Go Go.RowKit Go.YtalicejiohfmfaaGreatDoorEv
set_option linter.unusedVariables false
set_option linter.unusedSectionVars false
set_option maxRecDepth 100000
noncomputable def tst (W : World) (ar : List SV) : Bool := okT (ih (.call 3 ar) ⟨.nil, []⟩ ⟨Tryz.prog.globals.size, .nil, some (W, gl)⟩)
theorem x0 (W : World) (n : Nat) (a1 : Int) : tst W [.int .i64 (.negSucc n), .int .i64 a1] = true := by kernel_rfl
theorem x1 (W : World) (a1 : Int) : tst W [.int .i64 (.ofNat 0), .int .i64 a1] = true := by kernel_rfl
theorem x2 (W : World) (n : Nat) (a1 : Int) : tst W [.int .i64 (.ofNat (n + 21)), .int .i64 a1] = true := by kernel_rfl
theorem x3 (W : World) (n : Nat) : tst W [.rng [(.ofNat 1, .ofNat 20)], .int .i64 (.negSucc n)] = true := by kernel_rfl
theorem x4 (W : World) (n : Nat) : tst W [.rng [(.ofNat 1, .ofNat 20)], .int .i64 (.ofNat (n + 10))] = true := by kernel_rfl
theorem rg [Lane] (hx : Lane.x = 0) {n : Nat} (h1 : 1 ≤ n) (h2 : n ≤ 20) : VR (fun _ => none) (.rng [(.ofNat 1, .ofNat 20)]) (.int .i64 (.ofNat n)) :=
  .rng (lo := .ofNat 1) (hi := .ofNat 20) (by rw [hx]; rfl) (Int.ofNat_le.2 h1) (Int.ofNat_le.2 h2)
theorem calls0 (a0 a1 : Int) (W : World) (hw : ∀ [Lane], WR Tryz.prog (fun _ => none) ⟨Tryz.prog.globals.size, .nil, some (W, gl)⟩ W) : Calls Tryz.prog 3 #[.int .i64 a0, .int .i64 a1] W (Fin0 W) := by
  letI : Lane := ⟨0⟩
  rcases a0 with n | n
  · by_cases h0 : n = 0
    · subst h0; exact whole snd (.cons (.int ..) (.cons (.int ..) .nil)) hw (x1 W a1)
    by_cases h1 : 20 < n
    · obtain ⟨n, rfl⟩ := Nat.exists_eq_add_of_le' h1
      exact whole snd (.cons (.int ..) (.cons (.int ..) .nil)) hw (x2 W n a1)
    rcases a1 with k | k
    · by_cases k1 : 9 < k
      · obtain ⟨k, rfl⟩ := Nat.exists_eq_add_of_le' k1
        exact whole snd (.cons (rg rfl (by omega) (by omega)) (.cons (.int ..) .nil)) hw (x4 W k)
      obtain ⟨n, rfl⟩ := Nat.exists_eq_succ_of_ne_zero h0
      have hn : n < 20 := by omega
      match k, k1 with
      | 0, _ => exact c0 n hn W hw
      | 1, _ => exact c1 n hn W hw
      | 2, _ => exact c2 n hn W hw
      | 3, _ => exact c3 n hn W hw
      | 4, _ => exact c4 n hn W hw
      | 5, _ => exact c5 n hn W hw
      | 6, _ => exact c6 n hn W hw
      | 7, _ => exact c7 n hn W hw
      | 8, _ => exact c8 n hn W hw
      | 9, _ => exact c9 n hn W hw
      | k + 10, k1 => exact absurd (by omega) k1
    · exact whole snd (.cons (rg rfl (by omega) (by omega)) (.cons (.int ..) .nil)) hw (x3 W k)
  · exact whole snd (.cons (.int ..) (.cons (.int ..) .nil)) hw (x0 W n a1)
end Go.Proofs.YtalicejiohfmfaaGreatDoor.daemonBusy
