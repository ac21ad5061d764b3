/- StubBound: what is out of its bounds. -/
import Derived.Test.YtghdjomjcododaaGreatDoorEvStubBoundS0
import Derived.Test.YtghdjomjcododaaGreatDoorEvStubBoundS1
import Derived.Test.YtghdjomjcododaaGreatDoorEvStubBoundS2
import Derived.Test.YtghdjomjcododaaGreatDoorEvStubBoundS3
import Derived.Test.YtghdjomjcododaaGreatDoorEvStubBoundS4
import Derived.Test.YtghdjomjcododaaGreatDoorEvStubBoundS5
import Derived.Test.YtghdjomjcododaaGreatDoorEvStubBoundS6
import Derived.Test.YtghdjomjcododaaGreatDoorEvStubBoundS7
import Derived.Test.YtghdjomjcododaaGreatDoorEvStubBoundS8
import Derived.Test.YtghdjomjcododaaGreatDoorEvStubBoundS9
import Derived.Test.YtghdjomjcododaaGreatDoorEvStubBoundS10
import Derived.Test.YtghdjomjcododaaGreatDoorEvStubBoundS11
import Derived.Test.YtghdjomjcododaaGreatDoorEvStubBoundS12
import Derived.Test.YtghdjomjcododaaGreatDoorEvStubBoundS13
import Derived.KernelRfl
namespace Go.Proofs.YtghdjomjcododaaGreatDoor.stubBound
open Go Go.RowKit Go.YtghdjomjcododaaGreatDoorEv
set_option linter.unusedVariables false
set_option linter.unusedSectionVars false
set_option maxRecDepth 100000
noncomputable def tst (W : World) (ar : List SV) : Bool := okT (ih (.call 3 ar) ⟨.nil, []⟩ ⟨Tryz.prog.globals.size, .nil, some (W, gl)⟩)
theorem x0 (W : World) (b : Bool) (n : Nat) (a1 a2 : Int) : tst W [.int .i64 (.negSucc n), .int .i64 a1, .int .i64 a2, .bool b] = true := by kernel_rfl
theorem x1 (W : World) (b : Bool) (a1 a2 : Int) : tst W [.int .i64 (.ofNat 0), .int .i64 a1, .int .i64 a2, .bool b] = true := by kernel_rfl
theorem x2 (W : World) (b : Bool) (n : Nat) (a1 a2 : Int) : tst W [.int .i64 (.ofNat (n + 4)), .int .i64 a1, .int .i64 a2, .bool b] = true := by kernel_rfl
theorem x3 (W : World) (b : Bool) (n : Nat) (a2 : Int) : tst W [.rng [(.ofNat 1, .ofNat 3)], .int .i64 (.negSucc n), .int .i64 a2, .bool b] = true := by kernel_rfl
theorem x4 (W : World) (b : Bool) (a2 : Int) : tst W [.rng [(.ofNat 1, .ofNat 3)], .int .i64 (.ofNat 0), .int .i64 a2, .bool b] = true := by kernel_rfl
theorem x5 (W : World) (b : Bool) (n : Nat) (a2 : Int) : tst W [.rng [(.ofNat 1, .ofNat 3)], .int .i64 (.ofNat (n + 6)), .int .i64 a2, .bool b] = true := by kernel_rfl
theorem x6 (W : World) (b : Bool) (n : Nat) : tst W [.rng [(.ofNat 1, .ofNat 3)], .rng [(.ofNat 1, .ofNat 5)], .int .i64 (.negSucc n), .bool b] = true := by kernel_rfl
theorem x7 (W : World) (b : Bool)  : tst W [.rng [(.ofNat 1, .ofNat 3)], .rng [(.ofNat 1, .ofNat 5)], .int .i64 (.ofNat 0), .bool b] = true := by kernel_rfl
theorem x8 (W : World) (b : Bool) (n : Nat) : tst W [.rng [(.ofNat 1, .ofNat 3)], .rng [(.ofNat 1, .ofNat 5)], .int .i64 (.ofNat (n + 10)), .bool b] = true := by kernel_rfl
theorem rg [Lane] (hx : Lane.x = 0) {hi n : Nat} (h1 : 1 ≤ n) (h2 : n ≤ hi) : VR (fun _ => none) (.rng [(.ofNat 1, .ofNat hi)]) (.int .i64 (.ofNat n)) :=
  .rng (lo := .ofNat 1) (hi := .ofNat hi) (by rw [hx]; rfl) (Int.ofNat_le.2 h1) (Int.ofNat_le.2 h2)
theorem calls0 (a0 a1 a2 : Int) (b : Bool) (W : World) (hw : ∀ [Lane], WR Tryz.prog (fun _ => none) ⟨Tryz.prog.globals.size, .nil, some (W, gl)⟩ W) : Calls Tryz.prog 3 #[.int .i64 a0, .int .i64 a1, .int .i64 a2, .bool b] W (Fin0 W) := by
  letI : Lane := ⟨0⟩
  have ww : ∀ {l : List SV} {a0 a1 a2 : Int}, tst W l = true → VRs (fun _ => none) l [.int .i64 a0, .int .i64 a1, .int .i64 a2, .bool b] → Calls Tryz.prog 3 #[.int .i64 a0, .int .i64 a1, .int .i64 a2, .bool b] W (Fin0 W) := fun h hl => whole snd hl hw h
  have bb : VRs (fun _ => none) [.bool b] [.bool b] := .cons (.bool _) .nil
  rcases a0 with s | n
  · by_cases h0 : s = 0
    · subst h0; exact ww (x1 W b a1 a2) (.cons (.int ..) (.cons (.int ..) (.cons (.int ..) bb)))
    by_cases h1 : 3 < s
    · obtain ⟨n, rfl⟩ := Nat.exists_eq_add_of_le' h1
      exact ww (x2 W b n a1 a2) (.cons (.int ..) (.cons (.int ..) (.cons (.int ..) bb)))
    have vs := rg (hi := 3) (n := s) rfl (by omega) (by omega)
    rcases a1 with a | n
    · by_cases k0 : a = 0
      · subst k0; exact ww (x4 W b a2) (.cons vs (.cons (.int ..) (.cons (.int ..) bb)))
      by_cases k1 : 5 < a
      · obtain ⟨n, rfl⟩ := Nat.exists_eq_add_of_le' k1
        exact ww (x5 W b n a2) (.cons vs (.cons (.int ..) (.cons (.int ..) bb)))
      have va := rg (hi := 5) (n := a) rfl (by omega) (by omega)
      rcases a2 with t | n
      · by_cases l0 : t = 0
        · subst l0; exact ww (x7 W b) (.cons vs (.cons va (.cons (.int ..) bb)))
        by_cases l1 : 9 < t
        · obtain ⟨n, rfl⟩ := Nat.exists_eq_add_of_le' l1
          exact ww (x8 W b n) (.cons vs (.cons va (.cons (.int ..) bb)))
        obtain ⟨x, rfl⟩ := Nat.exists_eq_succ_of_ne_zero l0
        have hx : x < 9 := by omega
        have hs : s < 4 := by omega
        have ha : a < 6 := by omega
        match s, a, b, hs, ha with
        | 1, 1, true, _, _ => exact c11t W x hx hw
        | 1, 1, false, _, _ => exact c11f W x hx hw
        | 1, 2, true, _, _ => exact c12t W x hx hw
        | 1, 2, false, _, _ => exact c12f W x hx hw
        | 1, 3, true, _, _ => exact c13t W x hx hw
        | 1, 3, false, _, _ => exact c13f W x hx hw
        | 1, 4, true, _, _ => exact c14t W x hx hw
        | 1, 4, false, _, _ => exact c14f W x hx hw
        | 1, 5, true, _, _ => exact c15t W x hx hw
        | 1, 5, false, _, _ => exact c15f W x hx hw
        | 2, 1, true, _, _ => exact c21t W x hx hw
        | 2, 1, false, _, _ => exact c21f W x hx hw
        | 2, 2, true, _, _ => exact c22t W x hx hw
        | 2, 2, false, _, _ => exact c22f W x hx hw
        | 2, 3, true, _, _ => exact c23t W x hx hw
        | 2, 3, false, _, _ => exact c23f W x hx hw
        | 2, 4, true, _, _ => exact c24t W x hx hw
        | 2, 4, false, _, _ => exact c24f W x hx hw
        | 2, 5, true, _, _ => exact c25t W x hx hw
        | 2, 5, false, _, _ => exact c25f W x hx hw
        | 3, 1, true, _, _ => exact c31t W x hx hw
        | 3, 1, false, _, _ => exact c31f W x hx hw
        | 3, 2, true, _, _ => exact c32t W x hx hw
        | 3, 2, false, _, _ => exact c32f W x hx hw
        | 3, 3, true, _, _ => exact c33t W x hx hw
        | 3, 3, false, _, _ => exact c33f W x hx hw
        | 3, 4, true, _, _ => exact c34t W x hx hw
        | 3, 4, false, _, _ => exact c34f W x hx hw
        | 3, 5, true, _, _ => exact c35t W x hx hw
        | 3, 5, false, _, _ => exact c35f W x hx hw
        | 0, _, _, _, _ => exact absurd rfl h0
        | _, 0, _, _, _ => exact absurd rfl k0
        | s + 4, _, _, hs, _ => exact absurd hs (by omega)
        | _, a + 6, _, _, ha => exact absurd ha (by omega)
      · exact ww (x6 W b n) (.cons vs (.cons va (.cons (.int ..) bb)))
    · exact ww (x3 W b n a2) (.cons vs (.cons (.int ..) (.cons (.int ..) bb)))
  · exact ww (x0 W b n a1 a2) (.cons (.int ..) (.cons (.int ..) (.cons (.int ..) bb)))
end Go.Proofs.YtghdjomjcododaaGreatDoor.stubBound
