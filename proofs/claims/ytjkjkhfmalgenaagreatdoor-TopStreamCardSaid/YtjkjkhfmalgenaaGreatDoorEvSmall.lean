/- small: how far a number lies from a multiple of another. -/
import Derived.Test.YtjkjkhfmalgenaaGreatDoorChecked
import Derived.WalkKit
import Derived.Below
import Derived.KernelRfl
namespace Go.Proofs.YtjkjkhfmalgenaaGreatDoor.evSmall
open Go Go.RowKit
set_option maxRecDepth 100000
theorem any (x m : Int) (W : World) (h0 : 0 < m) (h1 : m < 1000) : Calls Tryz.prog 5 #[.int .i64 x, .int .i64 m] W fun e W' => e = .returned (.int .i64 ((x.tmod m).natAbs : Int)) ∧ Below W.heap.size W W' := by
  have b1 : x.tmod m < m := Int.tmod_lt_of_pos x h0
  have b2 : -m < x.tmod m := Int.lt_tmod_of_pos x h0
  go_enter Tryz.func5, Tryz.ntmps5
  go_wp2
  · go_ret
    rename_i hp
    refine ⟨?_, Below.refl _ _⟩
    rw [show ((x.tmod m).natAbs : Int) = -x.tmod m by omega]
    rfl
  · go_ret
    rename_i hp
    refine ⟨?_, Below.refl _ _⟩
    rw [show ((x.tmod m).natAbs : Int) = x.tmod m by omega]
    rfl
theorem lt (x : Int) (M : Nat) (h : 0 < M) : ∃ r : Nat, r < M ∧ ((x.tmod (.ofNat M)).natAbs : Int) = .ofNat r :=
  ⟨(x.tmod (.ofNat M)).natAbs, by
    have b1 := Int.tmod_lt_of_pos x (b := (.ofNat M)) (by have : (Int.ofNat M) = (M : Int) := rfl; omega)
    have b2 := Int.lt_tmod_of_pos x (b := (.ofNat M)) (by have : (Int.ofNat M) = (M : Int) := rfl; omega)
    have : (Int.ofNat M) = (M : Int) := rfl
    omega, rfl⟩
end Go.Proofs.YtjkjkhfmalgenaaGreatDoor.evSmall
