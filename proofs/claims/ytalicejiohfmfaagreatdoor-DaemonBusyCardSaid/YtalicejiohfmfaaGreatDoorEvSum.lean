/- journal.sum: its checksum, bit by bit: the walk. -/
import Derived.Test.YtalicejiohfmfaaGreatDoorChecked
import Derived.Test.YtalicejiohfmfaaGreatDoorEv23
import Derived.WalkKit
import Derived.Below
import Derived.KernelRfl
namespace Go.Proofs.YtalicejiohfmfaaGreatDoor.evSum
open Go Go.RowKit
set_option maxRecDepth 100000
set_option linter.unusedVariables false
open Go.YtalicejiohfmfaaGreatDoorEv
theorem wrap32 (n : Nat) (h : n < 4294967296) : IntKind.u32.wrap (n : Int) = n := by
  unfold IntKind.wrap
  simp [IntKind.bits, IntKind.signed]
  omega
theorem bits32 (op : BinOp) (f : Nat → Nat → Nat) (hf : ∀ x y : Int, bits op .u32 x y = IntKind.u32.wrap ((f (x % 4294967296).toNat (y % 4294967296).toNat : Nat) : Int)) (hlt : ∀ a b, a < 2 ^ 32 → b < 2 ^ 32 → f a b < 2 ^ 32)
    (a b : Nat) (ha : a < 4294967296) (hb : b < 4294967296) : bits op .u32 (a : Int) (b : Int) = ((f a b : Nat) : Int) := by
  rw [hf]
  have e1 : ((a : Int) % 4294967296).toNat = a := by omega
  have e2 : ((b : Int) % 4294967296).toNat = b := by omega
  rw [e1, e2]
  exact wrap32 _ (hlt a b ha hb)
theorem xor32 (a b : Nat) (ha : a < 4294967296) (hb : b < 4294967296) : bits .xor .u32 (a : Int) (b : Int) = ((a ^^^ b : Nat) : Int) :=
  bits32 .xor _ (fun _ _ => rfl) (fun _ _ h1 h2 => Nat.xor_lt_two_pow h1 h2) a b ha hb
theorem and32 (a b : Nat) (ha : a < 4294967296) (hb : b < 4294967296) : bits .and .u32 (a : Int) (b : Int) = ((a &&& b : Nat) : Int) :=
  bits32 .and _ (fun _ _ => rfl) (fun _ _ _ h2 => Nat.and_lt_two_pow _ h2) a b ha hb
theorem bit_eq (Y : Nat) (hY : Y < 4294967296) : bits .xor .u32 ((Y : Int) / 2) (bits .and .u32 3988292384 (-bits .and .u32 (Y : Int) 1 % 4294967296)) = ((bitN Y : Nat) : Int) := by
  have e1 : bits .and .u32 (Y : Int) 1 = ((Y % 2 : Nat) : Int) := by
    have := and32 Y 1 hY (by omega)
    rw [Nat.and_one_is_mod] at this
    exact this
  have e2 : bits .and .u32 3988292384 (-bits .and .u32 (Y : Int) 1 % 4294967296) = ((3988292384 * (Y % 2) : Nat) : Int) := by
    rw [e1]
    rcases Nat.mod_two_eq_zero_or_one Y with h | h
    · rw [h]; rfl
    · rw [h]; rfl
  rw [e2]
  have e3 : ((Y : Int) / 2) = ((Y / 2 : Nat) : Int) := by omega
  rw [e3]
  exact xor32 _ _ (by omega) (by have := Nat.mod_lt Y (show 0 < 2 by decide); omega)
theorem bitN_lt (Y : Nat) (hY : Y < 4294967296) : bitN Y < 4294967296 := by
  unfold bitN
  exact Nat.xor_lt_two_pow (n := 32) (show Y / 2 < 2 ^ 32 by omega) (show 3988292384 * (Y % 2) < 2 ^ 32 by have := Nat.mod_lt Y (show 0 < 2 by decide); omega)
theorem bitsN_lt : ∀ (n Y : Nat), Y < 4294967296 → bitsN n Y < 4294967296
  | 0, _, h => h
  | n + 1, Y, h => bitsN_lt n _ (bitN_lt Y h)
set_option maxHeartbeats 1000000 in
theorem any (b off len cap : Nat) (zs : List Nat) (w : World) (hz : zs.length = len) (hmax : len ≤ 9223372036854775807)
    (hc : ∀ j, j < zs.length → w.cell? ⟨b, off + j, none⟩ = some (.int .u8 ((zs.getD j 0 : Nat) : Int))) (hr : ∀ z ∈ zs, z < 256) :
    Calls Tryz.prog 109 #[.slice (some ⟨b, off, none⟩) len cap] w fun e w' => e = .returned (.int .u32 ((4294967295 ^^^ sumN zs 4294967295 : Nat) : Int)) ∧ w' = w := by
  go_enter Tryz.func109, Tryz.ntmps109
  go_wp2
  go_loop [3, 8] (fun t i => ∃ (k X : Nat), k ≤ len ∧ i = .int .i64 k ∧ t = .int .u32 X ∧ X < 4294967296 ∧ sumN zs 4294967295 = sumN (zs.drop k) X) (fun _ i => len - (intOf i).toNat)
  case atStart => exact ⟨0, 4294967295, by omega, rfl, rfl, by omega, rfl⟩
  case round =>
    obtain ⟨k, X, hk, rfl, rfl, hX, hd⟩ := hrel
    have hcell : k < len → w.cell? ⟨b, off + k, none⟩ = some (.int .u8 ((zs.getD k 0 : Nat) : Int)) := fun h => hc k (by omega)
    clear hc
    go_wp2
    · have hlt : k < len := by assumption
      go_loop [3, 16] (fun t i => ∃ (j Y : Nat), j ≤ 8 ∧ i = .int .i64 j ∧ t = .int .u32 Y ∧ Y < 4294967296 ∧ bitsN 8 (X ^^^ zs.getD k 0) = bitsN (8 - j) Y) (fun _ i => 8 - (intOf i).toNat)
      case atStart =>
        have hz0 : zs.getD k 0 = zs[k] := by rw [List.getD_eq_getElem?_getD, List.getElem?_eq_getElem (by omega)]; rfl
        have hz1 : zs[k] < 256 := hr _ (List.getElem_mem _)
        refine ⟨0, X ^^^ zs.getD k 0, by omega, rfl, ?_, Nat.xor_lt_two_pow (n := 32) hX (by rw [hz0]; omega), rfl⟩
        rw [hz0, show ((zs[k] : Nat) : Int) % 4294967296 = ((zs[k] : Nat) : Int) by omega, xor32 _ _ hX (by omega)]
      case round =>
        obtain ⟨j, Y, hj, rfl, rfl, hY, hd2⟩ := hrel
        go_wp2
        · go_round
          case rel =>
            have hj8 : j < 8 := by omega
            refine ⟨j + 1, bitN Y, by omega, by rfl, by rw [bit_eq Y hY], bitN_lt Y hY, ?_⟩
            rw [hd2, show 8 - j = (8 - (j + 1)) + 1 by omega]; rfl
          case measure => simp [intOf]; omega
        · have hj8 : j = 8 := by omega
          subst hj8
          refine ⟨⟨k + 1, Y, by omega, by rfl, rfl, hY, ?_⟩, by simp [intOf]; omega⟩
          rw [hd, List.drop_eq_getElem_cons (show k < zs.length by omega)]
          have hz0 : zs.getD k 0 = zs[k] := by rw [List.getD_eq_getElem?_getD, List.getElem?_eq_getElem (by omega)]; rfl
          rw [hz0] at hd2
          show sumN (zs.drop (k + 1)) (bitsN 8 (X ^^^ zs[k])) = _
          rw [hd2]; rfl
    · have hk2 : k = len := by omega
      subst hk2
      have e0 : zs.drop k = [] := List.drop_eq_nil_of_le (by omega)
      rw [e0]
      go_ret
      refine ⟨?_, rfl⟩
      show Ending.returned (Value.int IntKind.u32 (bits BinOp.xor IntKind.u32 ((4294967295 : Nat) : Int) X)) = _
      rw [xor32 _ _ (by omega) hX]
      rfl
end Go.Proofs.YtalicejiohfmfaaGreatDoor.evSum
