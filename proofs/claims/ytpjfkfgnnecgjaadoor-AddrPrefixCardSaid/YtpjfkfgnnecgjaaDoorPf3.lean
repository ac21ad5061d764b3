/- AddrPrefix: its own function walked, and its plain law. (text 3 of 3) -/
import Derived.Test.YtpjfkfgnnecgjaaDoorPf2
import Derived.Laws.BitsAllLaws
namespace Go.Proofs.YtpjfkfgnnecgjaaDoorW.PrintLast
end Go.Proofs.YtpjfkfgnnecgjaaDoorW.PrintLast
namespace Go.Proofs.YtpjfkfgnnecgjaaDoorW.PrintMore
end Go.Proofs.YtpjfkfgnnecgjaaDoorW.PrintMore
namespace Go.Proofs.YtpjfkfgnnecgjaaDoorW.PrintWords
end Go.Proofs.YtpjfkfgnnecgjaaDoorW.PrintWords
section
set_option linter.unusedVariables false
set_option linter.unusedSimpArgs false
namespace Go.Proofs.YtpjfkfgnnecgjaaDoor.All
open Go.RowKit Go.Proofs.YtpjfkfgnnecgjaaDoorW.PrintWords Go.Proofs.YtpjfkfgnnecgjaaDoorW.PrintLast Go.Proofs.YtpjfkfgnnecgjaaDoorW.PrintMore
theorem bt_xor (a b : ByteArray) (i : Int) : 0 ≤ Go.bits .xor .u8 (bt a i) (bt b i) ∧ Go.bits .xor .u8 (bt a i) (bt b i) ≤ 255 := by
 have h1 := bt_range a i
 have h2 := bt_range b i
 rw [u8_xor _ _ (by omega) (by omega) (by omega) (by omega)]
 have h3 : (bt a i).toNat ^^^ (bt b i).toNat < 2 ^ 8 := Nat.xor_lt_two_pow (by omega) (by omega)
 omega
theorem xor_zero (a b : ByteArray) (i : Int) : Go.bits .xor .u8 (bt a i) (bt b i) = 0 ↔ bt a i = bt b i := by
 have h1 := bt_range a i
 have h2 := bt_range b i
 rw [u8_xor _ _ (by omega) (by omega) (by omega) (by omega)]
 constructor
 ·intro h
  have h : (bt a i).toNat ^^^ (bt b i).toNat = 0 := by omega
  have e : (bt a i).toNat = (bt b i).toNat := by
   have := Nat.xor_assoc (bt a i).toNat (bt b i).toNat (bt b i).toNat
   rwa [h, Nat.xor_self, Nat.xor_zero, Nat.zero_xor, eq_comm] at this
  omega
 ·intro h
  rw [h, Nat.xor_self]; rfl
theorem len8_pos : ∀ n : Fin 256, n.val ≠ 0 → 1 ≤ Lib.bitLen n.val := by decide +kernel
theorem lz_val (x : Int) (h0 : 0 < x) (h1 : x ≤ 255) : ∃ r : Int, bits_LeadingZeros8.f x = some r ∧ 0 ≤ r ∧ r ≤ 7 := by
 unfold bits_LeadingZeros8.f bits_Len8.f
 rw [if_pos (by omega), if_pos h1]
 have a := len8_pos ⟨x.toNat, by omega⟩ (by show x.toNat ≠ 0; omega)
 have b := Lib.bitLen_le8 ⟨x.toNat, by omega⟩
 refine ⟨_, rfl, ?_, ?_⟩ <;> (unfold wrap64; simp only at a b; omega)
theorem is_some (a : ByteArray) : addr_Is.f a = some (decide (a.size = 4 ∨ a.size = 16)) := by
 unfold addr_Is.f
 by_cases h : a.size = 4
 ·rw [if_pos (by omega)]; simp [h]
 ·rw [if_neg (by omega)]
  by_cases h2 : a.size = 16
  ·simp [h, h2]
  ·simp [h, h2]; omega
theorem w64 (i : Int) (h0 : -1000 ≤ i) (h : i < 1000) : wrap64 i = i := by unfold wrap64; omega
theorem common_l (a b : ByteArray) (hs : a.size = b.size) (hn : a.size ≤ 16) : ∀ (d i k : Nat), i + d = a.size → d < k → ∃ c : Int, addr_Common.l0 k a b (a.size : Int) (i : Int) = some c ∧ 8 * i ≤ c ∧ c ≤ 8 * a.size ∧ (c = 8 * a.size ↔ ∀ j : Nat, i ≤ j → j < a.size → bt a j = bt b j)
 | 0, i, k + 1, h, _ => by
  refine ⟨8 * a.size, ?_, by omega, by omega, fun _ j h1 h2 => absurd h1 (by omega), fun _ => rfl⟩
  simp only [addr_Common.l0]
  rw [if_neg (by omega), w64 _ (by omega) (by omega)]
 | d + 1, i, k + 1, h, hk => by
  have hlt : i < a.size := by omega
  by_cases hz : Go.bits .xor .u8 (bt a i) (bt b i) = 0
  ·obtain ⟨c, h1, h2, h3, h4⟩ := common_l a b hs hn d (i + 1) k (by omega) (by omega)
   refine ⟨c, ?_, by omega, h3, h4.trans ⟨fun g j h5 h6 => ?_, fun g j h5 h6 => g j (by omega) h6⟩⟩
   ·simp only [addr_Common.l0]
    rw [if_pos (by omega), if_pos (by omega), if_pos (by omega), if_pos (by omega), if_pos hz, w64 _ (by omega) (by omega)]
    exact h1
   ·by_cases e : j = i
    ·subst e; exact (xor_zero a b _).1 hz
    ·exact g j (by omega) h6
  ·have hx := bt_xor a b i
   obtain ⟨z, hl, z0, z7⟩ := lz_val _ (by omega) hx.2
   refine ⟨8 * i + z, ?_, by omega, by omega, fun e => by omega, fun g => absurd ((xor_zero a b _).2 (g i (Nat.le_refl _) hlt)) hz⟩
   simp only [addr_Common.l0]
   rw [if_pos (by omega), if_pos (by omega), if_pos (by omega), if_pos (by omega), if_neg hz, hl]
   show some _ = some _
   rw [w64 (8 * (i : Int)) (by omega) (by omega), w64 _ (by omega) (by omega)]
theorem bytes_eq {a b : ByteArray} (hs : a.size = b.size) : (∀ j : Nat, 0 ≤ j → j < a.size → bt a j = bt b j) ↔ a.toList = b.toList := by
 rw [ByteArray.toList_eq, ByteArray.toList_eq]
 constructor
 ·intro h
  refine List.ext_getElem (by simpa using hs) fun j h1 h2 => ?_
  have h1 : j < a.size := by simpa using h1
  have := h j (Nat.zero_le _) h1
  unfold bt at this
  rw [dif_pos (by simpa using h1), dif_pos (by simp; omega)] at this
  have e : a[j].toNat = (b[j]'(by omega)).toNat := by
   simp only [Int.toNat_natCast] at this
   omega
  have := UInt8.toNat_inj.1 e
  rw [Array.getElem_toList, Array.getElem_toList]
  exact this
 ·intro h j _ _
  have : a = b := ByteArray.ext (Array.ext' h)
  rw [this]
theorem common_val (a b : ByteArray) (hs : a.size = b.size) (hi : a.size = 4 ∨ a.size = 16) : ∃ c : Int, (∀ k, 20 ≤ k → addr_Common.f k a b = some c) ∧ 0 ≤ c ∧ c ≤ 8 * a.size ∧ (c = 8 * a.size ↔ a.toList = b.toList) := by
 obtain ⟨c, h1, h2, h3, h4⟩ := common_l a b hs (by omega) a.size 0 19 (by omega) (by omega)
 refine ⟨c, fun k hk => at_rounds (fun k => addr_Common.mono a b k) hk ?_, by omega, h3, h4.trans (bytes_eq hs)⟩
 unfold addr_Common.f
 rw [if_pos (by omega), is_some, decide_eq_true hi]
 show addr_Common.j0 20 a b false = some c
 simp only [addr_Common.j0]
 rw [if_neg (by decide)]
 exact h1
theorem in_val {a b : ByteArray} (hs : a.size = b.size) (hi : a.size = 4 ∨ a.size = 16) {c : Int} (hc : ∀ k, 20 ≤ k → addr_Common.f k a b = some c) (n : Int) (h0 : 0 ≤ n) (h1 : n ≤ 8 * a.size) (k : Nat) (hk : 20 ≤ k) : addr_In.f k a b n = some (decide (c ≥ n)) := by
 unfold addr_In.f
 rw [if_pos (by omega), is_some, decide_eq_true hi]
 simp only [Option.bind_some]
 rw [if_pos trivial, if_pos (by omega), if_pos (by rw [w64 _ (by omega) (by omega)]; exact h1), hc k hk]
 rfl
theorem in_out {a : ByteArray} (hi : a.size = 4 ∨ a.size = 16) (n : Int) (h : n < 0 ∨ 8 * a.size < n) (k : Nat) : addr_In.f k a a n = some false := by
 unfold addr_In.f
 rw [if_pos rfl, is_some, decide_eq_true hi]
 simp only [Option.bind_some]
 rw [if_pos trivial]
 by_cases h0 : 0 ≤ n
 ·rw [if_pos (by omega), if_neg (by rw [w64 _ (by omega) (by omega)]; omega)]
 ·rw [if_neg (by omega)]
theorem law_l (a b : ByteArray) (hs : a.size = b.size) (hi : a.size = 4 ∨ a.size = 16) {c : Int} (hc : ∀ k, 20 ≤ k → addr_Common.f k a b = some c) (he : c = 8 * a.size ↔ a.toList = b.toList) :
  ∀ (d i k : Nat), i + d = 8 * a.size + 1 → d + 20 < k → conciergelaw3_AddrPrefix.l0 k a b true c (i : Int) = some true := by
 obtain ⟨c0, g1, g2, g3, g4⟩ := common_val a a rfl hi
 have e0 : c0 = 8 * a.size := g4.2 rfl
 intro d
 induction d with
 | zero =>
  intro i k h hk
  obtain ⟨k, rfl⟩ : ∃ m, k = m + 1 := ⟨k - 1, by omega⟩
  simp only [conciergelaw3_AddrPrefix.l0]
  rw [w64 (8 * (a.size : Int)) (by omega) (by omega), if_neg (by omega), if_pos trivial, w64 _ (by omega) (by omega), in_out hi _ (.inr (by omega))]
  simp only [Option.bind_some]
  rw [if_neg (by decide), in_out hi _ (.inl (by omega))]
  simp only [Option.bind_some]
  rw [if_neg (by decide)]
  congr 1
  by_cases e : c = 8 * a.size
  ·have := he.1 e
   rw [this, e]; simp
  ·have : ¬ a.toList = b.toList := fun h => e (he.2 h)
   rw [beq_eq_false_iff_ne.2 e, beq_eq_false_iff_ne.2 this]; rfl
 | succ d ih =>
  intro i k h hk
  obtain ⟨k, rfl⟩ : ∃ m, k = m + 1 := ⟨k - 1, by omega⟩
  simp only [conciergelaw3_AddrPrefix.l0]
  rw [w64 (8 * (a.size : Int)) (by omega) (by omega), if_pos (by omega), in_val rfl hi g1 i (by omega) (by omega) k (by omega)]
  simp only [Option.bind_some]
  rw [if_pos (by rw [decide_eq_true_eq]; omega), in_val hs hi hc i (by omega) (by omega) k (by omega)]
  simp only [Option.bind_some]
  have e : (decide (c ≥ (i : Int)) != decide ((i : Int) ≤ c)) = false := by
   have : (c ≥ (i : Int)) = ((i : Int) ≤ c) := rfl
   simp
  rw [e, if_neg (by decide), w64 _ (by omega) (by omega)]
  exact ih (i + 1) k (by omega) (by omega)
theorem cut_val (a : ByteArray) : ∃ b, conciergelaw2_Cut.f a 16 = some b := by
 unfold conciergelaw2_Cut.f
 by_cases h : (a.size : Int) > 16
 ·rw [if_pos h, if_pos (by omega), if_pos (by omega)]; exact ⟨_, rfl⟩
 ·rw [if_neg h]; exact ⟨_, rfl⟩
theorem addrPrefix_true (a0 a1 : ByteArray) : ∃ k, conciergelaw3_AddrPrefix.f k a0 a1 = some true := by
 obtain ⟨a, ha⟩ := cut_val a0
 obtain ⟨b, hb⟩ := cut_val a1
 obtain ⟨K, hK⟩ : ∃ K, 400 ≤ K := ⟨400, Nat.le_refl _⟩
 refine ⟨K + 1, ?_⟩
 unfold conciergelaw3_AddrPrefix.f
 rw [ha, hb]
 simp only [conciergelaw3_begun.f, Option.bind_some, if_true]
 by_cases hs : a.size = b.size
 ·rw [if_pos (by omega)]
  have key : (a.size = 4 ∨ a.size = 16) → conciergelaw3_AddrPrefix.j0 (K + 1) a b true false = some true := fun hi => by
   obtain ⟨c, h1, h2, h3, h4⟩ := common_val a b hs hi
   simp only [conciergelaw3_AddrPrefix.j0]
   rw [if_neg (by decide), h1 _ (by omega)]
   exact law_l a b hs hi h1 h4 (8 * a.size + 1) 0 K (by omega) (by omega)
  by_cases h4 : a.size = 4
  ·rw [if_pos (by omega)]; exact key (.inl h4)
  ·rw [if_neg (by omega)]
   by_cases h16 : a.size = 16
   ·have : ((a.size : Int) != 16) = false := by rw [h16]; rfl
    rw [this]; exact key (.inr h16)
   ·have : ((a.size : Int) != 16) = true := by rw [bne_iff_ne]; omega
    rw [this]
    simp [conciergelaw3_AddrPrefix.j0]
 ·rw [if_neg (by omega)]
  simp [conciergelaw3_AddrPrefix.j0]
theorem addrPrefix_calls (a0 a1 : ByteArray) (w : World) (hbeg : Bc w) : Calls Tryd.prog 5 #[.string a0, .string a1] w fun e w' => e = .returned (.bool true) ∧ Below w.heap.size w w' := by
 obtain ⟨k, hk⟩ := addrPrefix_true a0 a1
 exact conciergelaw3_AddrPrefix.calls k a0 a1 true w hbeg hk
end Go.Proofs.YtpjfkfgnnecgjaaDoor.All
end
