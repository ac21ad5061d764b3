/- An evaluator for the program's own code: a checksum of bytes, bit by bit, told without running it. (text 23) -/
import Derived.Test.YtghdjomjcododaaGreatDoorEv22
set_option linter.unusedVariables false
set_option linter.unusedSimpArgs false
namespace Go.YtghdjomjcododaaGreatDoorEv
open Go Go.RowKit
set_option linter.unusedSectionVars false
variable [Lane]

def bitN (x : Nat) : Nat := Nat.xor (Nat.div x 2) (Nat.mul 3988292384 (Nat.mod x 2))
noncomputable def bitsN (n : Nat) : Nat → Nat := Nat.rec (motive := fun _ => Nat → Nat) (fun x => x) (fun _ ih x => ih (bitN x)) n
noncomputable def sumN (l : List Nat) : Nat → Nat := List.rec (motive := fun _ => Nat → Nat) (fun x => x) (fun c _ ih x => ih (bitsN 8 (Nat.xor x c))) l
theorem bitsN_succ (n x : Nat) : bitsN (n + 1) x = bitsN n (bitN x) := rfl
theorem sumN_cons (c : Nat) (l : List Nat) (x : Nat) : sumN (c :: l) x = sumN l (bitsN 8 (x ^^^ c)) := rfl
noncomputable def numsOf : List SV → Option (List Nat)
  | [] => some []
  | .int .u8 (.ofNat b) :: l => match Nat.ble b 255, numsOf l with
    | true, some p => some (b :: p)
    | _, _ => none
  | _ => none
theorem numsOf_sound {m : Mp} : ∀ {l : List SV} {l' : List Value} {zs : List Nat}, VRs m l l' → numsOf l = some zs →
    zs.length = l'.length ∧ (∀ z ∈ zs, z < 256) ∧ ∀ j : Nat, j < zs.length → l'[j]? = some (.int .u8 ((zs.getD j 0 : Nat) : Int))
  | [], _, zs, .nil, h => by cases h; exact ⟨rfl, fun z h => (by cases h), fun j h => by simp at h⟩
  | v :: r, _, zs, .cons hv hs, h => by
    unfold numsOf at h
    split at h
    · rename_i e; cases e
    · rename_i b l e
      cases e
      split at h
      · rename_i p hb hp
        cases h
        have hb := Nat.le_of_ble_eq_true hb
        obtain ⟨h1, h2, h3⟩ := numsOf_sound hs hp
        cases hv
        refine ⟨by simp [h1], fun z hz => ?_, fun j hj => ?_⟩
        · rcases List.mem_cons.1 hz with rfl | hz
          · omega
          · exact h2 z hz
        · cases j with
          | zero => rfl
          | succ j => simpa using h3 j (by simpa using hj)
      · cases h
    · cases h
section
variable {P : Program}
noncomputable def sumF (l : List SV) : Option SV := (numsOf l).map fun zs => .int .u32 (.ofNat (Nat.xor 4294967295 (sumN zs 4294967295)))
noncomputable def orcSum (f0 : Nat) : Orc := fun σ f args => match Nat.beq f f0, args with
  | true, [.slice b off (n + 1) c] => match loadC σ b off (n + 1), Nat.ble (n + 1) 9223372036854775807 with
    | some l, true => match numsOf l with
      | some zs => some (.int .u32 (.ofNat (Nat.xor 4294967295 (sumN zs 4294967295))), σ)
      | none => (lanes sumF l).map fun v => (v, σ)
    | _, _ => none
  | _, _ => none
theorem orcSum_ok {f0 : Nat} (hI : ∀ (b off len cap : Nat) (zs : List Nat) (w : World), zs.length = len → len ≤ 9223372036854775807 →
      (∀ j, j < zs.length → w.cell? ⟨b, off + j, none⟩ = some (.int .u8 ((zs.getD j 0 : Nat) : Int))) → (∀ z ∈ zs, z < 256) →
      Calls P f0 #[.slice (some ⟨b, off, none⟩) len cap] w fun e w' => e = .returned (.int .u32 ((4294967295 ^^^ sumN zs 4294967295 : Nat) : Int)) ∧ w' = w) : OrcOk P (orcSum f0) := by
  intro m σ w f args args' v σ' hw hl h
  unfold orcSum at h
  split at h
  case h_2 => cases h
  rename_i b off n cap hf
  have hf := Nat.eq_of_beq_eq_true hf
  subst hf
  split at h
  case h_2 => cases h
  rename_i l hload hmax
  have hmax := Nat.le_of_ble_eq_true hmax
  cases args' with | mk l0 =>
  cases hl with | cons k1 k2 =>
  rename_i v0 l1
  cases k2
  have key : ∃ im ad c, v0 = Value.slice (some ad) (n + 1) c ∧ m b = some im ∧ ad.block = im.blk ∧ ad.spot = none ∧ (c ≠ 0 → ad.off = im.base + off) ∧ n + 1 ≤ c := by
    cases cap with
    | ex c => obtain ⟨im, a, e, h1, h2, h3, h4, h5⟩ := k1.ex_inv; exact ⟨im, a, c, e, h1, h2, h3, h4, h5⟩
    | op sz => obtain ⟨im, a, c, e, h1, h2, h3, h4, h5, _⟩ := k1.op_inv; exact ⟨im, a, c, e, h1, h2, h3, h4, h5⟩
  obtain ⟨im, ad, c, he, hm, ha, hsp, hc, hle⟩ := key
  have : ad = ⟨im.blk, im.base + off, none⟩ := by cases ad; simp at ha hsp hc ⊢; exact ⟨ha, hc (by omega), hsp⟩
  subst this
  subst he
  obtain ⟨l', hr, hlen, hcell, _⟩ := loadC_sound hw hload hm
  have fin : ∀ {k : List SV} {zs : List Nat}, VRs m k l' → numsOf k = some zs → (∀ v', VR m (.int .u32 (.ofNat (Nat.xor 4294967295 (sumN zs 4294967295)))) v' → VR m v v') → σ' = σ →
      Calls P f #[.slice (some ⟨im.blk, im.base + off, none⟩) (n + 1) c] w (CallOk P m σ w v σ') := by
    intro k zs hk hzs hv hσ
    subst hσ
    obtain ⟨h1, h2, h3⟩ := numsOf_sound hk hzs
    refine (hI im.blk (im.base + off) (n + 1) c zs w (by omega) hmax (fun j hj => hcell j _ (h3 j hj)) h2).mono fun e w' he => ?_
    obtain ⟨rfl, rfl⟩ := he
    exact ⟨m, _, rfl, hv _ (.int ..), .refl hw⟩
  split at h
  · rename_i zs hzs
    cases h
    exact fin hr hzs (fun _ h => h) rfl
  · cases hls : lanes sumF l with
    | none => rw [hls] at h; cases h
    | some u =>
      rw [hls] at h
      cases h
      obtain ⟨k, u0, hk, hf2, hwd, -⟩ := lanes_ok hls hr
      unfold sumF at hf2
      cases hz : numsOf k with
      | none => rw [hz] at hf2; cases hf2
      | some zs =>
        rw [hz] at hf2
        cases hf2
        exact fin hk hz (fun v' h => hwd _ _ h) rfl
end
end Go.YtghdjomjcododaaGreatDoorEv
