/- An evaluator for the program's own code: slices, maps, interfaces. (text 8) -/
import Derived.Test.YtjighphlkcedhaaDoorEv7
set_option linter.unusedVariables false
set_option linter.unusedSimpArgs false
namespace Go.YtjighphlkcedhaaDoorEv
open Go
set_option linter.unusedSectionVars false
variable [Lane]

section
variable {P : Program} {m : Mp} {σ : St} {w : World}
inductive OVR (m : Mp) : Option SV → Option Value → Prop
  | none : OVR m none none
  | some {v : SV} {v' : Value} (h : VR m v v') : OVR m (some v) (some v')
theorem VR.ex_inv {b off len c : Nat} {v' : Value} (h : VR m (.slice b off len (.ex c)) v') :
    ∃ im a, v' = .slice (some a) len c ∧ m b = some im ∧ a.block = im.blk ∧ a.spot = none ∧ (c ≠ 0 → a.off = im.base + off) ∧ len ≤ c := by
  cases h with
  | sliceEx h ha hs hc hl => exact ⟨_, _, rfl, h, ha, hs, hc, hl⟩
theorem VR.op_inv {b off len sz : Nat} {v' : Value} (h : VR m (.slice b off len (.op sz)) v') :
    ∃ im a c, v' = .slice (some a) len c ∧ m b = some im ∧ a.block = im.blk ∧ a.spot = none ∧ (c ≠ 0 → a.off = im.base + off) ∧ len ≤ c ∧ im.base + off + c * sz = im.tot ∧ 0 < sz := by
  cases h with
  | sliceOp h ha hs hc hl ht hz => exact ⟨_, _, _, rfl, h, ha, hs, hc, hl, ht, hz⟩
theorem VR.ptr_inv {b off : Nat} {v' : Value} (h : VR m (.ptr b off) v') : ∃ im, v' = .pointer (some ⟨im.blk, im.base + off, none⟩) ∧ m b = some im := by
  cases h with
  | ptr h => exact ⟨_, rfl, h⟩
theorem sb_run {k : IntKind} {n y : Nat} {v' : Value} {code : BoundsCode} (hv : VR m (.int k (.ofNat n)) v') (h : n ≤ y) : (Instr.sliceBound v' y code).run P w = .ok n w := by
  cases hv
  rw [run_sliceBound _ _ _ _ _ (by simp) (by simp; omega)]; rfl
theorem bounds_sound {isS : Bool} {len cap l h : Nat} {lo hi : Option SV} {lo' hi' : Option Value} (h1 : loN lo = some l) (h2 : hiN len hi = some h) (hlh : l ≤ h) (hh : h ≤ cap)
    (rl : OVR m lo lo') (rh : OVR m hi hi') : (Instr.sliceBounds isS len cap lo' hi' none).run P w = .ok (l, h, cap) w := by
  cases rh with
  | none =>
    simp only [hiN, Option.some.injEq] at h2
    subst h2
    cases rl with
    | none =>
      simp only [loN, Option.some.injEq] at h1
      subst h1
      rfl
    | some hv =>
      unfold loN at h1
      split at h1
      · rename_i e; cases e
      · rename_i k n e; cases e; cases h1
        simp [Instr.sliceBounds, sb_run hv hlh]
      · cases h1
  | some hw =>
    unfold hiN at h2
    split at h2
    · rename_i e; cases e
    · rename_i k n e; cases e; cases h2
      cases rl with
      | none =>
        simp only [loN, Option.some.injEq] at h1
        subst h1
        simp [Instr.sliceBounds, sb_run hw hh]
      | some hv =>
        unfold loN at h1
        split at h1
        · rename_i e; cases e
        · rename_i k' n' e; cases e; cases h1
          simp [Instr.sliceBounds, sb_run hw hh, sb_run hv hlh]
        · cases h1
    · cases h2
theorem room_sound (hw : WR P m σ w) {b off c h s : Nat} {im : Im} (hm : m b = some im) (ht : im.base + off + c * s = im.tot) (hz : 0 < s) (hr : roomS σ b (off + h * s) = true) : h ≤ c := by
  unfold roomS at hr
  split at hr
  · rename_i ty nn fz C hb
    have hr := Nat.le_of_ble_eq_true hr
    have hB := hw.blk _ _ hm
    rw [hb] at hB
    generalize w.heap[im.blk]? = o at hB
    cases hB with
    | cells h1 h2 _ _ =>
      have : h * s ≤ c * s := by omega
      exact Nat.le_of_mul_le_mul_right this hz
  · cases hr
theorem cut_sound (hw : WR P m σ w) {t : TypeId} {x v : SV} {x' : Value} {lo hi : Option SV} {lo' hi' : Option Value} (hx : VR m x x') (rl : OVR m lo lo') (rh : OVR m hi hi') (h : cut P t σ x lo hi = some v) :
    ∃ v', (Instr.sliceAt t x' lo' hi' none).run P w = .ok v' w ∧ VR m v v' := by
  unfold cut at h
  try simp only [und_eq, inf_eq, fnc_eq] at h
  split at h
  · rename_i hu
    cases hx
    rename_i hn hp
    split at h
    · rename_i l hh h1 h2
      split at h
      · rename_i b1 b2
        have b1 := Nat.le_of_ble_eq_true b1
        have b2 := Nat.le_of_ble_eq_true b2
        cases h
        refine ⟨_, ?_, sCut_sound m hn hp b1 b2⟩
        subst hn
        unfold Instr.sliceAt Instr.slice
        simp only [Sem.run_bind, run_underlying' hu, Result.andThen_ok]
        have := bounds_sound (P := P) (w := w) (isS := false) h1 h2 b1 b2 rl rh
        simp [this]
      · cases h
    · cases h
  · rename_i hu
    cases hx
    split at h
    · rename_i h1 h2 hs
      cases h
      refine ⟨.slice none 0 0, ?_, .nilSlice⟩
      unfold Instr.sliceAt Instr.slice
      simp only [Sem.run_bind, run_underlying' hu, Result.andThen_ok]
      have := bounds_sound (P := P) (w := w) (isS := true) (cap := 0) h1 h2 (Nat.le_refl _) (Nat.le_refl _) rl rh
      simp [this, sz_run hs]
    · cases h
  · rename_i e b off len cap hu
    split at h
    case h_2 => cases h
    rename_i l hh s h1 h2 hs
    split at h
    · rename_i c b1
      have b1 := Nat.le_of_ble_eq_true b1
      split at h
      · rename_i b2
        have b2 := Nat.le_of_ble_eq_true b2
        cases h
        obtain ⟨im, a, rfl, hm, ha, hsp, hc, hl⟩ := hx.ex_inv
        have := bounds_sound (P := P) (w := w) (isS := true) (cap := c) h1 h2 b1 b2 rl rh
        refine ⟨.slice (some (if c = l then a else a.add (l * s))) (hh - l) (c - l), ?_, ?_⟩
        · unfold Instr.sliceAt Instr.slice
          simp only [Sem.run_bind, run_underlying' hu, Result.andThen_ok, this, sz_run hs, Sem.run_pure]
          split <;> rfl
        · by_cases e : c = l
          · rw [if_pos e]
            exact .sliceEx hm ha hsp (fun h => absurd (by omega : c - l = 0) h) (by omega)
          · rw [if_neg e]
            have e2 : c ≠ 0 := by omega
            refine .sliceEx hm ?_ ?_ (fun _ => ?_) (by omega)
            · unfold Addr.add; split <;> exact ha
            · unfold Addr.add; split
              · exact hsp
              · rfl
            · rw [← Nat.add_assoc, ← hc e2]
              unfold Addr.add; split
              · rename_i h0; rw [h0]; rfl
              · rfl
      · cases h
    · rename_i s' b1
      have b1 := Nat.le_of_ble_eq_true b1
      split at h
      · rename_i b2 b3
        have b2 := Nat.eq_of_beq_eq_true b2
        subst b2
        cases h
        obtain ⟨im, a, c, rfl, hm, ha, hsp, hc, hl, ht, hz⟩ := hx.op_inv
        have b3 : hh ≤ c := by
          rcases (Bool.or_eq_true _ _).mp b3 with h | h
          · have := Nat.le_of_ble_eq_true h; omega
          · exact room_sound hw hm ht hz h
        have := bounds_sound (P := P) (w := w) (isS := true) (cap := c) h1 h2 b1 b3 rl rh
        refine ⟨.slice (some (if c = l then a else a.add (l * s))) (hh - l) (c - l), ?_, ?_⟩
        · unfold Instr.sliceAt Instr.slice
          simp only [Sem.run_bind, run_underlying' hu, Result.andThen_ok, this, sz_run hs, Sem.run_pure]
          split <;> rfl
        · have hmul : (c - l) * s = c * s - l * s := Nat.sub_mul ..
          have hle : l * s ≤ c * s := Nat.mul_le_mul_right _ (by omega)
          by_cases e : c = l
          · rw [if_pos e]
            exact .sliceOp hm ha hsp (fun h => absurd (by omega : c - l = 0) h) (by omega) (by omega) hz
          · rw [if_neg e]
            have e2 : c ≠ 0 := by omega
            refine .sliceOp hm ?_ ?_ (fun _ => ?_) (by omega) (by omega) hz
            · unfold Addr.add; split <;> exact ha
            · unfold Addr.add; split
              · exact hsp
              · rfl
            · rw [← Nat.add_assoc, ← hc e2]
              unfold Addr.add; split
              · rename_i h0; rw [h0]; rfl
              · rfl
      · cases h
    · cases h
  · rename_i n e b off hu
    split at h
    case h_2 => cases h
    rename_i l hh s h1 h2 hs
    split at h
    case h_2 => cases h
    rename_i b1 b2
    have b1 := Nat.le_of_ble_eq_true b1
    have b2 := Nat.le_of_ble_eq_true b2
    cases h
    obtain ⟨im, rfl, hm⟩ := hx.ptr_inv
    have := bounds_sound (P := P) (w := w) (isS := false) (cap := n) h1 h2 b1 b2 rl rh
    refine ⟨.slice (some (if n = l then (⟨im.blk, im.base + off, none⟩ : Addr) else Addr.add ⟨im.blk, im.base + off, none⟩ (l * s))) (hh - l) (n - l), ?_, ?_⟩
    · unfold Instr.sliceAt
      simp only [Sem.run_bind, run_underlying' hu, Result.andThen_ok, this, sz_run hs, Sem.run_pure, Instr.sureAddr]
    · by_cases e : n = l
      · rw [if_pos e]
        exact .sliceEx hm rfl rfl (fun h => absurd (by omega : n - l = 0) h) (by omega)
      · rw [if_neg e, Addr.add_none]
        exact .sliceEx hm rfl rfl (fun _ => by simp only []; omega) (by omega)
  · cases h
theorem cut3_sound {t : TypeId} {x v hi mx : SV} {x' hi' mx' : Value} {lo : Option SV} {lo' : Option Value} (hx : VR m x x') (rl : OVR m lo lo') (rh : VR m hi hi') (rm : VR m mx mx') (h : cut3 P t x lo hi mx = some v) :
    ∃ v', (Instr.sliceAt t x' lo' (some hi') (some mx')).run P w = .ok v' w ∧ VR m v v' := by
  unfold cut3 at h
  try simp only [und_eq, inf_eq, fnc_eq] at h
  split at h
  case h_2 => cases h
  rename_i e b off len cap hu
  split at h
  case h_2 => cases h
  rename_i l hh n s h1 h2 h3 hs
  split at h
  case h_2 => cases h
  rename_i b1 b2 b3
  have b1 := Nat.le_of_ble_eq_true b1
  have b2 := Nat.le_of_ble_eq_true b2
  cases h
  have key : ∃ im a c, x' = .slice (some a) len c ∧ m b = some im ∧ a.block = im.blk ∧ a.spot = none ∧ (c ≠ 0 → a.off = im.base + off) ∧ n ≤ c := by
    cases cap with
    | ex c => obtain ⟨im, a, e, h1, h2, h3, h4, h5⟩ := hx.ex_inv; exact ⟨im, a, c, e, h1, h2, h3, h4, Nat.le_of_ble_eq_true b3⟩
    | op sz =>
      obtain ⟨im, a, c, e, h1, h2, h3, h4, h5, _⟩ := hx.op_inv
      have := Nat.le_of_ble_eq_true b3
      exact ⟨im, a, c, e, h1, h2, h3, h4, by omega⟩
  obtain ⟨im, a, c, rfl, hm, ha, hsp, hc, hnc⟩ := key
  have hbd : (Instr.sliceBounds true len c lo' (some hi') (some mx')).run P w = .ok (l, hh, n) w := by
    unfold hiN at h2 h3
    split at h2
    · rename_i e; cases e
    · rename_i k n1 e; cases e; cases h2
      split at h3
      · rename_i e; cases e
      · rename_i k2 n2 e; cases e; cases h3
        cases rl with
        | none =>
          simp only [loN, Option.some.injEq] at h1
          subst h1
          simp [Instr.sliceBounds, sb_run rm hnc, sb_run rh b2]
        | some hv =>
          unfold loN at h1
          split at h1
          · rename_i e; cases e
          · rename_i k' n' e; cases e; cases h1
            simp [Instr.sliceBounds, sb_run rm hnc, sb_run rh b2, sb_run hv b1]
          · cases h1
      · cases h3
    · cases h2
  refine ⟨.slice (some (if n = l then a else a.add (l * s))) (hh - l) (n - l), ?_, ?_⟩
  · unfold Instr.sliceAt Instr.slice
    simp only [Sem.run_bind, run_underlying' hu, Result.andThen_ok, hbd, sz_run hs, Sem.run_pure]
    split <;> rfl
  · by_cases e : n = l
    · rw [if_pos e]
      exact .sliceEx hm ha hsp (fun h => absurd (by omega : n - l = 0) h) (by omega)
    · rw [if_neg e]
      have e2 : c ≠ 0 := by omega
      refine .sliceEx hm ?_ ?_ (fun _ => ?_) (by omega)
      · unfold Addr.add; split <;> exact ha
      · unfold Addr.add; split
        · exact hsp
        · rfl
      · rw [← Nat.add_assoc, ← hc e2]
        unfold Addr.add; split
        · rename_i h0; rw [h0]; rfl
        · rfl
theorem optAs_ok {o : Option SV} {o' : Option Value} {v : SV} (h : OVR m o o') (hv : VR m v (o'.getD (.bool false))) : OVR m (optAs o v) o' := by
  cases h with
  | none => exact .none
  | some h => exact .some hv
theorem OVR.getD {o : Option SV} {o' : Option Value} (h : OVR m o o') : VR m (o.getD (.bool false)) (o'.getD (.bool false)) := by
  cases h with
  | none => exact .bool _
  | some h => exact h
theorem cutL_sound (hw : WR P m σ w) {t : TypeId} {x v : SV} {x' : Value} {lo hi : Option SV} {lo' hi' : Option Value} (hx : VR m x x') (rl : OVR m lo lo') (rh : OVR m hi hi') (h : cutL P t σ x lo hi = some v) :
    ∃ v', (Instr.sliceAt t x' lo' hi' none).run P w = .ok v' w ∧ VR m v v' := by
  unfold cutL at h
  split at h
  · rename_i hb
    cases h
    exact cut_sound hw hx rl rh hb
  · obtain ⟨k, u, hk, hf, hwd, -⟩ := lanes_ok h (.cons hx (.cons rl.getD (.cons rh.getD .nil)))
    obtain ⟨a, b, c, rfl, ha, hb, hc⟩ := hk.three_inv
    unfold cutF at hf
    split at hf
    case h_2 => cases hf
    rename_i n p l0 h0 e
    cases e
    split at hf
    case h_2 => cases hf
    obtain ⟨v', h1, h2⟩ := cut_sound hw ha (optAs_ok rl hb) (optAs_ok rh hc) hf
    exact ⟨v', h1, hwd _ _ h2⟩
end
end Go.YtjighphlkcedhaaDoorEv
