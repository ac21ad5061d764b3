/- An evaluator for the program's own code: memory and operands. (text 5) -/
import Derived.Test.YtjighphlkcedhaaDoorEv4
set_option linter.unusedVariables false
set_option linter.unusedSimpArgs false
namespace Go.YtjighphlkcedhaaDoorEv
open Go
set_option linter.unusedSectionVars false
variable [Lane]

theorem lst_succ (c : Tr SV) (n i : Nat) : lst c (n + 1) i = c.get .undef i :: lst c n (i + 1) := rfl
theorem lst_zero (c : Tr SV) (i : Nat) : lst c 0 i = [] := rfl
theorem lst_length (c : Tr SV) : ∀ (n i : Nat), (lst c n i).length = n
  | 0, _ => rfl
  | n + 1, i => by rw [lst_succ, List.length_cons, lst_length c n]
theorem lst_get (c : Tr SV) : ∀ (n i k : Nat), k < n → (lst c n i)[k]? = some (c.get .undef (i + k))
  | 0, _, _, h => by omega
  | n + 1, i, 0, _ => by rw [lst_succ]; rfl
  | n + 1, i, k + 1, h => by rw [lst_succ, List.getElem?_cons_succ, lst_get c n _ _ (by omega)]; congr 2; omega
theorem putL_nil (c : Tr SV) (i : Nat) : putL [] c i = c := rfl
theorem putL_cons (v : SV) (l : List SV) (c : Tr SV) (i : Nat) : putL (v :: l) c i = putL l (c.set .undef v i) (i + 1) := rfl
theorem putL_get : ∀ (l : List SV) (c : Tr SV) (i j : Nat), (putL l c i).get .undef j = if i ≤ j then (if j < i + l.length then (l[j - i]?).getD .undef else c.get .undef j) else c.get .undef j
  | [], c, i, j => by
    rw [putL_nil]
    by_cases h : i ≤ j
    · rw [if_pos h, if_neg (by simp; omega)]
    · rw [if_neg h]
  | v :: l, c, i, j => by
    rw [putL_cons, putL_get l, Tr.get_set]
    by_cases h : i ≤ j
    · rw [if_pos h]
      by_cases e : j = i
      · subst e; rw [if_neg (by omega), if_pos rfl, if_pos (by simp)]; simp
      · have h1 : i + 1 ≤ j := by omega
        rw [if_pos h1, if_neg e]
        by_cases h2 : j < i + 1 + l.length
        · rw [if_pos h2, if_pos (by simp; omega)]
          have : j - i = (j - (i + 1)) + 1 := by omega
          rw [this, List.getElem?_cons_succ]
        · rw [if_neg h2, if_neg (by simp; omega)]
    · rw [if_neg h, if_neg (by omega), if_neg (by omega)]
theorem putL_in {l : List SV} {c : Tr SV} {i k : Nat} {v : SV} (h : l[k]? = some v) : (putL l c i).get .undef (i + k) = v := by
  have hk : k < l.length := (List.getElem?_eq_some_iff.1 h).1
  rw [putL_get, if_pos (by omega), if_pos (by omega), Nat.add_sub_cancel_left, h]; rfl
theorem putL_out {l : List SV} {c : Tr SV} {i j : Nat} (h : j < i ∨ i + l.length ≤ j) : (putL l c i).get .undef j = c.get .undef j := by
  rw [putL_get]
  split
  · rw [if_neg (by omega)]
  · rfl
theorem fromL_get {l : List SV} {k : Nat} {v : SV} (h : l[k]? = some v) : (fromL l).get .undef k = v := by
  have := putL_in (c := .nil) (i := 0) h
  rwa [Nat.zero_add] at this
theorem Addr.add_none (b o k : Nat) : (⟨b, o, none⟩ : Addr).add k = ⟨b, o + k, none⟩ := by
  unfold Addr.add
  split
  · rename_i h; subst h; rfl
  · rfl

section
variable {P : Program} {m : Mp} {σ : St} {w : World}
theorem readable_mem : ∀ {l : List SV}, readable l = true → ∀ v ∈ l, v ≠ .unk
  | v :: l, h, u, hu => by
    unfold readable at h
    split at h
    · cases h
    · rename_i hne
      rcases List.mem_cons.1 hu with e | hu
      · rw [e]; exact hne
      · exact readable_mem h u hu
theorem loadC_rd {b off n : Nat} {l : List SV} (h : loadC σ b off n = some l) : ∀ v ∈ l, v ≠ .unk := by
  unfold loadC at h
  split at h
  · split at h
    · rename_i hk
      injection h with h
      rw [← h]; exact readable_mem hk
    · cases h
  · cases h
theorem loadC_eq {b off n : Nat} {l : List SV} (h : loadC σ b off n = some l) : ∃ ty nn fz c, σ.get b = .cells ty nn fz c ∧ off + n ≤ nn ∧ l = lst c n off := by
  unfold loadC at h
  split at h
  · rename_i ty nn fz c hb
    split at h
    · rename_i hle _
      injection h with h
      exact ⟨ty, nn, fz, c, hb, Nat.le_of_ble_eq_true hle, h.symm⟩
    · cases h
  · cases h
theorem loadC_live {b off n : Nat} {l : List SV} (h : loadC σ b off n = some l) : σ.get b ≠ .dead := by
  obtain ⟨_, _, _, _, hb, _⟩ := loadC_eq h
  rw [hb]; intro e; cases e
theorem cell_of {B : Nat} {C : Array Value} {ty lo hi i : Nat} (h : w.heap[B]? = some (.cells C ty (lo, hi))) : w.cell? ⟨B, i, none⟩ = C[i]? := by
  simp [World.cell?, h]
theorem frozen_of {B : Nat} {C : Array Value} {ty lo hi i : Nat} (h : w.heap[B]? = some (.cells C ty (lo, hi))) : w.frozen? ⟨B, i, none⟩ = (decide (lo ≤ i) && decide (i < hi)) := by
  simp [World.frozen?, h]
theorem loadC_sound (hw : WR P m σ w) {b off n : Nat} {l : List SV} {im : Im} (h : loadC σ b off n = some l) (hm : m b = some im) :
    ∃ l' : List Value, VRs m l l' ∧ l'.length = n ∧ (∀ (j : Nat) v, l'[j]? = some v → w.cell? ⟨im.blk, im.base + off + j, none⟩ = some v) ∧ ∀ v ∈ l', v.oneCell' = true := by
  have hrd := loadC_rd h
  obtain ⟨ty, nn, fz, c, hb, hle, rfl⟩ := loadC_eq h
  have hB := hw.blk _ _ hm
  rw [hb] at hB
  generalize ho : w.heap[im.blk]? = o at hB
  cases hB with
  | cells ht hn hf hv =>
    rename_i lo hi C
    refine ⟨(C.toList.drop (im.base + off)).take n, ?_, by simp; omega, ?_, ?_⟩
    · refine VRs.of_get (by rw [lst_length]; simp; omega) fun i v v' hi hv' => ?_
      have hin : i < n := by have := (List.getElem?_eq_some_iff.1 hi).1; rwa [lst_length] at this
      obtain ⟨u, hu, hr, _⟩ := hv (off + i) (by omega)
      have hmem := List.mem_of_getElem? hi
      rw [lst_get _ _ _ _ hin] at hi
      simp only [List.getElem?_take, hin, if_true, List.getElem?_drop, Array.getElem?_toList] at hv'
      rw [show im.base + off + i = im.base + (off + i) by omega] at hv'
      rw [hu] at hv'
      cases hi; cases hv'
      exact hr.resolve_right (hrd _ hmem)
    · intro j v hj
      have hjn : j < n := by have := (List.getElem?_eq_some_iff.1 hj).1; simp at this; omega
      simp only [List.getElem?_take, hjn, if_true, List.getElem?_drop, Array.getElem?_toList] at hj
      rw [cell_of ho]; exact hj
    · intro v hv'
      obtain ⟨j, hj⟩ := List.mem_iff_getElem?.1 hv'
      have hjn : j < n := by have := (List.getElem?_eq_some_iff.1 hj).1; simp at this; omega
      simp only [List.getElem?_take, hjn, if_true, List.getElem?_drop, Array.getElem?_toList] at hj
      obtain ⟨u, hu, _, h1⟩ := hv (off + j) (by omega)
      rw [show im.base + off + j = im.base + (off + j) by omega, hu] at hj
      cases hj; exact h1.resolve_right (hrd _ (List.mem_of_getElem? (show (lst c n off)[j]? = some (c.get .undef (off + j)) from lst_get _ _ _ _ hjn)))
theorem loadC_run (hw : WR P m σ w) {b off n : Nat} {l : List SV} {im : Im} (h : loadC σ b off n = some l) (hm : m b = some im) :
    ∃ l' : List Value, VRs m l l' ∧ l'.length = n ∧ (∀ v ∈ l', v.oneCell' = true) ∧ (∀ (j : Nat) v, l'[j]? = some v → w.cell? ((⟨im.blk, im.base + off, none⟩ : Addr).add j) = some v) ∧
      (loadCells ⟨im.blk, im.base + off, none⟩ n).run P w = .ok l'.toArray w := by
  obtain ⟨l', hr, hl, hc, h1⟩ := loadC_sound hw h hm
  have hc' : ∀ (j : Nat) v, l'[j]? = some v → w.cell? ((⟨im.blk, im.base + off, none⟩ : Addr).add j) = some v := fun j v hj => by rw [Addr.add_none]; exact hc j v hj
  refine ⟨l', hr, hl, h1, hc', ?_⟩
  subst hl
  exact run_loadCells_list (P := P) (w := w) _ l' hc'

/-! types -/
theorem run_underlying' {t : TypeId} {d : TypeDesc} (h : P.underlying t = some d) : (underlying t).run P w = .ok d w := by simp [underlying, h]
theorem sz_run {t : TypeId} {n : Nat} (h : sz P t = some n) : (sizeOf t).run P w = .ok n w := by
  unfold sz at h
  try simp only [und_eq, inf_eq, fnc_eq] at h
  cases hi : P.info? t with
  | none => rw [hi] at h; cases h
  | some i => rw [hi] at h; simp at h; simp [sizeOf, typeInfo, hi, h]
theorem isAg_run {t : TypeId} {b : Bool} (h : isAg P t = some b) : (isAgg t).run P w = .ok b w := by
  unfold isAg at h
  try simp only [und_eq, inf_eq, fnc_eq] at h
  cases hu : P.underlying t with
  | none => rw [hu] at h; cases h
  | some d => rw [hu] at h; cases d <;> simp at h <;> subst h <;> simp [isAgg, underlying, hu]
mutual
theorem cv_sound : ∀ (n : Nat) (v' : Value) (v : SV), cv n v' = some v → VR m v v'
  | n, .bool b, v, h => by unfold cv at h; cases h; exact .bool b
  | n, .int k i, v, h => by unfold cv at h; cases h; exact .int k i
  | n, .string s, v, h => by unfold cv at h; cases h; exact .str rfl rfl
  | n, .pointer none, v, h => by unfold cv at h; cases h; exact .nilPtr
  | n, .slice none 0 0, v, h => by unfold cv at h; cases h; exact .nilSlice
  | n, .map none, v, h => by unfold cv at h; cases h; exact .nilMap
  | n, .nilFunc, v, h => by unfold cv at h; cases h; exact .nilFunc
  | n, .nilIface, v, h => by unfold cv at h; cases h; exact .nilIface
  | n, .tuple cs, v, h => by
    unfold cv at h
    split at h
    · rename_i he
      cases h
      exact .tuple (by rw [List.isEmpty_iff.1 he]; exact .nil)
    · cases h
  | n, .func (.func f) a b, v, h => by
    unfold cv at h
    split at h
    · rename_i he
      cases h
      simp only [Bool.and_eq_true] at he
      exact .func (by rw [List.isEmpty_iff.1 he.1]; exact .nil) (by rw [List.isEmpty_iff.1 he.2]; exact .nil)
    · cases h
  | n + 1, .agg cs, v, h => by
    unfold cv at h
    cases hl : cs.toList.mapM (cv n) with
    | none => rw [hl] at h; cases h
    | some l => rw [hl] at h; cases h; exact .agg (cvs_sound n cs.toList l hl)
  | 0, .agg cs, v, h => by unfold cv at h; cases h
  | _, .pointer (some _), v, h => by unfold cv at h; cases h
  | _, .slice (some _) _ _, v, h => by unfold cv at h; cases h
  | _, .slice none (_ + 1) _, v, h => by unfold cv at h; cases h
  | _, .slice none 0 (_ + 1), v, h => by unfold cv at h; cases h
  | _, .map (some _), v, h => by unfold cv at h; cases h
  | _, .chan _, v, h => by unfold cv at h; cases h
  | _, .float _ _, v, h => by unfold cv at h; cases h
  | _, .complex _ _ _, v, h => by unfold cv at h; cases h
  | _, .iface _ _, v, h => by unfold cv at h; cases h
  | _, .func (.method _) _ _, v, h => by unfold cv at h; cases h
  | _, .func (.methodOf _ _) _ _, v, h => by unfold cv at h; cases h
  | _, .func (.via _ _ _ _) _ _, v, h => by unfold cv at h; cases h
  | _, .func (.yield _) _ _, v, h => by unfold cv at h; cases h
theorem cvs_sound : ∀ (n : Nat) (l' : List Value) (l : List SV), l'.mapM (cv n) = some l → VRs m l l'
  | n, [], l, h => by simp at h; subst h; exact .nil
  | n, v' :: l', l, h => by
    rw [List.mapM_cons] at h
    cases hv : cv n v' with
    | none => rw [hv] at h; cases h
    | some v =>
      rw [hv] at h
      cases hl : l'.mapM (cv n) with
      | none => simp [hl] at h
      | some k => simp [hl] at h; subst h; exact .cons (cv_sound n v' v hv) (cvs_sound n l' k hl)
end
theorem zeroV_sound {t : TypeId} {z : SV} (h : zeroV P t = some z) : ∃ i z', P.info? t = some i ∧ i.zero = some z' ∧ VR m z z' ∧ (zeroValue t).run P w = .ok z' w := by
  unfold zeroV at h
  try simp only [und_eq, inf_eq, fnc_eq] at h
  cases hi : P.info? t with
  | none => rw [hi] at h; cases h
  | some i =>
    rw [hi] at h
    cases hz : i.zero with
    | none => simp [hz] at h
    | some z' =>
      simp [hz] at h
      exact ⟨i, z', rfl, hz, cv_sound _ _ _ h, by simp [zeroValue, typeInfo, hi, hz]⟩
theorem loadV_sound (hw : WR P m σ w) {t : TypeId} {b off : Nat} {v : SV} {im : Im} (h : loadV P σ t b off = some v) (hm : m b = some im) :
    ∃ v', VR m v v' ∧ (loadVar t ⟨im.blk, im.base + off, none⟩).run P w = .ok v' w := by
  unfold loadV at h
  split at h
  · rename_i n ha hs
    cases hl : loadC σ b off n with
    | none => rw [hl] at h; cases h
    | some l =>
      rw [hl] at h; cases h
      obtain ⟨l', hr, _, _, _, hrun⟩ := loadC_run hw hl hm
      exact ⟨.agg l'.toArray, .agg (by simpa using hr), by simp [loadVar, isAg_run ha, sz_run hs, hrun]⟩
  · rename_i ha
    split at h
    · rename_i u hl
      cases h
      obtain ⟨l', hr, hlen, _, hc, _⟩ := loadC_run hw hl hm
      cases hr with
      | cons hv hs =>
        cases hs
        have := hc 0 _ rfl
        rw [Addr.add_none] at this
        exact ⟨_, hv, by simp [loadVar, isAg_run ha, Nat.add_zero] at this ⊢; simp [this]⟩
    · cases h
  · cases h
/-- What a variable held at first it holds still. -/
theorem ghost_cell (h : WR P m σ w) {W0 : World} {L : Gl} (hg : σ.gh = some (W0, L)) {g i : Nat} {v : Value} (hv : W0.cell? ⟨g, i, none⟩ = some v) : w.cell? ⟨g, i, none⟩ = some v := by
  obtain ⟨_, _, _, i4⟩ := h.inv W0 L hg
  have hlt : g < W0.heap.size := by
    rcases Nat.lt_or_ge g W0.heap.size with h | h
    · exact h
    · simp [World.cell?, Array.getElem?_eq_none h] at hv
  rw [← hv]
  unfold World.cell?
  rw [i4 g hlt]
theorem tabOf_mem {g : Nat} {l : List SV} : ∀ {r : List (Nat × List SV)}, tabOf g r = some l → (g, l) ∈ r
  | [], h => by cases h
  | (k, l') :: r, h => by
    unfold tabOf at h
    split at h
    · rename_i hb
      cases h
      rw [Nat.eq_of_beq_eq_true hb]; exact List.mem_cons_self
    · exact List.mem_cons_of_mem _ (tabOf_mem h)
theorem loadG_sound (hw : WR P m σ w) {t : TypeId} {a : Addr} {v : SV} (h : loadG P σ t a = some v) : ∃ v', VR m v v' ∧ (loadVar t a).run P w = .ok v' w := by
  unfold loadG at h
  split at h
  case h_2 => cases h
  rename_i p hgh hsp hag
  obtain ⟨W0, L⟩ := p
  split at h
  case h_2 => cases h
  rename_i l hl
  obtain ⟨B, o, sp⟩ := a
  simp only at hsp hl h
  subst hsp
  obtain ⟨v', hv', hr⟩ := (hw.inv W0 L hgh).1.2.2 B l (tabOf_mem hl) o v h
  have hc := ghost_cell hw hgh hv'
  exact ⟨v', hr.mono (fun _ _ h => (by cases h)), by simp [loadVar, isAg_run hag, hc]⟩
theorem loadV_live {t : TypeId} {b off : Nat} {v : SV} (h : loadV P σ t b off = some v) : σ.get b ≠ .dead := by
  unfold loadV at h
  split at h
  · rename_i n ha hs
    cases hl : loadC σ b off n with
    | none => rw [hl] at h; cases h
    | some l => exact loadC_live hl
  · split at h
    · rename_i u hl; exact loadC_live hl
    · cases h
  · cases h

/-! writing -/
theorem setCells_heap_other (b o : Nat) : ∀ (vs : List Value) (w : World) (B : Nat), B ≠ b → (w.setCells b o vs).heap[B]? = w.heap[B]? := by
  intro vs
  induction vs generalizing o with
  | nil => intro w B h; rfl
  | cons v vs ih =>
    intro w B h
    show ((w.setCell ⟨b, o, none⟩ v).setCells b (o + 1) vs).heap[B]? = _
    rw [ih (o + 1) _ B h]
    simp only [World.setCell, Array.getElem?_modify]
    rw [if_neg (Ne.symm h)]
theorem setCells_heap (b o : Nat) : ∀ (vs : List Value) (w : World) (C : Array Value) (ty lo hi : Nat), w.heap[b]? = some (.cells C ty (lo, hi)) → o + vs.length ≤ C.size →
    ∃ C' : Array Value, (w.setCells b o vs).heap[b]? = some (.cells C' ty (lo, hi)) ∧ C'.size = C.size ∧ ∀ i, C'[i]? = if o ≤ i ∧ i < o + vs.length then vs[i - o]? else C[i]? := by
  intro vs
  induction vs generalizing o with
  | nil => intro w C ty lo hi h _; exact ⟨C, h, rfl, fun i => by rw [if_neg (by simp only [List.length_nil]; omega)]⟩
  | cons v vs ih =>
    intro w C ty lo hi h hle
    simp only [List.length_cons] at hle
    have h1 : (w.setCell ⟨b, o, none⟩ v).heap[b]? = some (.cells (C.setIfInBounds o v) ty (lo, hi)) := by
      simp [World.setCell, Array.getElem?_modify, h]
    obtain ⟨C', hc, hs, hg⟩ := ih (o + 1) _ _ _ _ _ h1 (by simp; omega)
    refine ⟨C', hc, by simpa using hs, fun i => ?_⟩
    rw [hg]
    by_cases h2 : o + 1 ≤ i ∧ i < o + 1 + vs.length
    · rw [if_pos h2, if_pos (by simp; omega)]
      have : i - o = (i - (o + 1)) + 1 := by omega
      rw [this, List.getElem?_cons_succ]
    · rw [if_neg h2]
      by_cases e : i = o
      · subst e; rw [if_pos (by simp)]; rw [Array.getElem?_setIfInBounds_self_of_lt (by omega), Nat.sub_self]; rfl
      · rw [if_neg (by simp; omega), Array.getElem?_setIfInBounds, if_neg (Ne.symm e)]
theorem setCells_size (b o : Nat) : ∀ (vs : List Value) (w : World), (w.setCells b o vs).heap.size = w.heap.size ∧ (w.setCells b o vs).os = w.os ∧ (w.setCells b o vs).tape = w.tape ∧ (w.setCells b o vs).output = w.output := by
  intro vs
  induction vs generalizing o with
  | nil => intro w; exact ⟨rfl, rfl, rfl, rfl⟩
  | cons v vs ih =>
    intro w
    obtain ⟨a, b', c, d⟩ := ih (o + 1) (w.setCell ⟨b, o, none⟩ v)
    exact ⟨a.trans (World.size_setCell ..), b', c, d⟩
theorem FZ.not_frozen {fz lo hi n i : Nat} (h : FZ fz lo hi n) (h1 : fz ≤ 1) (hi' : i < n) : (decide (lo ≤ i) && decide (i < hi)) = false := by
  match fz, h, h1 with
  | 0, h, _ => obtain ⟨rfl, rfl⟩ := h; simp
  | 1, h, _ =>
    have h' : n ≤ lo ∨ hi ≤ lo := h
    by_cases h2 : lo ≤ i
    · simp [h2]; omega
    · simp [h2]
/-- Cells written: here, and in the machine. -/
theorem storeC_sound (hw : WR P m σ w) {b off : Nat} {l : List SV} {l' : List Value} {σ' : St} {im : Im} (h : storeC σ b off l = some σ') (hm : m b = some im) (hl : VRs m l l') :
    (storeCells ⟨im.blk, im.base + off, none⟩ l' 0).run P w = .ok () (w.setCells im.blk (im.base + off) l') ∧ Post P m σ w m σ' (w.setCells im.blk (im.base + off) l') := by
  unfold storeC at h
  split at h
  case h_2 => cases h
  rename_i ty nn fz c hb
  split at h
  case h_2 => cases h
  rename_i h1 h2 h3
  cases h
  have hle := Nat.le_of_ble_eq_true h1
  have hfz := Nat.le_of_ble_eq_true h2
  have hd : (σ.get b).wr = true := by rw [hb]; exact Blk.wr_cells hfz
  have hB := hw.blk _ _ hm
  rw [hb] at hB
  generalize ho : w.heap[im.blk]? = o at hB
  cases hB with
  | cells ht hn hf hv =>
    rename_i lo hi C
    have hlen := hl.length
    have hone : ∀ v ∈ l', v.oneCell' = true := by
      intro v hv'
      obtain ⟨j, hj⟩ := List.mem_iff_getElem?.1 hv'
      obtain ⟨u, hu, hr⟩ := hl.get' j v hj
      exact hr.one (List.all_eq_true.1 h3 u (List.mem_of_getElem? hu))
    obtain ⟨C', hc', hs', hg'⟩ := setCells_heap im.blk (im.base + off) l' w C ty lo hi ho (by omega)
    obtain ⟨a1, a2, a3, a4⟩ := setCells_size im.blk (im.base + off) l' w
    refine ⟨?_, Post.put hw hm hd _ _ a2 a3 a4 a1 (fun B hB => setCells_heap_other _ _ _ _ _ hB) ?_⟩
    · have := run_storeCells_cells (P := P) im.blk (im.base + off) l' 0 w ?_ ?_ hone
      · simpa using this
      · intro j hj
        rw [cell_of ho]
        simp; omega
      · intro j hj
        rw [frozen_of ho]
        exact hf.not_frozen hfz (by omega)
    · rw [hc']
      refine .cells (hs'.trans ht) (by omega) (by rw [hs']; exact hf) fun k hk => ?_
      rw [hg']
      by_cases hin : im.base + off ≤ im.base + k ∧ im.base + k < im.base + off + l'.length
      · rw [if_pos hin]
        have hk' : k = off + (k - off) := by omega
        have hx : im.base + k - (im.base + off) = k - off := by omega
        rw [hx]
        obtain ⟨u, hu⟩ : ∃ u, l[k - off]? = some u := ⟨_, List.getElem?_eq_getElem (by omega)⟩
        obtain ⟨u', hu', hr⟩ := hl.get _ _ hu
        refine ⟨u', hu', ?_, .inl (hone _ (List.mem_of_getElem? hu'))⟩
        rw [hk', putL_in hu]; exact .inl hr
      · rw [if_neg hin, putL_out (by omega)]
        exact hv k hk
theorem storeC_live {b off : Nat} {l : List SV} {σ' : St} (h : storeC σ b off l = some σ') : σ.get b ≠ .dead := by
  unfold storeC at h
  split at h
  · rename_i hb; rw [hb]; intro e; cases e
  · cases h
theorem storeV_sound (hw : WR P m σ w) {t : TypeId} {b off : Nat} {v : SV} {v' : Value} {σ' : St} {im : Im} (h : storeV P σ t b off v = some σ') (hm : m b = some im) (hv : VR m v v') :
    ∃ w', (storeVar t ⟨im.blk, im.base + off, none⟩ v').run P w = .ok () w' ∧ Post P m σ w m σ' w' := by
  unfold storeV at h
  split at h
  case h_2 => cases h
  rename_i n hs
  split at h
  case h_2 => cases h
  rename_i hn
  have hc := hv.cells
  obtain ⟨h1, h2⟩ := storeC_sound hw h hm hc
  refine ⟨_, ?_, h2⟩
  have hlen : v'.cells.size = n := by rw [← Array.length_toList, ← hc.length]; exact Nat.eq_of_beq_eq_true hn
  simp [storeVar, sz_run hs, hlen, h1]
theorem newC_sound (hw : WR P m σ w) {ty b : Nat} {l : List SV} {l' : List Value} {σ' : St} (h : newC σ ty l = some (b, σ')) (hl : VRs m l l') :
    ∃ m', Post P m σ w m' σ' (w.alloc (.cells l'.toArray ty)) ∧ m' b = some ⟨w.heap.size, 0, l'.length⟩ := by
  unfold newC at h
  split at h
  case h_2 => cases h
  rename_i h1
  cases h
  refine ⟨_, Post.new hw _ _ l'.length ?_, upd_same ..⟩
  refine .cells (by simp) (by simp [hl.length]) ⟨rfl, rfl⟩ fun k hk => ?_
  obtain ⟨u, hu⟩ : ∃ u, l[k]? = some u := ⟨_, List.getElem?_eq_getElem hk⟩
  obtain ⟨u', hu', hr⟩ := hl.get _ _ hu
  exact ⟨u', by simpa using hu', by rw [fromL_get hu]; exact .inl hr, .inl (hr.one (List.all_eq_true.1 h1 u (List.mem_of_getElem? hu)))⟩

/-! operands -/
structure FrR (m : Mp) (fr : Fr) (a : Act) : Prop where
  tm : ∀ t, VR m (fr.tm.get .undef t) (a.tmps.getD t undef)
theorem FrR.mono {m m' : Mp} (h : Mle m m') {fr : Fr} {a : Act} (k : FrR m fr a) : FrR m' fr a := ⟨fun t => (k.tm t).mono h⟩
theorem ev_sound (hw : WR P m σ w) {fr : Fr} {a : Act} (hf : FrR m fr a) {x : Operand} {v : SV} (h : ev P σ fr x = some v) : VR m v (a.eval x) := by
  unfold ev at h
  split at h
  · cases h; exact hf.tm _
  · exact cv_sound _ _ _ h
  · rename_i g
    split at h
    case h_2 => cases h
    rename_i hg
    split at h
    · cases h; exact .opq _
    · rename_i hd
      cases h
      obtain ⟨im, him⟩ := hw.live g hd
      obtain ⟨h1, h2⟩ := hw.glob g im (Nat.le_of_ble_eq_true hg) him
      have := VR.ptr (m := m) (off := 0) him
      rw [h1, h2] at this
      exact this
  · cases h; exact .func .nil .nil
theorem evL_sound (hw : WR P m σ w) {fr : Fr} {a : Act} (hf : FrR m fr a) : ∀ {xs : List Operand} {vs : List SV}, evL P σ fr xs = some vs → VRs m vs (xs.map a.eval)
  | [], vs, h => by unfold evL at h; cases h; exact .nil
  | x :: xs, vs, h => by
    unfold evL at h
    split at h
    · rename_i v hv
      split at h
      · rename_i k hk; cases h; exact .cons (ev_sound hw hf hv) (evL_sound hw hf hk)
      · cases h
    · cases h
inductive PRs (m : Mp) : List (Nat × SV) → List (Nat × Value) → Prop
  | nil : PRs m [] []
  | cons {i : Nat} {v : SV} {v' : Value} {l : List (Nat × SV)} {l' : List (Nat × Value)} (h : VR m v v') (hs : PRs m l l') : PRs m ((i, v) :: l) ((i, v') :: l')
theorem evP_sound (hw : WR P m σ w) {fr : Fr} {a : Act} (hf : FrR m fr a) : ∀ {xs : List (Nat × Operand)} {vs : List (Nat × SV)}, evP P σ fr xs = some vs → PRs m vs (xs.map fun p => (p.1, a.eval p.2))
  | [], vs, h => by unfold evP at h; cases h; exact .nil
  | (i, x) :: xs, vs, h => by
    unfold evP at h
    split at h
    · rename_i v k hv hk; cases h; exact .cons (ev_sound hw hf hv) (evP_sound hw hf hk)
    · cases h
end
end Go.YtjighphlkcedhaaDoorEv
