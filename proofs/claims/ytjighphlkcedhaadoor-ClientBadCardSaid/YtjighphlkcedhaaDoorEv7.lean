/- An evaluator for the program's own code: building, slices. (text 7) -/
import Derived.Test.YtjighphlkcedhaaDoorEv6
set_option linter.unusedVariables false
set_option linter.unusedSimpArgs false
namespace Go.YtjighphlkcedhaaDoorEv
open Go
set_option linter.unusedSectionVars false
variable [Lane]

/-! build -/
theorem foldl_set (off : Nat) : ∀ (vs : List Value) (k : Nat) (cs : Array Value), off + k + vs.length ≤ cs.size →
    ∃ r : Array Value, (vs.zipIdx k).foldl (fun cs (c, j) => cs.setIfInBounds (off + j) c) cs = r ∧ r.size = cs.size ∧
      ∀ i, r[i]? = if off + k ≤ i ∧ i < off + k + vs.length then vs[i - (off + k)]? else cs[i]?
  | [], k, cs, h => ⟨cs, rfl, rfl, fun i => by rw [if_neg (by simp only [List.length_nil]; omega)]⟩
  | v :: vs, k, cs, h => by
    simp only [List.length_cons] at h
    obtain ⟨r, hr, hs, hg⟩ := foldl_set off vs (k + 1) (cs.setIfInBounds (off + k) v) (by simp; omega)
    refine ⟨r, by simpa [List.zipIdx_cons] using hr, by simpa using hs, fun i => ?_⟩
    rw [hg]
    by_cases h2 : off + (k + 1) ≤ i ∧ i < off + (k + 1) + vs.length
    · rw [if_pos h2, if_pos (by simp only [List.length_cons]; omega)]
      have : i - (off + k) = (i - (off + (k + 1))) + 1 := by omega
      rw [this, List.getElem?_cons_succ]
    · rw [if_neg h2]
      by_cases e : i = off + k
      · subst e
        rw [if_pos (by simp only [List.length_cons]; omega), Array.getElem?_setIfInBounds_self_of_lt (by omega), Nat.sub_self]; rfl
      · rw [if_neg (by simp only [List.length_cons]; omega), Array.getElem?_setIfInBounds, if_neg (Ne.symm e)]
theorem foldl_set' (off : Nat) (vs cs : Array Value) (h : off + vs.size ≤ cs.size) :
    (vs.zipIdx.foldl (fun cs (c, j) => cs.setIfInBounds (off + j) c) cs).toList = cs.toList.take off ++ vs.toList ++ cs.toList.drop (off + vs.size) := by
  rw [← Array.foldl_toList, Array.toList_zipIdx]
  obtain ⟨r, hr, hs, hg⟩ := foldl_set off vs.toList 0 cs (by simpa using h)
  rw [hr]
  apply List.ext_getElem?
  intro i
  rw [Array.getElem?_toList, hg]
  simp only [Nat.add_zero, Array.length_toList]
  by_cases h1 : off ≤ i ∧ i < off + vs.size
  · rw [if_pos h1, List.getElem?_append_left (by simp; omega), List.getElem?_append_right (by simp; omega)]
    congr 1; simp; omega
  · rw [if_neg h1]
    by_cases h2 : i < off
    · rw [List.getElem?_append_left (by simp; omega), List.getElem?_append_left (by simp; omega), List.getElem?_take, if_pos h2, Array.getElem?_toList]
    · rw [List.getElem?_append_right (by simp; omega), List.getElem?_drop, Array.getElem?_toList]
      congr 1; simp; omega
section
variable {P : Program} {m : Mp} {σ : St} {w : World}
theorem fill_sound {place : Nat → Option (Nat × Nat)} {pl : List (Nat × Nat)} (hp : ∀ i p, pl[i]? = some p → place i = some p) :
    ∀ {parts : List (Nat × SV)} {parts' : List (Nat × Value)} {cells : List SV} {cells' : Array Value} {r : List SV}, PRs m parts parts' → VRs m cells cells'.toList →
      fillS pl cells parts = some r → ∃ r', Instr.fill place cells' parts' = some r' ∧ VRs m r r'.toList
  | [], [], cells, cells', r, .nil, hc, h => by unfold fillS at h; cases h; exact ⟨cells', rfl, hc⟩
  | (i, v) :: parts, (_, v') :: parts', cells, cells', r, .cons hv hs, hc, h => by
    unfold fillS at h
    split at h
    · cases h
    · rename_i off size hi
      split at h
      · rename_i h1 h2
        have h1 := Nat.eq_of_beq_eq_true h1
        have h2 := Nat.le_of_ble_eq_true h2
        have hvc := hv.cells
        have hl1 : v'.cells.size = size := by rw [← Array.length_toList, ← hvc.length]; exact h1
        have hl2 : off + v'.cells.size ≤ cells'.size := by rw [← Array.length_toList, ← Array.length_toList, ← hvc.length, ← hc.length]; exact h2
        have hcond : (v'.cells.size ≠ size || off + v'.cells.size > cells'.size) = false := by
          simp [hl1]; omega
        have hnew : VRs m (cells.take off ++ v.cells ++ cells.drop (off + size)) (v'.cells.zipIdx.foldl (fun cs (c, j) => cs.setIfInBounds (off + j) c) cells').toList := by
          rw [foldl_set' off _ _ hl2, hl1]
          exact ((hc.take off).append hvc).append (hc.drop _)
        obtain ⟨r', hr', hrr⟩ := fill_sound hp hs hnew h
        refine ⟨r', ?_, hrr⟩
        unfold Instr.fill
        rw [hp i _ hi]
        simp only [hcond]
        exact hr'
      · cases h
theorem placesS_sound : ∀ {fs : List Field} {pl : List (Nat × Nat)}, placesS P fs = some pl → (fs.mapM fun f => do pure (f.offset, ← sizeOf f.type) : Sem (List (Nat × Nat))).run P w = .ok pl w
  | [], pl, h => by unfold placesS at h; cases h; simp
  | f :: fs, pl, h => by
    unfold placesS at h
    split at h
    · rename_i n l hn hl
      cases h
      have ih := placesS_sound hl
      simp only [List.mapM_cons, Sem.run_bind, sz_run hn, Result.andThen_ok, Sem.run_pure, ih]
    · cases h
theorem placesA_get (size : Nat) : ∀ (n o i : Nat) (p : Nat × Nat), (placesA size n o)[i]? = some p → p = (o + i * size, size)
  | 0, o, i, p, h => by simp [placesA] at h
  | n + 1, o, 0, p, h => by simp [placesA] at h; subst h; simp
  | n + 1, o, i + 1, p, h => by
    simp only [placesA, List.getElem?_cons_succ] at h
    rw [placesA_get size n (o + size) i p h, Nat.succ_mul]; congr 1; omega
theorem buildV_sound {t : TypeId} {parts : List (Nat × SV)} {parts' : Array (Nat × Value)} {v : SV} (hp : PRs m parts parts'.toList) (h : buildV P t parts = some v) :
    ∃ v', (Instr.build t parts').run P w = .ok v' w ∧ VR m v v' := by
  unfold buildV at h
  try simp only [und_eq, inf_eq, fnc_eq] at h
  split at h
  · rename_i z fs hz hu
    obtain ⟨i, z', hi, hiz, hvz, hrun⟩ := zeroV_sound (m := m) (w := w) hz
    cases hpl : placesS P fs.toList with
    | none => rw [hpl] at h; cases h
    | some pl =>
      rw [hpl] at h
      simp only [Option.bind_some] at h
      cases hf : fillS pl z.cells parts with
      | none => rw [hf] at h; cases h
      | some r =>
        rw [hf] at h; cases h
        obtain ⟨r', hr', hrr⟩ := fill_sound (place := (pl.toArray[·]?)) (m := m) (fun i p hi => by simpa using hi) hp hvz.cells hf
        have hm : (fs.mapM fun f => do pure (f.offset, ← sizeOf f.type) : Sem (Array (Nat × Nat))).run P w = .ok pl.toArray w := by
          rw [Array.mapM_eq_mapM_toList, Sem.run_map, placesS_sound (w := w) hpl]; rfl
        refine ⟨.agg r', ?_, .agg hrr⟩
        unfold Instr.build
        simp only [Sem.run_bind, hrun, Result.andThen_ok, run_underlying' hu, hm]
        simp only [hr']
        rfl
  · rename_i z n e hz hu
    obtain ⟨i, z', hi, hiz, hvz, hrun⟩ := zeroV_sound (m := m) (w := w) hz
    cases hs : sz P e with
    | none => rw [hs] at h; cases h
    | some s =>
      rw [hs] at h
      simp only [Option.bind_some] at h
      cases hf : fillS (placesA s n 0) z.cells parts with
      | none => rw [hf] at h; cases h
      | some r =>
        rw [hf] at h; cases h
        obtain ⟨r', hr', hrr⟩ := fill_sound (place := fun i => some (i * s, s)) (m := m) (fun i p hi => by rw [placesA_get s n 0 i p hi, Nat.zero_add]) hp hvz.cells hf
        refine ⟨.agg r', ?_, .agg hrr⟩
        unfold Instr.build
        simp only [Sem.run_bind, hrun, Result.andThen_ok, run_underlying' hu, sz_run hs]
        simp only [hr']
        rfl
  · cases h
theorem repC_length (z : List SV) : ∀ n, (repC z n).length = n * z.length
  | 0 => by simp [repC]
  | n + 1 => by simp [repC, repC_length z n, Nat.succ_mul]; omega
theorem repC_get (z : List SV) : ∀ (n i : Nat), i < n * z.length → (repC z n)[i]? = z[i % z.length]?
  | 0, i, h => by simp at h
  | n + 1, i, h => by
    have hz : 0 < z.length := by
      rcases Nat.eq_zero_or_pos z.length with e | e
      · rw [e] at h; simp at h
      · exact e
    by_cases hi : i < z.length
    · rw [repC, List.getElem?_append_left hi, Nat.mod_eq_of_lt hi]
    · rw [repC, List.getElem?_append_right (by omega), repC_get z n (i - z.length) (by rw [Nat.succ_mul] at h; omega)]
      congr 1
      rw [← Nat.mod_eq_sub_mod (by omega)]
theorem rep_sound {z : List SV} {z' : Array Value} (hz : VRs m z z'.toList) (n s : Nat) (hs : z.length = s) :
    VRs m (repC z n) ((Array.range (n * s)).map (z'[· % z'.size]!)).toList := by
  have hl : z'.size = s := by rw [← Array.length_toList, ← hz.length]; exact hs
  refine VRs.of_get (by simp [repC_length, hs]) fun i v v' hi hv' => ?_
  have hin : i < n * s := by have := (List.getElem?_eq_some_iff.1 hi).1; rwa [repC_length, hs] at this
  rw [repC_get _ _ _ (by rw [hs]; exact hin), hs] at hi
  have hpos : 0 < s := by
    rcases Nat.eq_zero_or_pos s with e | e
    · rw [e] at hin; simp at hin
    · exact e
  have hlt : i % s < z'.size := by rw [hl]; exact Nat.mod_lt _ hpos
  simp [hin, hl] at hv'
  obtain ⟨u, hu, hr⟩ := hz.get _ _ hi
  rw [Array.getElem?_toList] at hu
  rw [getElem!_pos z' (i % s) hlt] at hv'
  rw [Array.getElem?_eq_getElem hlt] at hu
  cases hu
  rw [← hv']; exact hr
theorem buildSlice_sound (hw : WR P m σ w) {t e : TypeId} {n s : Nat} {parts : List (Nat × SV)} {parts' : Array (Nat × Value)} {z : SV} {cs : List SV} {b : Nat} {σ' : St}
    (hp : PRs m parts parts'.toList) (hu : P.underlying t = some (.slice e)) (hs : sz P e = some s) (hz : zeroV P e = some z) (h1 : z.cells.length = s) (h2 : n * s ≤ 16777216)
    (hf : fillS (placesA s n 0) (repC z.cells n) parts = some cs) (hn : newC σ e cs = some (b, σ')) :
    ∃ m' w' v', (Instr.buildSlice t n parts').run P w = .ok v' w' ∧ VR m' (.slice b 0 n (.ex n)) v' ∧ Post P m σ w m' σ' w' := by
  obtain ⟨i, z', hi, hiz, hvz, hrun⟩ := zeroV_sound (m := m) (w := w) hz
  have hl : z'.cells.size = s := by rw [← Array.length_toList, ← hvz.cells.length]; exact h1
  have hrep : VRs m (repC z.cells n) ((Array.range (n * s)).map ((if n * s = 0 then #[] else z'.cells)[· % (if n * s = 0 then #[] else z'.cells).size]!)).toList := by
    by_cases h0 : n * s = 0
    · have := rep_sound (m := m) hvz.cells n s h1
      rw [h0] at this ⊢
      simpa using this
    · rw [if_neg h0]; exact rep_sound hvz.cells n s h1
  obtain ⟨r', hr', hrr⟩ := fill_sound (place := fun i => some (i * s, s)) (m := m) (fun i p hi => by rw [placesA_get s n 0 i p hi, Nat.zero_add]) hp hrep hf
  obtain ⟨m', hpost, hm'⟩ := newC_sound hw hn hrr
  refine ⟨m', _, _, ?_, .sliceEx (a := ⟨w.heap.size, 0, none⟩) hm' rfl rfl (fun _ => rfl) (Nat.le_refl _), hpost⟩
  unfold Instr.buildSlice
  simp only [Sem.run_bind, run_underlying' hu, Result.andThen_ok, sz_run hs]
  rw [Sem.run_ite, if_neg (by omega)]
  by_cases h0 : n * s = 0
  · rw [if_pos h0] at hr' ⊢
    simp only [Sem.run_bind, Sem.run_pure, Result.andThen_ok, hr', newRow, run_newObj]
    rfl
  · rw [if_neg h0] at hr' ⊢
    simp only [Sem.run_bind, Sem.run_pure, hrun, Result.andThen_ok, hr', newRow, run_newObj]
    rfl
end
end Go.YtjighphlkcedhaaDoorEv
