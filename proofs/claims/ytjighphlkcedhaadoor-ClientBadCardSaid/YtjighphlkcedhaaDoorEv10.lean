/- An evaluator for the program's own code: append, put together. (text 10) -/
import Derived.Test.YtjighphlkcedhaaDoorEv9
set_option linter.unusedVariables false
set_option linter.unusedSimpArgs false
namespace Go.YtjighphlkcedhaaDoorEv
open Go
set_option linter.unusedSectionVars false
variable [Lane]

section
variable {P : Program} {m : Mp} {σ : St} {w : World}
theorem loadC_of {b off n ty nn fz : Nat} {c : Tr SV} (h : σ.get b = .cells ty nn fz c) (hle : off + n ≤ nn) (hrd : readable (lst c n off) = true) : loadC σ b off n = some (lst c n off) := by
  unfold loadC
  rw [h]
  simp only
  rw [show Nat.ble (off + n) nn = true from Nat.ble_eq_true_of_le hle, hrd]
theorem growS_sound (hw : WR P m σ w) {sT xT ty e k n : Nat} {d : TypeDesc} (ht : P.underlying sT = some (.slice e)) (hxT : P.underlying xT = some d) (hd : ∀ k, d ≠ .int k) (hsz : sz P e = some (k + 1))
    {s v : SV} {s' x' : Value} {new : List SV} {new' : List Value} {σ' : St} (hs : VR m s s') (hl : VRs m new new') (hlen : new'.length = n * (k + 1)) (h1 : ∀ v ∈ new', v.oneCell' = true)
    (hnew : ∀ w2 : World, w2.cell? = w.cell? → (Builtin.firstCells (k + 1) n x').run P w2 = .ok new'.toArray w2) (hlx : (Builtin.lenOf x').run P w = .ok n w) (hn : 0 < n)
    (h : growS P σ e k n new s = some (v, σ')) :
    ∃ m' w' v', (Builtin.append_ #[sT, xT] ty #[s', x']).run P w = .ok v' w' ∧ VR m' v v' ∧ Post P m σ w m' σ' w' := by
  obtain ⟨i, hi, hisz, hby⟩ := sz_info hsz
  unfold growS at h
  split at h
  · cases h
  rename_i z hz
  obtain ⟨i', z', hi', hiz, hvz, _⟩ := zeroV_sound (m := m) (w := w) hz
  rw [hi] at hi'; cases hi'
  have hnlen : new.length = n * (k + 1) := by rw [hl.length]; exact hlen
  split at h
  · rename_i b1 b2 b3
    have b1 := Nat.eq_of_beq_eq_true b1
    have b2 := Nat.le_of_ble_eq_true b2
    have hzs : z'.cells.size = k + 1 := by rw [← Array.length_toList, ← hvz.cells.length]; exact b1
    split at h
    · rename_i b4
      have b4 := Nat.le_of_ble_eq_true b4
      cases h; cases hs
      have hrun := append_grow (P := P) (w := w) (ty := ty) ht hxT hd hi hiz (base := none) (sLen := 0) (sCap := 0) (old := []) (new := new') (fun w2 _ => rfl) hlx (by rw [hisz]; exact hnew) (by omega) (by omega) (by omega)
      rw [List.nil_append] at hrun
      obtain ⟨m', hp, hv⟩ := Post.row (e := e) (fz := 0) (N := 0 + n) (cap := grownCap w (0 + n) 0 e) hw.drew hl h1 (by rw [Nat.zero_add]; exact hlen) hzs grownCap_ge (Nat.succ_pos k) new.length rfl (fromL new) (fun k v hk => fromL_get hk) (Nat.zero_le _)
      refine ⟨m', _, _, hrun, ?_, (Post.drew hw).trans hp⟩
      rw [Nat.zero_add] at hv ⊢
      exact hv
    · cases h
  · rename_i b off len cap b1 b2 b3
    have b1 := Nat.eq_of_beq_eq_true b1
    have b2 := Nat.le_of_ble_eq_true b2
    have hzs : z'.cells.size = k + 1 := by rw [← Array.length_toList, ← hvz.cells.length]; exact b1
    split at h
    case h_2 => cases h
    rename_i tyb nn fz c hblk b4
    have b4 := Nat.le_of_ble_eq_true b4
    have hblk := blkN_some hblk
    split at h
    · rename_i c0
      obtain ⟨im, a, rfl, hm, ha, hsp, hc, hle⟩ := hs.ex_inv
      split at h
      · rename_i b5
        have b5 := Nat.le_of_ble_eq_true b5
        cases hst : storeC σ b (off + len * (k + 1)) new with
        | none => rw [hst] at h; cases h
        | some σ1 =>
          rw [hst] at h
          cases h
          obtain ⟨hrun, hp⟩ := storeC_sound hw hst hm hl
          have haa : a = ⟨im.blk, im.base + off, none⟩ := by cases a; simp at ha hsp hc ⊢; exact ⟨ha, hc (by omega), hsp⟩
          refine ⟨m, _, _, append_in (P := P) (w := w) (ty := ty) ht hxT hd hsz hlx (hnew w rfl) b5 ?_ (fun e => by cases e), .sliceEx hm ha hsp hc b5, hp⟩
          intro a' ha'
          cases ha'
          rw [haa, Addr.add_none, Nat.add_assoc]
          exact hrun
      · rename_i b5
        have b5 : ¬ len + n ≤ c0 := fun h => by rw [show Nat.ble (len + n) c0 = true from Nat.ble_eq_true_of_le h] at b5; cases b5
        split at h
        case h_2 => cases h
        rename_i old hold
        split at h
        case h_2 => cases h
        rename_i b6
        cases h
        obtain ⟨old', ho, holen, ho1, hor⟩ := srcC_sound (s := k + 1) (n := len) (N := len) hw hs (by unfold srcC; exact hold) rfl (Nat.le_refl _)
        have hrun := append_grow (P := P) (w := w) (ty := ty) ht hxT hd hi hiz (base := some a) (sLen := len) (sCap := c0) (old := old') (new := new') (by rw [hisz]; exact hor) hlx (by rw [hisz]; exact hnew) (by omega) (by omega) (by omega)
        obtain ⟨m', hp, hv⟩ := Post.row (e := e) (fz := 0) (N := len + n) (cap := grownCap w (len + n) c0 e) hw.drew (ho.append hl) (fun v hv => (List.mem_append.1 hv).elim (ho1 v) (h1 v)) (by rw [List.length_append, holen, hlen, Nat.add_mul]) hzs grownCap_ge (Nat.succ_pos k) (old ++ new).length rfl (fromL (old ++ new)) (fun k v hk => fromL_get hk) (Nat.zero_le _)
        exact ⟨m', _, _, hrun, hv, (Post.drew hw).trans hp⟩
    · rename_i s0
      obtain ⟨im, a, cp, rfl, hm, ha, hsp, hc, hle, htot, hz0⟩ := hs.op_inv
      have hB := hw.blk _ _ hm
      rw [hblk] at hB
      split at h
      · rename_i b5 b6 b7
        have b5 := Nat.eq_of_beq_eq_true b5
        have b7 := Nat.le_of_ble_eq_true b7
        subst b5
        have hcap : len + n ≤ cp := by
          generalize w.heap[im.blk]? = o at hB
          cases hB with
          | cells ht' hn' hf' hv' =>
            have h2 : (len + n) * (k + 1) ≤ cp * (k + 1) := by rw [Nat.add_mul]; omega
            exact Nat.le_of_mul_le_mul_right h2 (Nat.succ_pos k)
        cases hst : storeC σ b (off + len * (k + 1)) new with
        | none => rw [hst] at h; cases h
        | some σ1 =>
          rw [hst] at h
          cases h
          obtain ⟨hrun, hp⟩ := storeC_sound hw hst hm hl
          have haa : a = ⟨im.blk, im.base + off, none⟩ := by cases a; simp at ha hsp hc ⊢; exact ⟨ha, hc (by omega), hsp⟩
          refine ⟨m, _, _, append_in (P := P) (w := w) (ty := ty) ht hxT hd hsz hlx (hnew w rfl) hcap ?_ (fun e => by cases e), .sliceOp hm ha hsp hc hcap htot hz0, hp⟩
          intro a' ha'
          cases ha'
          rw [haa, Addr.add_none, Nat.add_assoc]
          exact hrun
      · rename_i b5 b6 b7
        have b5 := Nat.eq_of_beq_eq_true b5
        have b6 := Nat.eq_of_beq_eq_true b6
        subst b5
        subst b6
        -- what the new block holds, here
        have key : ∀ (x : Blk) (base' off' : Nat) (cc : Tr SV) (N : Nat) (l : List SV), fz ≤ 1 → off + len * (k + 1) = nn → loadC σ b off (len * (k + 1)) = some l → x = .cells tyb N fz cc → N = off' + (l ++ new).length → base' + off' = im.base + off →
            (∀ j, j < off' → ∃ v, (∃ C lo hi, w.heap[im.blk]? = some (.cells C tyb (lo, hi)) ∧ C[base' + j]? = some v) ∧ VR m (cc.get .undef j) v ∧ v.oneCell' = true) →
            (∀ j v, (l ++ new)[j]? = some v → cc.get .undef (off' + j) = v) → off' = 0 ∨ True → 
            v = .slice σ.next off' (len + n) (.op (k + 1)) → σ' = (σ.put b .dead).new x → off' = 0 →
            ∃ m' w' v', (Builtin.append_ #[sT, xT] ty #[.slice (some a) len cp, x']).run P w = .ok v' w' ∧ VR m' v v' ∧ Post P m σ w m' σ' w' := by
          intro x base' off' cc N l hfz hend hload hx hN hbase hlow hcc _ hv hσ' hoff
          subst hv hσ' hx hoff
          obtain ⟨old', ho, holen, ho1, hor⟩ := srcC_sound (s := k + 1) (n := len) (N := len) hw hs (by unfold srcC; exact hload) rfl (Nat.le_refl _)
          have hll := ho.length
          by_cases hin : len + n ≤ cp
          · have haa : a = ⟨im.blk, im.base + off, none⟩ := by cases a; simp at ha hsp hc ⊢; exact ⟨ha, hc (by omega), hsp⟩
            generalize hob : w.heap[im.blk]? = o at hB
            cases hB with
            | cells ht' hn' hf' hv' =>
              rename_i lo hi C
              have hmul : (len + n) * (k + 1) ≤ cp * (k + 1) := Nat.mul_le_mul_right _ hin
              rw [Nat.add_mul] at hmul
              have hfit : im.base + nn + new'.length ≤ C.size := by rw [hlen]; omega
              obtain ⟨C', hc', hs', hg'⟩ := setCells_heap im.blk (im.base + nn) new' w C _ lo hi hob hfit
              obtain ⟨a1, a2, a3, a4⟩ := setCells_size im.blk (im.base + nn) new' w
              have hrun : (storeCells (a.add (len * (k + 1))) new').run P w = .ok () (w.setCells im.blk (im.base + nn) new') := by
                rw [haa, Addr.add_none, Nat.add_assoc, hend]
                have := run_storeCells_cells (P := P) im.blk (im.base + nn) new' 0 w ?_ ?_ h1
                · simpa using this
                · intro j hj
                  rw [cell_of hob]
                  simp; omega
                · intro j hj
                  rw [frozen_of hob]
                  exact hf'.not_frozen hfz (by omega)
              refine ⟨_, _, _, append_in (P := P) (w := w) (ty := ty) ht hxT hd hsz hlx (hnew w rfl) hin (fun a' ha' => by cases ha'; exact hrun) (fun e => by cases e), .sliceOp (upd_same ..) (im := ⟨im.blk, base', im.tot⟩) ha hsp ?_ hin ?_ hz0,
                Post.move hw hm (by rw [hblk]; exact Blk.wr_cells hfz) _ ⟨im.blk, base', im.tot⟩ rfl _ a2 a3 a4 a1 (fun B hB => setCells_heap_other _ _ _ _ _ hB) ?_⟩
              · intro hcp; rw [hc hcp]; show _ = base' + 0; omega
              · show base' + 0 + cp * (k + 1) = im.tot; omega
              · rw [hc']
                refine .cells (hs'.trans ht') ?_ (by rw [hs']; exact hf') fun j hj => ?_
                · show base' + N ≤ _
                  rw [hN, hs', List.length_append, hll, holen, hnlen]; omega
                · show ∃ v, C'[base' + j]? = some v ∧ _
                  rw [hN, List.length_append, hll, holen, hnlen] at hj
                  rw [hg']
                  by_cases hjn : j < len * (k + 1)
                  · rw [if_neg (by omega)]
                    have hbj : base' + j = im.base + (off + j) := by omega
                    obtain ⟨u, hu, hr, ho'⟩ := hv' (off + j) (by omega)
                    refine ⟨u, by rw [hbj]; exact hu, ?_⟩
                    obtain ⟨ty2, nn2, fz2, c2, hb2, hle2, hl2⟩ := loadC_eq hload
                    rw [hblk] at hb2; cases hb2
                    have hlj : (l ++ new)[j]? = some (c.get .undef (off + j)) := by
                      rw [List.getElem?_append_left (by rw [hll, holen]; exact hjn), hl2, lst_get _ _ _ _ hjn]
                    have hcj := hcc _ _ hlj
                    rw [Nat.zero_add] at hcj
                    rw [hcj]; exact ⟨hr, ho'⟩
                  · have hidx : base' + j - (im.base + nn) = j - len * (k + 1) := by omega
                    rw [if_pos (by rw [hlen]; omega), hidx]
                    obtain ⟨u, hu⟩ : ∃ u, new[j - len * (k + 1)]? = some u := ⟨_, List.getElem?_eq_getElem (by rw [hnlen]; omega)⟩
                    obtain ⟨u', hu', hr⟩ := hl.get _ _ hu
                    refine ⟨u', hu', ?_, .inl (h1 _ (List.mem_of_getElem? hu'))⟩
                    have hlj : (l ++ new)[j]? = some u := by
                      rw [List.getElem?_append_right (by rw [hll, holen]; omega), hll, holen]; exact hu
                    have hcj := hcc _ _ hlj
                    rw [Nat.zero_add] at hcj
                    rw [hcj]; exact .inl hr
          · have hrun := append_grow (P := P) (w := w) (ty := ty) ht hxT hd hi hiz (base := some a) (sLen := len) (sCap := cp) (old := old') (new := new') (by rw [hisz]; exact hor) hlx (by rw [hisz]; exact hnew) (by omega) (by omega) (by omega)
            have hk := Post.kill hw hm (by rw [hblk]; exact Blk.wr_cells hfz)
            obtain ⟨m', hp, hv⟩ := Post.row (e := tyb) (fz := fz) (N := len + n) (cap := grownCap w (len + n) cp tyb) hk.wr.drew (ho.append hl) (fun v hv => (List.mem_append.1 hv).elim (ho1 v) (h1 v)) (by rw [List.length_append, holen, hlen, Nat.add_mul]) hzs grownCap_ge (Nat.succ_pos k) N (by rw [hN, Nat.zero_add]) cc (fun j v hj => by have := hcc j v hj; rwa [Nat.zero_add] at this) hfz
            exact ⟨m', _, _, hrun, hv, (hk.trans (Post.drew hk.wr)).trans hp⟩
        split at h
        · rename_i b8 b9 b10
          have b8 := Nat.eq_of_beq_eq_true b8
          have b9 := Nat.le_of_ble_eq_true b9
          rw [Bool.and_eq_true] at b10
          obtain ⟨b10, b11⟩ := b10
          have b10 := Nat.eq_of_beq_eq_true b10
          subst b10
          cases h
          have hload := loadC_of (off := 0) (n := len * (k + 1)) hblk (by omega) (by rw [show len * (k + 1) = nn by omega]; exact b11)
          refine key _ im.base 0 (putL new c nn) _ _ b9 b8 hload rfl ?_ (by omega) (fun j hj => by omega) ?_ (.inr trivial) rfl rfl rfl
          · rw [List.length_append, lst_length]; omega
          · intro j v hj
            rw [Nat.zero_add]
            by_cases hjn : j < len * (k + 1)
            · rw [List.getElem?_append_left (by rw [lst_length]; exact hjn), lst_get _ _ _ _ hjn] at hj
              rw [putL_out (by omega)]
              cases hj; rw [Nat.zero_add]
            · rw [List.getElem?_append_right (by rw [lst_length]; omega), lst_length] at hj
              have : j = nn + (j - len * (k + 1)) := by omega
              rw [this]; exact putL_in hj
        · rename_i b8 b9 b10
          have b8 := Nat.eq_of_beq_eq_true b8
          have b9 := Nat.le_of_ble_eq_true b9
          split at h
          · rename_i old hold
            cases h
            exact key _ (im.base + off) 0 (fromL (old ++ new)) _ _ b9 b8 hold rfl (by rw [Nat.zero_add]) (by omega) (fun j hj => by omega) (fun j v hj => by rw [Nat.zero_add]; exact fromL_get hj) (.inr trivial) rfl rfl rfl
          · cases h
        · cases h
      · cases h
  · cases h
end
end Go.YtjighphlkcedhaaDoorEv
