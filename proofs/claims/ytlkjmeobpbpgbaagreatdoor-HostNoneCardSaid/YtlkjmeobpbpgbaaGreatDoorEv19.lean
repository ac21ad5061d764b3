/- An evaluator for the program's own code: the library's functions without a Go body. (text 19) -/
import Derived.Test.YtlkjmeobpbpgbaaGreatDoorEv18
import Derived.Laws.Externs
import Derived.Lib.Bytealg
import Derived.Lib.BytesEntry
set_option linter.unusedVariables false
set_option linter.unusedSimpArgs false
namespace Go.YtlkjmeobpbpgbaaGreatDoorEv
open Go

theorem find_ibs {fn : Func} (h : fn.name = "internal/bytealg.IndexByte") : Extern.find fn = some Extern.BytealgIndexByte.indexByte := by
  unfold Extern.find
  simp only [h]
  have h1 : Extern.allGenericRows.lookup "internal/bytealg.IndexByte" = none := by kernel_rfl
  have h2 : Extern.allTypedRows.lookup "internal/bytealg.IndexByte" = none := by kernel_rfl
  have h3 : Extern.allRows.lookup "internal/bytealg.IndexByte" = some Extern.BytealgIndexByte.indexByte := by kernel_rfl
  rw [h1, h2, h3]; rfl
theorem libIdx (c : UInt8) : ∀ (l : List UInt8) (k : Nat), idxV (indexNat c.toNat (l.map UInt8.toNat) k) = if Lib.indexByte l c = -1 then -1 else Lib.indexByte l c + k
  | [], k => rfl
  | b :: l, k => by
    have hb : Nat.beq b.toNat c.toNat = (b == c) := by rw [Bool.eq_iff_iff]; simp [← UInt8.toNat_inj]
    have ih := libIdx c l (k + 1)
    have hge : -1 ≤ Lib.indexByte l c := by
      clear ih
      induction l with
      | nil => exact Int.le_refl _
      | cons a l ih =>
        unfold Lib.indexByte
        split
        · omega
        · split
          · omega
          · omega
    rw [List.map_cons, indexNat, hb]
    unfold Lib.indexByte
    cases hbc : b == c with
    | true => simp [idxV]
    | false =>
      simp only []
      rw [ih]
      by_cases e : Lib.indexByte l c = -1
      · simp [e]
      · simp [e]
        have : ¬ Lib.indexByte l c + 1 = -1 := by omega
        rw [if_neg this]
        omega
theorem find_ib {fn : Func} (h : fn.name = "internal/bytealg.IndexByteString") : Extern.find fn = some Extern.BytealgIndexByte.indexByte := by
  unfold Extern.find
  simp only [h]
  have h1 : Extern.allGenericRows.lookup "internal/bytealg.IndexByteString" = none := by kernel_rfl
  have h2 : Extern.allTypedRows.lookup "internal/bytealg.IndexByteString" = none := by kernel_rfl
  have h3 : Extern.allRows.lookup "internal/bytealg.IndexByteString" = some Extern.BytealgIndexByte.indexByte := by kernel_rfl
  rw [h1, h2, h3]; rfl
theorem find_cs {fn : Func} (h : fn.name = "internal/bytealg.CountString") : Extern.find fn = some Extern.BytealgCount.count := by
  unfold Extern.find
  simp only [h]
  have h1 : Extern.allGenericRows.lookup "internal/bytealg.CountString" = none := by kernel_rfl
  have h2 : Extern.allTypedRows.lookup "internal/bytealg.CountString" = none := by kernel_rfl
  have h3 : Extern.allRows.lookup "internal/bytealg.CountString" = some Extern.BytealgCount.count := by kernel_rfl
  rw [h1, h2, h3]; rfl
theorem indexNat_find (c : UInt8) : ∀ (l : List UInt8) (k : Nat) (f : Nat → UInt8), (∀ (i : Nat) (b : UInt8), l[i]? = some b → f (k + i) = b) →
    (List.range' k l.length).find? (fun i => f i == c) = indexNat c.toNat (l.map UInt8.toNat) k
  | [], k, f, h => rfl
  | b :: l, k, f, h => by
    rw [List.length_cons, List.range'_succ, List.find?_cons, List.map_cons, indexNat]
    have h0 := h 0 b rfl
    rw [Nat.add_zero] at h0
    rw [h0]
    have hb : Nat.beq b.toNat c.toNat = (b == c) := by rw [Bool.eq_iff_iff]; simp [← UInt8.toNat_inj]
    rw [hb]
    cases b == c with
    | true => rfl
    | false =>
      simp only []
      exact indexNat_find c l (k + 1) f fun i b' hb' => by
        have := h (i + 1) b' (by simpa using hb')
        rwa [show k + (i + 1) = k + 1 + i by omega] at this
theorem countNat_count (c : UInt8) : ∀ (l : List UInt8) (n : Nat), countNat c.toNat (l.map UInt8.toNat) n = n + Lib.countByte l c
  | [], n => by simp [countNat, Lib.countByte]
  | b :: l, n => by
    have hb : Nat.beq b.toNat c.toNat = (b == c) := by rw [Bool.eq_iff_iff]; simp [← UInt8.toNat_inj]
    rw [List.map_cons, countNat, hb]
    unfold Lib.countByte
    rw [List.count_cons]
    cases b == c with
    | true => simp only []; rw [countNat_count c l]; unfold Lib.countByte; simp; omega
    | false => simp only []; rw [countNat_count c l]; unfold Lib.countByte; simp
theorem toNat_toUInt8 {c : Nat} (h : c ≤ 255) : (c.toUInt8).toNat = c := by
  show (UInt8.ofNat c).toNat = c
  rw [UInt8.toNat_ofNat']; omega
theorem extOk (P : Program) : ExtOk P := by
  intro f k m σ w l l' v hb hk hw hl he
  unfold known at hk
  split at hk
  case h_2 => cases hk
  rename_i fn hf
  split at hk
  case h_2 => cases hk
  rename_i hc
  simp only [Bool.and_eq_true] at hc
  have hn : Extern.findNext fn = none := by simpa using hc.2
  have two : ∀ {n p : Nat} {c : Nat}, VRs m [.str n p, .int .u8 (.ofNat c)] l'.toList → ∃ s : ByteArray, l' = #[.string s, .int .u8 (.ofNat c)] ∧ s.size = n ∧ pk s.data.toList = p := by
    intro n p c h
    cases l' with
    | mk l0 =>
      cases h with
      | cons h1 h2 =>
        cases h2 with
        | cons h3 h4 =>
          cases h4; cases h3; cases h1
          rename_i s hn hp
          exact ⟨s, rfl, hn, hp⟩
  unfold extS at he
  split at he
  · rename_i b off n cap c
    split at he
    case h_2 => cases he
    rename_i cells hc255 hload
    have hc255 := Nat.le_of_ble_eq_true hc255
    split at he
    case h_2 => cases he
    rename_i p hp
    injection he with he
    subst he
    have hname : fn.name = "internal/bytealg.IndexByte" := by
      split at hk
      · rename_i h; simpa using h
      · split at hk
        · cases hk
        · split at hk
          · cases hk
          · split at hk <;> cases hk
    cases l' with | mk l0 =>
    cases hl with | cons h1 h2 =>
    cases h2 with | cons h3 h4 =>
    cases h4; cases h3
    obtain ⟨im, a, cp, rfl, hm, ha⟩ := h1.slice_inv
    obtain ⟨l1, hr1, hlen, hcell, hone⟩ := loadC_sound hw hload hm
    obtain ⟨bs, rfl, hpk⟩ := packOf_sound hr1 hp
    have hln : bs.length = n := by simpa using hlen
    have haddr : n ≠ 0 → a = ⟨im.blk, im.base + off, none⟩ := fun h0 => by
      obtain ⟨A, B, D⟩ := a
      have hall : D = none ∧ B = im.base + off := by
        cases cap with
        | ex c1 =>
          obtain ⟨im2, a2, e2, h2, h3, h4, h5, h6⟩ := h1.ex_inv
          rw [hm] at h2; cases h2
          cases e2
          exact ⟨h4, h5 (by omega)⟩
        | op s1 =>
          obtain ⟨im2, a2, c2, e2, h2, h3, h4, h5, h6, _⟩ := h1.op_inv
          rw [hm] at h2; cases h2
          cases e2
          exact ⟨h4, h5 (by omega)⟩
      obtain ⟨rfl, rfl⟩ := hall
      have ha : A = im.blk := ha
      rw [ha]
    have hrun := run_callFunc_extern (P := P) hf (by rw [hname]; rfl) hc.1 hn (find_ibs hname) #[.slice (some a) n cp, .int .u8 (.ofNat c)] w
    have hcc : (Int.ofNat c).toNat.toUInt8.toNat = c := toNat_toUInt8 hc255
    have hbytes : ∀ bs : List UInt8, Lib.bytesOf (bs.map fun b => (b.toNat : Int)) = bs := fun bs => by
      unfold Lib.bytesOf
      rw [List.map_map]
      conv => rhs; rw [← List.map_id bs]
      refine List.map_congr_left fun b _ => ?_
      show UInt8.ofNat (Int.toNat (b.toNat : Int)) = b
      simp
    have hsl : (Extern.BytealgIndexByte.indexByte #[.slice (some a) n cp, .int .u8 (.ofNat c)]).run P w = .ok (.int .i64 (Lib.indexByte bs (Int.ofNat c).toNat.toUInt8)) w := by
      by_cases h0 : n = 0
      · have hbs : bs = [] := by rw [h0] at hln; exact List.length_eq_zero_iff.1 hln
        subst hbs
        subst h0
        obtain ⟨A, B, D⟩ := a
        have : D = none := by
          cases cap with
          | ex c1 => obtain ⟨im2, a2, e2, _, _, h4, _⟩ := h1.ex_inv; cases e2; exact h4
          | op s1 => obtain ⟨im2, a2, c2, e2, _, _, h4, _⟩ := h1.op_inv; cases e2; exact h4
        subst this
        exact Lib.run_indexByteSlice (P := P) w A B 0 cp [] rfl (fun i hi => absurd hi (by omega)) (Int.ofNat c)
      · rw [haddr h0]
        have := Lib.run_indexByteSlice (P := P) w im.blk (im.base + off) n cp (bs.map fun b => (b.toNat : Int)) (by simpa using hln) (fun i hi => by
          have hib : i < bs.length := by omega
          rw [hcell i (.int .u8 (bs[i].toNat : Int)) (by simp [hib])]
          simp [List.getD_eq_getElem?_getD, hib]) (Int.ofNat c)
        rw [hbytes] at this
        exact this
    rw [hsl, Result.andThen_ok] at hrun
    refine ⟨_, hrun, ?_⟩
    have hu := unpk_pk bs
    rw [hln, hpk] at hu
    have hli := libIdx (Int.ofNat c).toNat.toUInt8 bs 0
    rw [hcc, ← hu] at hli
    have : idxV (indexNat c (unpk n p) 0) = Lib.indexByte bs (Int.ofNat c).toNat.toUInt8 := by
      rw [hli]
      split
      · rename_i h; exact h.symm
      · exact Int.add_zero _
    rw [this]
    exact .int ..
  · rename_i c
    injection he with he
    subst he
    have hname : fn.name = "internal/bytealg.IndexByte" := by
      split at hk
      · rename_i h; simpa using h
      · split at hk
        · cases hk
        · split at hk
          · cases hk
          · split at hk <;> cases hk
    cases l' with | mk l0 =>
    cases hl with | cons h1 h2 =>
    cases h2 with | cons h3 h4 =>
    cases h4; cases h3; cases h1
    have hrun := run_callFunc_extern (P := P) hf (by rw [hname]; rfl) hc.1 hn (find_ibs hname) #[.slice none 0 0, .int .u8 (.ofNat c)] w
    rw [Lib.run_indexByteNil, Result.andThen_ok] at hrun
    exact ⟨_, hrun, .int ..⟩
  · rename_i n p c
    split at he
    case h_2 => cases he
    rename_i hc255
    have hc255 := Nat.le_of_ble_eq_true hc255
    injection he with he
    subst he
    have hname : fn.name = "internal/bytealg.IndexByteString" := by
      split at hk
      · cases hk
      split at hk
      · rename_i h; simpa using h
      · split at hk
        · cases hk
        · split at hk <;> cases hk
    obtain ⟨s, rfl, hs, hp⟩ := two hl
    have hrun := run_callFunc_extern (P := P) hf (by rw [hname]; rfl) hc.1 hn (find_ib hname) #[.string s, .int .u8 (.ofNat c)] w
    rw [run_indexByte_string, Result.andThen_ok] at hrun
    refine ⟨_, hrun, ?_⟩
    have hsz : s.data.toList.length = s.size := rfl
    have hu := unpk_pk s.data.toList
    rw [hsz, hs, hp] at hu
    have hcc : (Int.ofNat c).toNat.toUInt8.toNat = c := toNat_toUInt8 hc255
    have hf := indexNat_find (Int.ofNat c).toNat.toUInt8 s.data.toList 0 (fun i => s[i]!) (fun i b hb => by
      rw [Nat.zero_add]
      have hlt : i < s.size := (List.getElem?_eq_some_iff.1 hb).1
      rw [getElem!_pos s i hlt]
      have := (List.getElem?_eq_some_iff.1 hb).2
      rw [← this]; rfl)
    rw [hcc, ← hu, hsz, ← List.range_eq_range'] at hf
    unfold firstIdx
    rw [hf]
    cases indexNat c (unpk n p) 0 with
    | some i => exact .int ..
    | none => exact .int ..
  · rename_i n p c
    split at he
    case h_2 => cases he
    rename_i hc255
    have hc255 := Nat.le_of_ble_eq_true hc255
    injection he with he
    subst he
    have hname : fn.name = "internal/bytealg.CountString" := by
      split at hk
      · cases hk
      split at hk
      · cases hk
      · split at hk
        · rename_i h; simpa using h
        · split at hk <;> cases hk
    obtain ⟨s, rfl, hs, hp⟩ := two hl
    have hrun := run_callFunc_extern (P := P) hf (by rw [hname]; rfl) hc.1 hn (find_cs hname) #[.string s, .int .u8 (.ofNat c)] w
    rw [Lib.run_countString, Result.andThen_ok] at hrun
    refine ⟨_, hrun, ?_⟩
    have hsz : s.data.toList.length = s.size := rfl
    have hu := unpk_pk s.data.toList
    rw [hsz, hs, hp] at hu
    have hcc : (Int.ofNat c).toNat.toUInt8.toNat = c := toNat_toUInt8 hc255
    have hcn := countNat_count (Int.ofNat c).toNat.toUInt8 s.data.toList 0
    rw [hcc, ← hu, Nat.zero_add] at hcn
    rw [hcn]
    exact .int ..
  · cases he
end Go.YtlkjmeobpbpgbaaGreatDoorEv
