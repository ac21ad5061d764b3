/- An evaluator for the program's own code: the library's functions without a Go body. (text 19) -/
import Derived.Test.YtleimaahdjljoaaDoorEv18
import Derived.Laws.Externs
import Derived.Lib.Bytealg
set_option linter.unusedVariables false
set_option linter.unusedSimpArgs false
namespace Go.YtleimaahdjljoaaDoorEv
open Go

theorem find_ib {fn : Func} (h : fn.name = "internal/bytealg.IndexByteString") : Extern.find fn = some Extern.BytealgIndexByte.indexByte := by
  unfold Extern.find
  simp only [h]
  have h1 : Extern.allGenericRows.lookup "internal/bytealg.IndexByteString" = none := by kernel_rfl
  have h2 : Extern.allTypedRows.lookup "internal/bytealg.IndexByteString" = none := by kernel_rfl
  have h3 : Extern.allRows.lookup "internal/bytealg.IndexByteString" = some Extern.BytealgIndexByte.indexByte := by kernel_rfl
  rw [h1, h2, h3]; rfl
theorem find_cs {fn : Func} (h : fn.name = "internal/bytealg.CountString") : Extern.find fn = some Extern.BytealgCount.count := by
  unfold Extern.find
  simp only [h]
  have h1 : Extern.allGenericRows.lookup "internal/bytealg.CountString" = none := by kernel_rfl
  have h2 : Extern.allTypedRows.lookup "internal/bytealg.CountString" = none := by kernel_rfl
  have h3 : Extern.allRows.lookup "internal/bytealg.CountString" = some Extern.BytealgCount.count := by kernel_rfl
  rw [h1, h2, h3]; rfl
theorem indexNat_find (c : UInt8) : ∀ (l : List UInt8) (k : Nat) (f : Nat → UInt8), (∀ (i : Nat) (b : UInt8), l[i]? = some b → f (k + i) = b) →
    (List.range' k l.length).find? (fun i => f i == c) = indexNat c.toNat (l.map UInt8.toNat) k
  | [], k, f, h => rfl
  | b :: l, k, f, h => by
    rw [List.length_cons, List.range'_succ, List.find?_cons, List.map_cons, indexNat]
    have h0 := h 0 b rfl
    rw [Nat.add_zero] at h0
    rw [h0]
    have hb : Nat.beq b.toNat c.toNat = (b == c) := by rw [Bool.eq_iff_iff]; simp [← UInt8.toNat_inj]
    rw [hb]
    cases b == c with
    | true => rfl
    | false =>
      simp only []
      exact indexNat_find c l (k + 1) f fun i b' hb' => by
        have := h (i + 1) b' (by simpa using hb')
        rwa [show k + (i + 1) = k + 1 + i by omega] at this
theorem countNat_count (c : UInt8) : ∀ (l : List UInt8) (n : Nat), countNat c.toNat (l.map UInt8.toNat) n = n + Lib.countByte l c
  | [], n => by simp [countNat, Lib.countByte]
  | b :: l, n => by
    have hb : Nat.beq b.toNat c.toNat = (b == c) := by rw [Bool.eq_iff_iff]; simp [← UInt8.toNat_inj]
    rw [List.map_cons, countNat, hb]
    unfold Lib.countByte
    rw [List.count_cons]
    cases b == c with
    | true => simp only []; rw [countNat_count c l]; unfold Lib.countByte; simp; omega
    | false => simp only []; rw [countNat_count c l]; unfold Lib.countByte; simp
theorem toNat_toUInt8 {c : Nat} (h : c ≤ 255) : (c.toUInt8).toNat = c := by
  show (UInt8.ofNat c).toNat = c
  rw [UInt8.toNat_ofNat']; omega
theorem extOk (P : Program) : ExtOk P := by
  intro f k m w l l' v hb hk hl he
  unfold known at hk
  split at hk
  case h_2 => cases hk
  rename_i fn hf
  split at hk
  case h_2 => cases hk
  rename_i hc
  simp only [Bool.and_eq_true] at hc
  have hn : Extern.findNext fn = none := by simpa using hc.2
  have two : ∀ {n p : Nat} {c : Nat}, VRs m [.str n p, .int .u8 (.ofNat c)] l'.toList → ∃ s : ByteArray, l' = #[.string s, .int .u8 (.ofNat c)] ∧ s.size = n ∧ pk s.data.toList = p := by
    intro n p c h
    cases l' with
    | mk l0 =>
      cases h with
      | cons h1 h2 =>
        cases h2 with
        | cons h3 h4 =>
          cases h4; cases h3; cases h1
          rename_i s hn hp
          exact ⟨s, rfl, hn, hp⟩
  unfold extS at he
  split at he
  · rename_i n p c
    split at he
    case h_2 => cases he
    rename_i hc255
    have hc255 := Nat.le_of_ble_eq_true hc255
    injection he with he
    subst he
    have hname : fn.name = "internal/bytealg.IndexByteString" := by
      split at hk
      · rename_i h; simpa using h
      · split at hk
        · cases hk
        · split at hk <;> cases hk
    obtain ⟨s, rfl, hs, hp⟩ := two hl
    have hrun := run_callFunc_extern (P := P) hf (by rw [hname]; rfl) hc.1 hn (find_ib hname) #[.string s, .int .u8 (.ofNat c)] w
    rw [run_indexByte_string, Result.andThen_ok] at hrun
    refine ⟨_, hrun, ?_⟩
    have hsz : s.data.toList.length = s.size := rfl
    have hu := unpk_pk s.data.toList
    rw [hsz, hs, hp] at hu
    have hcc : (Int.ofNat c).toNat.toUInt8.toNat = c := toNat_toUInt8 hc255
    have hf := indexNat_find (Int.ofNat c).toNat.toUInt8 s.data.toList 0 (fun i => s[i]!) (fun i b hb => by
      rw [Nat.zero_add]
      have hlt : i < s.size := (List.getElem?_eq_some_iff.1 hb).1
      rw [getElem!_pos s i hlt]
      have := (List.getElem?_eq_some_iff.1 hb).2
      rw [← this]; rfl)
    rw [hcc, ← hu, hsz, ← List.range_eq_range'] at hf
    unfold firstIdx
    rw [hf]
    cases indexNat c (unpk n p) 0 with
    | some i => exact .int ..
    | none => exact .int ..
  · rename_i n p c
    split at he
    case h_2 => cases he
    rename_i hc255
    have hc255 := Nat.le_of_ble_eq_true hc255
    injection he with he
    subst he
    have hname : fn.name = "internal/bytealg.CountString" := by
      split at hk
      · cases hk
      · split at hk
        · rename_i h; simpa using h
        · split at hk <;> cases hk
    obtain ⟨s, rfl, hs, hp⟩ := two hl
    have hrun := run_callFunc_extern (P := P) hf (by rw [hname]; rfl) hc.1 hn (find_cs hname) #[.string s, .int .u8 (.ofNat c)] w
    rw [Lib.run_countString, Result.andThen_ok] at hrun
    refine ⟨_, hrun, ?_⟩
    have hsz : s.data.toList.length = s.size := rfl
    have hu := unpk_pk s.data.toList
    rw [hsz, hs, hp] at hu
    have hcc : (Int.ofNat c).toNat.toUInt8.toNat = c := toNat_toUInt8 hc255
    have hcn := countNat_count (Int.ofNat c).toNat.toUInt8 s.data.toList 0
    rw [hcc, ← hu, Nat.zero_add] at hcn
    rw [hcn]
    exact .int ..
  · cases he
end Go.YtleimaahdjljoaaDoorEv
