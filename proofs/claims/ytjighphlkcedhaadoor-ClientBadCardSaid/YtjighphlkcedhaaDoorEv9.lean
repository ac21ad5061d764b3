/- An evaluator for the program's own code: append and copy. (text 9) -/
import Derived.Test.YtjighphlkcedhaaDoorEv8
import Derived.Laws.NewFold
set_option linter.unusedVariables false
set_option linter.unusedSimpArgs false
namespace Go.YtjighphlkcedhaaDoorEv
open Go
set_option linter.unusedSectionVars false
variable [Lane]

section
variable {P : Program} {m : Mp} {σ : St} {w : World}
theorem bytes_VRs : ∀ (l : List UInt8), VRs m ((l.map UInt8.toNat).map fun b => SV.int .u8 (.ofNat b)) (l.map fun b => Value.int .u8 (b.toNat : Int))
  | [] => .nil
  | b :: l => .cons (.int ..) (bytes_VRs l)
theorem bytesOf_pk (l : List UInt8) : bytesOf l.length (pk l) = (l.map UInt8.toNat).map fun b => SV.int .u8 (.ofNat b) := by
  unfold bytesOf; rw [unpk_pk]
theorem laneAt_one {i : Nat} {l k : List SV} (h : laneAt i [.lan l] = some k) : ∃ a, l[i]? = some a ∧ k = [a] := by
  unfold laneAt at h
  split at h
  · rename_i a b ha hb
    cases h
    cases hb
    exact ⟨a, ha, rfl⟩
  · cases h
theorem VR.lan_str {l : List SV} {n p : Nat} {x' : Value} (h : VR m (.lan l) x') (hl : l[Lane.x]? = some (.str n p)) : ∃ s, x' = .string s ∧ s.size = n ∧ pk s.data.toList = p := by
  obtain ⟨a, e1, e2, -⟩ := h.lan_inv
  rw [hl] at e1
  cases e1
  cases e2 with
  | str hn hp => exact ⟨_, rfl, hn, hp⟩
theorem bytesLF_ok {l : List SV} {n : Nat} {s : ByteArray} (hx : VR m (.lan l) (.string s)) : ∀ {k i : Nat} {cs : List SV}, bytesLF (.lan l) n k i = some cs →
    cs.length = k ∧ (k ≠ 0 → s.size = n) ∧ ∀ j, j < k → ∃ u, ∃ hj : i + j < s.data.toList.length, cs[j]? = some u ∧ Wider u (.int .u8 (.ofNat (s.data.toList[i + j]).toNat))
  | 0, i, cs, h => by cases h; exact ⟨rfl, fun h => (h rfl).elim, fun j hj => by omega⟩
  | k + 1, i, cs, h => by
    unfold bytesLF at h
    split at h
    case h_2 => cases h
    rename_i v vs hv hvs
    cases h
    obtain ⟨h1, h2, h3⟩ := bytesLF_ok hx hvs
    obtain ⟨kk, u, hk, hf, hwd, hla⟩ := lanes_ok hv (.cons hx .nil)
    obtain ⟨a, e1, rfl⟩ := laneAt_one hla
    obtain ⟨a', e2, ha⟩ := hk.one_inv
    cases e2
    unfold byteAt at hf
    split at hf
    case h_2 => cases hf
    rename_i n0 p0 e
    cases e
    split at hf
    case h_2 => cases hf
    rename_i hn
    have hn := Nat.eq_of_beq_eq_true hn
    subst hn
    cases ha with
    | str hs hp =>
    unfold sAt at hf
    split at hf
    case h_2 => cases hf
    rename_i hi
    cases hf
    have hi : i < n0 := Nat.le_of_ble_eq_true hi
    have hi' : i < s.data.toList.length := by rw [← hs] at hi; exact hi
    refine ⟨by simp [h1], fun _ => hs, fun j hj => ?_⟩
    cases j with
    | zero =>
      refine ⟨v, hi', rfl, ?_⟩
      have e := pk_at (l := s.data.toList) (i := i) hi'
      rw [hp] at e
      rw [e] at hwd
      exact hwd
    | succ j =>
      obtain ⟨u, q1, q2, q3⟩ := h3 j (by omega)
      refine ⟨u, by omega, by simpa using q2, ?_⟩
      have : i + 1 + j = i + (j + 1) := by omega
      simpa [this] using q3
theorem lenV_lan {l : List SV} {n : Nat} {x' : Value} (hx : VR m (.lan l) x') (h : lenV (.lan l) = some n) : ∃ s, x' = .string s ∧ s.size = n := by
  simp only [lenV] at h
  split at h
  case h_2 => cases h
  rename_i n0 hl
  cases h
  obtain ⟨kk, u, hk, hf, hwd, -⟩ := lanes_ok hl (.cons hx .nil)
  obtain ⟨a, rfl, ha⟩ := hk.one_inv
  unfold lenF at hf
  split at hf
  case h_2 => cases hf
  rename_i n1 p1 e
  cases e
  cases hf
  cases ha with
  | str hs hp =>
    have := hwd m _ (.int ..)
    cases this
    exact ⟨_, rfl, hs⟩
theorem run_loadCells_zero (a : Addr) : (loadCells a 0).run P w = .ok #[] w := rfl
theorem srcC_sound (hw : WR P m σ w) {s n N : Nat} {x : SV} {x' : Value} {l : List SV} (hx : VR m x x') (h : srcC σ s x n = some l) (hN : lenV x = some N) (hn : n ≤ N) :
    ∃ l' : List Value, VRs m l l' ∧ l'.length = n * s ∧ (∀ v ∈ l', v.oneCell' = true) ∧ ∀ w2 : World, w2.cell? = w.cell? → (Builtin.firstCells s n x').run P w2 = .ok l'.toArray w2 := by
  unfold srcC at h
  split at h
  · cases h; cases hx
    exact ⟨[], .nil, by simp, fun v hv => (by cases hv), fun w2 _ => rfl⟩
  · rename_i b off len cap
    have hN : len = N := by simpa [lenV] using hN
    have key : ∃ im a c, x' = .slice (some a) len c ∧ m b = some im ∧ a.block = im.blk ∧ a.spot = none ∧ (c ≠ 0 → a.off = im.base + off) ∧ len ≤ c := by
      cases cap with
      | ex c => obtain ⟨im, a, e, h1, h2, h3, h4, h5⟩ := hx.ex_inv; exact ⟨im, a, c, e, h1, h2, h3, h4, h5⟩
      | op sz => obtain ⟨im, a, c, e, h1, h2, h3, h4, h5, _⟩ := hx.op_inv; exact ⟨im, a, c, e, h1, h2, h3, h4, h5⟩
    obtain ⟨im, a, c, rfl, hm, ha, hsp, hc, hl⟩ := key
    obtain ⟨l', hr, hlen, h1, hcell, _⟩ := loadC_run hw h hm
    refine ⟨l', hr, hlen, h1, fun w2 hw2 => ?_⟩
    show (loadCells a (n * s)).run P w2 = _
    by_cases h0 : n = 0
    · subst h0
      have : l' = [] := List.length_eq_zero_iff.1 (by simpa using hlen)
      subst this
      simp [run_loadCells_zero]
    · have : a = ⟨im.blk, im.base + off, none⟩ := by
        cases a; simp at ha hsp hc ⊢; exact ⟨ha, hc (by omega), hsp⟩
      subst this
      rw [← hlen]
      exact run_loadCells_list (P := P) (w := w2) _ l' (fun j v hj => by rw [hw2]; exact hcell j v hj)
  · rename_i mm p
    split at h
    · rename_i b1 b2
      have b1 := Nat.eq_of_beq_eq_true b1
      have b2 := Nat.le_of_ble_eq_true b2
      subst b1
      cases h; cases hx
      rename_i s hs hp
      have e : pk s.data.toList % 256 ^ n = pk (s.data.toList.take n) := pk_mod _ _
      have hlen : (s.data.toList.take n).length = n := by
        have : s.data.toList.length = s.size := rfl
        rw [List.length_take]; omega
      refine ⟨(s.data.toList.take n).map fun b => Value.int .u8 (b.toNat : Int), ?_, by rw [List.length_map, hlen, Nat.mul_one], ?_, fun w2 _ => ?_⟩
      · have := bytesOf_pk (s.data.toList.take n)
        rw [hlen] at this
        rw [← hp, e, this]
        exact bytes_VRs _
      · intro v hv
        obtain ⟨b, _, rfl⟩ := List.mem_map.1 hv
        rfl
      · show Result.ok _ _ = Result.ok _ _
        congr 1
        apply Array.ext'
        simp [ByteArray.data_extract, Array.toList_extract]
    · cases h
  · rename_i l0
    obtain ⟨s0, rfl, hs⟩ := lenV_lan hx hN
    split at h
    case h_2 => cases h
    rename_i mm b1 hm
    have b1 := Nat.eq_of_beq_eq_true b1
    subst b1
    split at h
    case h_2 => cases h
    obtain ⟨e1, e2, e3⟩ := bytesLF_ok hx h
    have hlen : (s0.data.toList.take n).length = n := by
      have : s0.data.toList.length = s0.size := rfl
      rw [List.length_take]; omega
    refine ⟨(s0.data.toList.take n).map fun b => Value.int .u8 (b.toNat : Int), ?_, by rw [List.length_map, hlen, Nat.mul_one], ?_, fun w2 _ => ?_⟩
    · refine VRs.of_get (by rw [e1, List.length_map, hlen]) fun j v v' hv hv' => ?_
      have hj : j < n := by rw [← e1]; exact (List.getElem?_eq_some_iff.1 hv).1
      obtain ⟨u, q1, q2, q3⟩ := e3 j hj
      rw [hv] at q2
      cases q2
      have q1' : j < s0.data.toList.length := by omega
      have e : v' = .int .u8 ((s0.data.toList[j]).toNat : Int) := by
        rw [List.getElem?_map, List.getElem?_take, if_pos hj, List.getElem?_eq_getElem q1'] at hv'
        simpa using hv'.symm
      subst e
      have := q3 m _ (.int ..)
      simpa using this
    · intro v hv
      obtain ⟨b, _, rfl⟩ := List.mem_map.1 hv
      rfl
    · show Result.ok _ _ = Result.ok _ _
      congr 1
      apply Array.ext'
      simp [ByteArray.data_extract, Array.toList_extract]
  · cases h
theorem grownCap_ge {w : World} {need old : Nat} {e : TypeId} : need ≤ grownCap w need old e := by
  unfold grownCap Question.cut; simp
theorem notInt {d : TypeDesc} (h : ∀ k, d ≠ .int k) : (match d with | .int _ => true | _ => false) = false := by
  cases d <;> first | rfl | exact absurd rfl (h _)
/-- 'append' in a new row. -/
theorem append_grow {sT xT ty e : TypeId} {i : TypeInfo} {z : Value} {d : TypeDesc} (ht : P.underlying sT = some (.slice e)) (hxT : P.underlying xT = some d) (hd : ∀ k, d ≠ .int k) (hi : P.info? e = some i) (hz : i.zero = some z)
    {base : Option Addr} {sLen sCap n : Nat} {x' : Value} {old new : List Value}
    (hold : ∀ w2 : World, w2.cell? = w.cell? → (Builtin.firstCells i.size sLen (.slice base sLen sCap)).run P w2 = .ok old.toArray w2)
    (hlen : (Builtin.lenOf x').run P w = .ok n w) (hnew : ∀ w2 : World, w2.cell? = w.cell? → (Builtin.firstCells i.size n x').run P w2 = .ok new.toArray w2)
    (hg : sCap < sLen + n) (hm : sLen + n ≤ 1000000) (hb : i.bytes ≤ 4096) :
    (Builtin.append_ #[sT, xT] ty #[.slice base sLen sCap, x']).run P w =
      .ok (.slice (some ⟨w.heap.size, 0, none⟩) (sLen + n) (grownCap w (sLen + n) sCap e))
        (w.drew.alloc (.cells ((old ++ new).toArray ++ Builtin.zeroCells z.cells (grownCap w (sLen + n) sCap e - (sLen + n))) e)) := by
  have hn : ¬ (sLen + n ≤ sCap) := by omega
  have h63' : ¬ (9223372036854775807 < ((sLen : Int) + (n : Int))) := by omega
  have hcap := nextslicecap_le hg
  have h48 : Builtin.nextslicecap (sLen + n) sCap * i.bytes ≤ 2 * (sLen + n) * i.bytes := Nat.mul_le_mul_right _ hcap
  have h49 : 2 * (sLen + n) * i.bytes ≤ 2000000 * 4096 := Nat.mul_le_mul (by omega) hb
  have h48' : ¬ (281474976710656 < Builtin.nextslicecap (sLen + n) sCap * i.bytes) := by omega
  have hf := hnew w.drew rfl
  have hfo := hold w.drew rfl
  have hd' := notInt hd
  unfold Builtin.append_
  simp [run_underlying' ht, run_underlying' hxT, hd', sizeOf, typeInfo, zeroValue, hi, hz, hlen, hn, h63', h48', Question.forced, hf, hfo, newRow, grownCap]
  congr 2
  apply Array.ext'
  simp
/-- 'append' where it stands. -/
theorem append_in {sT xT ty e : TypeId} {sz n sLen sCap : Nat} {d : TypeDesc} (ht : P.underlying sT = some (.slice e)) (hxT : P.underlying xT = some d) (hd : ∀ k, d ≠ .int k) (hs : @Go.YtjighphlkcedhaaDoorEv.sz P e = some sz)
    {base : Option Addr} {x' : Value} {new : List Value} {w' : World}
    (hlen : (Builtin.lenOf x').run P w = .ok n w) (hnew : (Builtin.firstCells sz n x').run P w = .ok new.toArray w)
    (hg : sLen + n ≤ sCap) (hst : ∀ a, base = some a → (storeCells (a.add (sLen * sz)) new).run P w = .ok () w') (h0 : base = none → w' = w) :
    (Builtin.append_ #[sT, xT] ty #[.slice base sLen sCap, x']).run P w = .ok (.slice base (sLen + n) sCap) w' := by
  have hd' := notInt hd
  unfold Builtin.append_
  cases base with
  | none =>
    have := h0 rfl
    subst this
    simp [run_underlying' ht, run_underlying' hxT, hd', sz_run hs, hlen, hg, hnew]
  | some a => simp [run_underlying' ht, run_underlying' hxT, hd', sz_run hs, hlen, hg, hnew, hst a rfl]
/-- A block gives way to another one that stands where it stood. -/
theorem Post.move (h : WR P m σ w) {b : Nat} {im : Im} (hm : m b = some im) (hd : (σ.get b).wr = true) (x : Blk) (im' : Im) (hbl : im'.blk = im.blk) (w' : World)
    (hos : w'.os = w.os) (ht : w'.tape = w.tape) (ho : w'.output = w.output) (hs : w'.heap.size = w.heap.size)
    (hk : ∀ B, B ≠ im.blk → w'.heap[B]? = w.heap[B]?) (hb : BR m im' x w'.heap[im.blk]?) : Post P m σ w (upd m σ.next im') ((σ.put b .dead).new x) w' := by
  have hle := h.le_upd im'
  have hnx : (σ.put b .dead).next = σ.next := rfl
  have hbn : b ≠ σ.next := fun e => by have := (h.dom _ _ hm).1; omega
  have hget : ∀ i, ((σ.put b .dead).new x).get i = if i = σ.next then x else if i = b then .dead else σ.get i := fun i => by
    rw [St.get_new, hnx, St.get_put]
  have hother : ∀ i jm, m i = some jm → i ≠ b → σ.get i ≠ .dead → jm.blk ≠ im.blk := fun i jm hi hib hdi e => hib (h.inj _ _ _ _ hi hm hdi (Blk.wr_live hd) e)
  refine ⟨⟨hle, fun i jm hi h0 => ?_⟩, ⟨fun i jm hi => ?_, fun i jm hi => ?_, fun i j jm km hi hj di dj e => ?_, fun i hi => ?_, fun g jm hg hi => ?_, ?_, fun W0 L hW => ?_⟩, by simp [St.new, hnx], ⟨hos, ht, ho, by omega, fun B hB hno => hk B (Ne.symm (hno _ _ hm hd))⟩, rfl, fun i jm hi di => by
    rw [hget, if_neg (fun e => by have := (h.dom _ _ hi).1; omega)] at di
    by_cases e2 : i = b
    · rw [if_pos e2] at di; cases di
    · rwa [if_neg e2] at di⟩
  · by_cases e : i = σ.next
    · subst e; rw [upd_same] at hi; cases hi; exact ⟨Nat.le_refl _, .inr ⟨b, im, hm, hd, hbl.symm⟩⟩
    · rw [upd_other _ e, h0] at hi; cases hi
  · by_cases e : i = σ.next
    · subst e; rw [upd_same] at hi; cases hi
      have := (h.dom _ _ hm).2
      exact ⟨by simp [St.new, hnx], by rw [hbl]; omega⟩
    · rw [upd_other _ e] at hi; have := h.dom _ _ hi; exact ⟨by simp [St.new, hnx]; omega, by omega⟩
  · rw [hget]
    by_cases e : i = σ.next
    · subst e; rw [upd_same] at hi; cases hi
      rw [if_pos rfl, hbl]; exact hb.mono hle
    · rw [upd_other _ e] at hi
      rw [if_neg e]
      by_cases e2 : i = b
      · rw [if_pos e2]; exact .dead
      · rw [if_neg e2]
        by_cases hdi : σ.get i = .dead
        · rw [hdi]; exact .dead
        · rw [hk _ (hother i jm hi e2 hdi)]; exact (h.blk _ _ hi).mono hle
  · rw [hget] at di dj
    by_cases ei : i = σ.next <;> by_cases ej : j = σ.next
    · rw [ei, ej]
    · subst ei; rw [upd_same] at hi; cases hi; rw [upd_other _ ej] at hj
      rw [if_neg ej] at dj
      by_cases e2 : j = b
      · rw [if_pos e2] at dj; exact absurd rfl dj
      · rw [if_neg e2] at dj; exact absurd (e.symm.trans hbl) (hother j km hj e2 dj)
    · subst ej; rw [upd_same] at hj; cases hj; rw [upd_other _ ei] at hi
      rw [if_neg ei] at di
      by_cases e2 : i = b
      · rw [if_pos e2] at di; exact absurd rfl di
      · rw [if_neg e2] at di; exact absurd (e.trans hbl) (hother i jm hi e2 di)
    · rw [upd_other _ ei] at hi; rw [upd_other _ ej] at hj
      rw [if_neg ei] at di; rw [if_neg ej] at dj
      by_cases e2 : i = b
      · rw [if_pos e2] at di; exact absurd rfl di
      · by_cases e3 : j = b
        · rw [if_pos e3] at dj; exact absurd rfl dj
        · rw [if_neg e2] at di; rw [if_neg e3] at dj
          exact h.inj _ _ _ _ hi hj di dj e
  · rw [hget] at hi
    by_cases e : i = σ.next
    · subst e; exact ⟨_, upd_same ..⟩
    · rw [if_neg e] at hi
      by_cases e2 : i = b
      · rw [if_pos e2] at hi; exact absurd rfl hi
      · rw [if_neg e2] at hi
        obtain ⟨jm, hjm⟩ := h.live _ hi
        exact ⟨jm, by rw [upd_other _ e]; exact hjm⟩
  · have hb := h.big
    rw [upd_other _ (by omega)] at hi
    exact h.glob _ _ hg hi
  · have := h.big; simp [St.new, hnx]; omega
  · obtain ⟨i1, i2, i3, i4⟩ := h.inv W0 L hW
    refine ⟨i1, by omega, fun i jm hi di => ?_, fun B hB => (hk B fun e => by have := i3 _ _ hm hd; omega).trans (i4 B hB)⟩
    by_cases e : i = σ.next
    · subst e; rw [upd_same] at hi; cases hi; rw [hbl]; exact i3 _ _ hm hd
    · rw [upd_other _ e] at hi
      rw [hget, if_neg e] at di
      by_cases e2 : i = b
      · rw [if_pos e2] at di; cases di
      · rw [if_neg e2] at di; exact i3 _ _ hi di
theorem Post.kill (h : WR P m σ w) {b : Nat} {im : Im} (hm : m b = some im) (hd : (σ.get b).wr = true) : Post P m σ w m (σ.put b .dead) w :=
  Post.put h hm hd .dead w rfl rfl rfl rfl (fun _ _ => rfl) .dead
theorem zeroCells_size (z : Array Value) (n : Nat) : (Builtin.zeroCells z n).size = n * z.size := by simp [Builtin.zeroCells]
theorem blkN_some {x : Blk} {ty nn fz : Nat} {c : Tr SV} (h : blkN x = some (ty, nn, fz, c)) : x = .cells ty nn fz c := by
  unfold blkN at h; split at h
  · cases h; rfl
  · cases h
theorem sz_info {e k : Nat} (h : sz P e = some k) : ∃ i, P.info? e = some i ∧ i.size = k ∧ P.bytesOf e = i.bytes := by
  unfold sz at h
  try simp only [und_eq, inf_eq, fnc_eq] at h
  cases hi : P.info? e with
  | none => rw [hi] at h; cases h
  | some i => rw [hi] at h; simp at h; exact ⟨i, rfl, h, by simp [Program.bytesOf, hi]⟩
/-- A new row that may grow. -/
theorem Post.row (hw : WR P m σ w) {e fz s N cap : Nat} {l : List SV} {l' : List Value} {z : Array Value} (hl : VRs m l l') (h1 : ∀ v ∈ l', v.oneCell' = true) (hlen : l'.length = N * s) (hz : z.size = s) (hcap : N ≤ cap) (hs : 0 < s) (n : Nat) (hn : n = l.length) (c : Tr SV)
    (hc : ∀ k v, l[k]? = some v → c.get .undef k = v) (hf : fz ≤ 1) :
    ∃ m', Post P m σ w m' (σ.new (.cells e n fz c)) (w.alloc (.cells (l'.toArray ++ Builtin.zeroCells z (cap - N)) e)) ∧ VR m' (.slice σ.next 0 N (.op s)) (.slice (some ⟨w.heap.size, 0, none⟩) N cap) := by
  have hsize : (l'.toArray ++ Builtin.zeroCells z (cap - N)).size = cap * s := by
    rw [Array.size_append, zeroCells_size, hz, List.size_toArray, hlen, ← Nat.add_mul]; congr 1; omega
  refine ⟨_, Post.new hw _ _ (cap * s) (.cells hsize (by rw [hsize, hn, hl.length, hlen, Nat.zero_add]; exact Nat.mul_le_mul_right _ hcap) ?_ fun k hk => ?_), .sliceOp (upd_same ..) rfl rfl (fun _ => rfl) hcap (by simp) hs⟩
  · match fz, hf with
    | 0, _ => exact ⟨rfl, rfl⟩
    | 1, _ => exact .inr (Nat.le_refl _)
  · subst hn
    obtain ⟨u, hu⟩ : ∃ u, l[k]? = some u := ⟨_, List.getElem?_eq_getElem hk⟩
    obtain ⟨u', hu', hr⟩ := hl.get _ _ hu
    have hk' : k < l'.length := by rw [← hl.length]; exact hk
    refine ⟨u', ?_, by rw [hc k u hu]; exact .inl hr, .inl (h1 _ (List.mem_of_getElem? hu'))⟩
    simp only [Nat.zero_add]
    rw [Array.getElem?_append_left (by simpa using hk')]
    simpa using hu'
end
end Go.YtjighphlkcedhaaDoorEv
