/- An evaluator for the program's own code: what is known of some of the library's functions without running them. (text 21) -/
import Derived.Test.YtjighphlkcedhaaDoorEv20
import Derived.Lib.Index
import Derived.Below
import Derived.Lib.Repeat
import Derived.Lib.Join
import Derived.Lib.LaidTab
import Derived.Shelf.Strconv.Itoa3
set_option linter.unusedVariables false
set_option linter.unusedSimpArgs false
namespace Go.YtjighphlkcedhaaDoorEv
open Go Go.RowKit
set_option linter.unusedSectionVars false
variable [Lane]

noncomputable def natPre : List Nat → List Nat → Bool
  | [], _ => true
  | a :: l, b :: k => match Nat.beq a b with
    | true => natPre l k
    | false => false
  | _ :: _, [] => false
noncomputable def natIdx : List Nat → List Nat → Int
  | [], [] => 0
  | [], _ :: _ => -1
  | b :: l, sub => match natPre sub (b :: l) with
    | true => 0
    | false => match natIdx l sub with
      | .ofNat i => .ofNat (i + 1)
      | .negSucc _ => -1
theorem natPre_eq : ∀ l k : List UInt8, natPre (l.map UInt8.toNat) (k.map UInt8.toNat) = l.isPrefixOf k
  | [], k => by cases k <;> rfl
  | a :: l, [] => rfl
  | a :: l, b :: k => by
    have hb : Nat.beq a.toNat b.toNat = (a == b) := by rw [Bool.eq_iff_iff]; simp [← UInt8.toNat_inj]
    rw [List.map_cons, List.map_cons, natPre, hb, List.isPrefixOf_cons_cons, natPre_eq l k]
    cases a == b <;> rfl
theorem natIdx_eq (sub : List UInt8) : ∀ l : List UInt8, natIdx (l.map UInt8.toNat) (sub.map UInt8.toNat) = Lib.index l sub
  | [] => by cases sub <;> rfl
  | b :: l => by
    have hge := Lib.index_ge l sub
    have ih := natIdx_eq sub l
    have e : Lib.index (b :: l) sub = if sub.isPrefixOf (b :: l) then 0 else if Lib.index l sub == -1 then -1 else Lib.index l sub + 1 := rfl
    rw [List.map_cons, natIdx, ← List.map_cons, natPre_eq, ih, e]
    generalize Lib.index l sub = r at hge
    cases sub.isPrefixOf (b :: l) with
    | true => rfl
    | false =>
      cases r with
      | ofNat i => rfl
      | negSucc i =>
        have : i = 0 := by omega
        subst this; rfl
section
variable {P : Program}
noncomputable def Orc.or (a b : Orc) : Orc := fun σ f args => match a σ f args with
  | some r => some r
  | _ => b σ f args
theorem OrcOk.or {a b : Orc} (ha : OrcOk P a) (hb : OrcOk P b) : OrcOk P (a.or b) := by
  intro m σ w f args args' v σ' hw hl h
  unfold Orc.or at h
  split at h
  · rename_i r hr; cases h; exact ha m σ w f args args' v σ' hw hl hr
  · exact hb m σ w f args args' v σ' hw hl h
variable {m : Mp} {σ : St} {w w' : World}
theorem WR.below (h : WR P m σ w) (b : Below w.heap.size w w') : WR P m σ w' :=
  ⟨fun i im hi => (let k := h.dom i im hi; ⟨k.1, Nat.lt_of_lt_of_le k.2 b.size⟩), fun i im hi => by rw [b.block _ (h.dom i im hi).2]; exact h.blk i im hi, h.inj, h.live, h.glob, h.big,
    fun W0 L hW => (let ⟨i1, i2, i3, i4⟩ := h.inv W0 L hW; ⟨i1, Nat.le_trans i2 b.size, i3, fun B hB => (b.block B (by omega)).trans (i4 B hB)⟩)⟩
theorem Post.below (h : WR P m σ w) (b : Below w.heap.size w w') : Post P m σ w m σ w' :=
  ⟨⟨fun _ _ h => h, fun i im h1 h0 => by rw [h1] at h0; cases h0⟩, h.below b, Nat.le_refl _, ⟨b.os, b.tape, b.output, b.size, fun B hB _ => b.block B hB⟩, rfl, fun _ _ _ h => h⟩
/-- A new block of which nothing is known. -/
theorem Post.unseen (h : WR P m σ w) (b : Below w.heap.size w w') {N : Nat} (h1 : w.heap.size ≤ N) (h2 : N < w'.heap.size) :
    Post P m σ w (upd m σ.next ⟨N, 0, 0⟩) (σ.new .dead) w' := by
  have hold : ∀ i im, m i = some im → i ≠ σ.next := fun i im hi e => by have := (h.dom _ _ hi).1; omega
  have hd : ∀ i, (σ.new .dead).get i ≠ .dead → i ≠ σ.next ∧ σ.get i ≠ .dead := fun i hi => by
    rw [St.get_new] at hi
    by_cases e : i = σ.next
    · rw [if_pos e] at hi; exact absurd rfl hi
    · rw [if_neg e] at hi; exact ⟨e, hi⟩
  have hdw : ∀ i, ((σ.new .dead).get i).wr = true → i ≠ σ.next ∧ (σ.get i).wr = true := fun i hi => by
    rw [St.get_new] at hi
    by_cases e : i = σ.next
    · rw [if_pos e] at hi; cases hi
    · rw [if_neg e] at hi; exact ⟨e, hi⟩
  refine ⟨⟨h.le_upd _, fun i im hi h0 => ?_⟩, ⟨fun i im hi => ?_, fun i im hi => ?_, fun i j im jm hi hj di dj e => ?_, fun i hi => ?_, fun g im hg hi => ?_, ?_, fun W0 L hW => ?_⟩, by simp [St.new], ⟨b.os, b.tape, b.output, b.size, fun B hB _ => b.block B hB⟩, rfl, fun i _ _ di => (hdw i di).2⟩
  · by_cases e : i = σ.next
    · subst e; rw [upd_same] at hi; cases hi; exact ⟨Nat.le_refl _, .inl h1⟩
    · rw [upd_other _ e, h0] at hi; cases hi
  · by_cases e : i = σ.next
    · subst e; rw [upd_same] at hi; cases hi; exact ⟨by simp [St.new], h2⟩
    · rw [upd_other _ e] at hi; have := h.dom _ _ hi; have := b.size; exact ⟨by simp [St.new]; omega, by omega⟩
  · by_cases e : i = σ.next
    · subst e; rw [St.get_new, if_pos rfl]; exact .dead
    · rw [upd_other _ e] at hi
      rw [St.get_new, if_neg e, b.block _ (h.dom _ _ hi).2]
      exact (h.blk _ _ hi).mono (h.le_upd _)
  · obtain ⟨ei, di⟩ := hd i di
    obtain ⟨ej, dj⟩ := hd j dj
    rw [upd_other _ ei] at hi; rw [upd_other _ ej] at hj
    exact h.inj _ _ _ _ hi hj di dj e
  · obtain ⟨ei, di⟩ := hd i hi
    obtain ⟨im, him⟩ := h.live _ di
    exact ⟨im, by rw [upd_other _ ei]; exact him⟩
  · have hb := h.big
    rw [upd_other _ (by omega)] at hi
    exact h.glob _ _ hg hi
  · have := h.big; simp [St.new]; omega
  · obtain ⟨i1, i2, i3, i4⟩ := h.inv W0 L hW
    refine ⟨i1, Nat.le_trans i2 b.size, fun i im hi di => ?_, fun B hB => (b.block B (by omega)).trans (i4 B hB)⟩
    obtain ⟨e, di⟩ := hdw i di
    rw [upd_other _ e] at hi; exact i3 _ _ hi di
noncomputable def orcIndex (f0 : Nat) : Orc := fun σ f args => match Nat.beq f f0, σ.gh, args with
  | true, some _, [.str n p, .str k q] => match Nat.blt n 4294967281 with
    | true => some (.int .i64 (natIdx (unpk n p) (unpk k q)), σ)
    | false => none
  | _, _, _ => none
theorem orcIndex_ok {f0 g : Nat} (hg : ∀ W : World, W.ShapedOpen P → ∃ x, W.cell? ⟨g, 0, none⟩ = some (.int .i64 x))
    (hI : ∀ (s sub : ByteArray) (x : Int) (w : World), s.size < 4294967281 → w.cell? ⟨g, 0, none⟩ = some (.int .i64 x) →
      Calls P f0 #[.string s, .string sub] w fun e w' => e = .returned (.int .i64 (Lib.index s.data.toList sub.data.toList)) ∧ w' = w) : OrcOk P (orcIndex f0) := by
  intro m σ w f args args' v σ' hw hl h
  unfold orcIndex at h
  split at h
  case h_2 => cases h
  rename_i W0 n p k q hf hgh
  obtain ⟨W0, L⟩ := W0
  have hf := Nat.eq_of_beq_eq_true hf
  subst hf
  split at h
  case h_2 => cases h
  rename_i hn
  have hn : n < 4294967281 := by simpa using hn
  cases h
  cases args' with | mk l0 =>
  cases hl with | cons h1 h2 =>
  cases h2 with | cons h3 h4 =>
  cases h4
  cases h1 with | str a1 a2 =>
  cases h3 with | str a3 a4 =>
  rename_i s sub
  obtain ⟨x, hx⟩ := hg W0 (hw.inv _ _ hgh).1.1
  refine (hI s sub x w (by omega) (ghost_cell hw hgh hx)).mono fun e w' he => ?_
  obtain ⟨rfl, rfl⟩ := he
  have hu := unpk_pk s.data.toList
  have hu2 := unpk_pk sub.data.toList
  have hsz : s.data.toList.length = s.size := rfl
  have hsz2 : sub.data.toList.length = sub.size := rfl
  rw [hsz, a1, a2] at hu
  rw [hsz2, a3, a4] at hu2
  rw [hu, hu2, natIdx_eq]
  exact ⟨m, _, rfl, .int .., .refl hw⟩
/-- A function of two texts that hands back a pointer to a block of its own: what is in it is not looked at. 'g': the variable that it reads. -/
noncomputable def orcNew (f0 g : Nat) : Orc := fun σ f args => match Nat.beq f f0, σ.gh, args with
  | true, some p, [.str _ _, .str k _] => match Nat.ble k 281474976710656, p.2.ifs.any (Nat.beq g) with
    | true, true => some (.ptr σ.next 0, σ.new .dead)
    | _, _ => none
  | _, _, _ => none
theorem orcNew_ok {f0 g : Nat}
    (hI : ∀ (fn s : ByteArray) (ev : Value) (w : World), s.size ≤ 281474976710656 → w.cell? ⟨g, 0, none⟩ = some ev → (ev = .nilIface ∨ ∃ te pe, ev = .iface te pe) →
      Calls P f0 #[.string fn, .string s] w fun e w' => ∃ N, e = .returned (.pointer (some ⟨N, 0, none⟩)) ∧ w.heap.size ≤ N ∧ (∃ o, w'.heap[N]? = some o) ∧ Below w.heap.size w w') : OrcOk P (orcNew f0 g) := by
  intro m σ w f args args' v σ' hw hl h
  unfold orcNew at h
  split at h
  case h_2 => cases h
  rename_i W0 n p k q hf hgh
  obtain ⟨W0, L⟩ := W0
  have hf := Nat.eq_of_beq_eq_true hf
  subst hf
  split at h
  case h_2 => cases h
  rename_i hn hany
  have hn := Nat.le_of_ble_eq_true hn
  have hmem : g ∈ L.ifs := by
    obtain ⟨x, hx, hxg⟩ := List.any_eq_true.1 hany
    have := Nat.eq_of_beq_eq_true hxg
    subst this; exact hx
  cases h
  cases args' with | mk l0 =>
  cases hl with | cons h1 h2 =>
  cases h2 with | cons h3 h4 =>
  cases h4
  cases h1 with | str a1 a2 =>
  cases h3 with | str a3 a4 =>
  rename_i fn s
  obtain ⟨te, pe, hx⟩ := (hw.inv _ _ hgh).1.2.1 g hmem
  refine (hI fn s _ w (by omega) (ghost_cell hw hgh hx) (.inr ⟨_, _, rfl⟩)).mono fun e w' he => ?_
  obtain ⟨N, rfl, hN, ⟨o, ho⟩, hb⟩ := he
  have hlt : N < w'.heap.size := by
    rcases Nat.lt_or_ge N w'.heap.size with h | h
    · exact h
    · rw [Array.getElem?_eq_none h] at ho; cases ho
  exact ⟨_, _, rfl, .ptr (im := ⟨N, 0, 0⟩) (upd_same ..), Post.unseen hw hb hN hlt⟩
/-- A function of one text that hands it back ('Clone'). -/
noncomputable def orcSame (f0 : Nat) : Orc := fun σ f args => match Nat.beq f f0, args with
  | true, [.str n p] => match Nat.ble n 281474976710656 with
    | true => some (.str n p, σ)
    | false => none
  | _, _ => none
theorem orcSame_ok {f0 : Nat} (hI : ∀ (s : ByteArray) (w : World), s.size ≤ 281474976710656 → Calls P f0 #[.string s] w fun e w' => e = .returned (.string s) ∧ Below w.heap.size w w') : OrcOk P (orcSame f0) := by
  intro m σ w f args args' v σ' hw hl h
  unfold orcSame at h
  split at h
  case h_2 => cases h
  rename_i n p hf
  have hf := Nat.eq_of_beq_eq_true hf
  subst hf
  split at h
  case h_2 => cases h
  rename_i hn
  have hn := Nat.le_of_ble_eq_true hn
  cases h
  cases args' with | mk l0 =>
  cases hl with | cons h1 h2 =>
  cases h2
  cases h1 with | str a1 a2 =>
  rename_i s
  refine (hI s w (by omega)).mono fun e w' he => ?_
  obtain ⟨rfl, hb⟩ := he
  exact ⟨m, _, rfl, .str a1 a2, Post.below hw hb⟩
noncomputable def repP (n p : Nat) : Nat → Nat
  | 0 => 0
  | c + 1 => p + repP n p c * 256 ^ n
theorem repP_eq (l : List UInt8) : ∀ c, pk (Lib.repeatL l c) = repP l.length (pk l) c
  | 0 => rfl
  | c + 1 => by
    unfold Lib.repeatL repP
    rw [pk_append, repP_eq l c]
/-- strings.Repeat. -/
noncomputable def orcRepeat (f0 : Nat) : Orc := fun σ f args => match Nat.beq f f0, args with
  | true, [.str n p, .int .i64 (.ofNat c)] => match Nat.ble c 9223372036854775807, Nat.ble (n * c) 140737488355328 with
    | true, true => some (.str (c * n) (repP n p c), σ)
    | _, _ => none
  | _, _ => none
theorem orcRepeat_ok {f0 : Nat} (hI : ∀ (s : ByteArray) (c : Nat) (w : World), c ≤ 9223372036854775807 → s.size * c ≤ 140737488355328 →
    Calls P f0 #[.string s, .int .i64 c] w fun e w' => e = .returned (.string ⟨(Lib.repeatL s.data.toList c).toArray⟩) ∧ Below w.heap.size w w') : OrcOk P (orcRepeat f0) := by
  intro m σ w f args args' v σ' hw hl h
  unfold orcRepeat at h
  split at h
  case h_2 => cases h
  rename_i n p c hf
  have hf := Nat.eq_of_beq_eq_true hf
  subst hf
  split at h
  case h_2 => cases h
  rename_i h1 h2
  have h1 := Nat.le_of_ble_eq_true h1
  have h2 := Nat.le_of_ble_eq_true h2
  cases h
  cases args' with | mk l0 =>
  cases hl with | cons k1 k2 =>
  cases k2 with | cons k3 k4 =>
  cases k4; cases k3
  cases k1 with | str a1 a2 =>
  rename_i s
  refine (hI s c w h1 (by rw [a1]; exact h2)).mono fun e w' he => ?_
  obtain ⟨rfl, hb⟩ := he
  have hsz : s.data.toList.length = s.size := rfl
  refine ⟨m, _, rfl, .str ?_ ?_, Post.below hw hb⟩
  · show (Lib.repeatL s.data.toList c).toArray.size = c * n
    rw [List.size_toArray, Lib.repeatL_length, hsz, a1]
  · show pk (Lib.repeatL s.data.toList c) = _
    rw [repP_eq, hsz, a1, a2]
/-- strconv.Itoa below a hundred. -/
noncomputable def dig (i : Nat) : List Nat := match Nat.blt i 10 with
  | true => [48 + i]
  | false => [48 + i / 10, 48 + i % 10]
noncomputable def orcItoa (f0 : Nat) : Orc := fun σ f args => match Nat.beq f f0, args with
  | true, [.int .i64 (.ofNat i)] => match Nat.blt i 100 with
    | true => some (.str (dig i).length (pkNat (dig i)), σ)
    | false => none
  | _, _ => none
theorem dig_eq : ∀ i, i < 100 → (Lib.decDigits i).length = (dig i).length ∧ pk (Lib.decDigits i) = pkNat (dig i) := by
  have h : ∀ i : Fin 100, (Lib.decDigits i.val).length = (dig i.val).length ∧ pk (Lib.decDigits i.val) = pkNat (dig i.val) := by decide +kernel
  exact fun i hi => h ⟨i, hi⟩
theorem orcItoa_ok {f0 : Nat} (hI : ∀ (i : Nat) (w : World), i < 100 → Calls P f0 #[.int .i64 i] w fun e w' => e = .returned (.string ⟨(Lib.decDigits i).toArray⟩) ∧ w' = w) : OrcOk P (orcItoa f0) := by
  intro m σ w f args args' v σ' hw hl h
  unfold orcItoa at h
  split at h
  case h_2 => cases h
  rename_i i hf
  have hf := Nat.eq_of_beq_eq_true hf
  subst hf
  split at h
  case h_2 => cases h
  rename_i h1
  have h1 : i < 100 := by simpa using h1
  cases h
  cases args' with | mk l0 =>
  cases hl with | cons k1 k2 =>
  cases k2; cases k1
  refine (hI i w h1).mono fun e w' he => ?_
  obtain ⟨rfl, rfl⟩ := he
  obtain ⟨d1, d2⟩ := dig_eq i h1
  refine ⟨m, _, rfl, .str ?_ d2, .refl hw⟩
  show (Lib.decDigits i).toArray.size = _
  rw [List.size_toArray, d1]
/-- strings.Join of one text or more. -/
noncomputable def joinP (k q : Nat) : List (Nat × Nat) → Nat × Nat
  | [] => (0, 0)
  | x :: r => match r with
    | [] => x
    | _ :: _ => (x.1 + (k + (joinP k q r).1), x.2 + (q + (joinP k q r).2 * 256 ^ k) * 256 ^ x.1)
noncomputable def strsOf : List SV → Option (List (Nat × Nat))
  | [] => some []
  | .str n p :: r => match strsOf r with
    | some l => some ((n, p) :: l)
    | none => none
  | _ :: _ => none
noncomputable def joinF (k q n : Nat) (l : List SV) : Option SV :=
  match strsOf l with
  | some xs => match Nat.ble (joinP k q xs).1 140737488355328, Nat.ble (n + 1) 140737488355328 with
    | true, true => some (.str (joinP k q xs).1 (joinP k q xs).2)
    | _, _ => none
  | none => none
noncomputable def orcJoin (f0 : Nat) : Orc := fun σ f args => match Nat.beq f f0, args with
  | true, [.slice b off (n + 1) c, .str k q] => match loadC σ b off (n + 1) with
    | some l => match joinF k q n l with
      | some v => some (v, σ)
      | none => (lanes (joinF k q n) l).map fun v => (v, σ)
    | none => none
  | _, _ => none
theorem strsOf_sound {m : Mp} : ∀ {l : List SV} {l' : List Value} {xs : List (Nat × Nat)}, VRs m l l' → strsOf l = some xs →
    ∃ ss : List ByteArray, l' = ss.map Value.string ∧ xs = ss.map fun s => (s.size, pk s.data.toList)
  | [], _, xs, .nil, h => by cases h; exact ⟨[], rfl, rfl⟩
  | v :: r, _, xs, .cons hv hs, h => by
    cases v with
    | str n p =>
      unfold strsOf at h
      split at h
      · rename_i l hl
        cases h
        obtain ⟨ss, h1, h2⟩ := strsOf_sound hs hl
        cases hv with | str a1 a2 =>
        rename_i s
        exact ⟨s :: ss, by rw [h1]; rfl, by rw [h2, ← a1, ← a2]; rfl⟩
      · cases h
    | _ => simp [strsOf] at h
theorem joinP_eq (sep : List UInt8) : ∀ ss : List ByteArray, joinP sep.length (pk sep) (ss.map fun s => (s.size, pk s.data.toList)) =
    ((Lib.join (ss.map (·.data.toList)) sep).length, pk (Lib.join (ss.map (·.data.toList)) sep))
  | [] => rfl
  | [s] => by
    rw [List.map_cons, List.map_nil, List.map_cons, List.map_nil, Lib.join_one]; rfl
  | s :: s2 :: r => by
    have ih := joinP_eq sep (s2 :: r)
    have hj : Lib.join ((s :: s2 :: r).map (·.data.toList)) sep = s.data.toList ++ (sep ++ Lib.join ((s2 :: r).map (·.data.toList)) sep) := by
      simp [Lib.join, List.intercalate]
    have e : joinP sep.length (pk sep) (List.map (fun s : ByteArray => (s.size, pk s.data.toList)) (s :: s2 :: r)) =
        (s.size + (sep.length + (joinP sep.length (pk sep) (List.map (fun s : ByteArray => (s.size, pk s.data.toList)) (s2 :: r))).1),
          pk s.data.toList + (pk sep + (joinP sep.length (pk sep) (List.map (fun s : ByteArray => (s.size, pk s.data.toList)) (s2 :: r))).2 * 256 ^ sep.length) * 256 ^ s.size) := rfl
    rw [e, ih, hj]
    have hsz : s.data.toList.length = s.size := rfl
    refine Prod.ext ?_ ?_
    · simp [hsz]
    · show _ = pk _
      rw [pk_append, pk_append, hsz]
theorem orcJoin_ok {f0 : Nat} (hI : ∀ (bk o c : Nat) (xs : List ByteArray) (sep : ByteArray) (w : World), (∀ (j : Nat) x, xs[j]? = some x → w.cell? ⟨bk, o + j, none⟩ = some (.string x)) → bk < w.heap.size →
      xs.length ≤ 140737488355328 → xs.length ≤ c → (Lib.join (xs.map (·.data.toList)) sep.data.toList).length ≤ 140737488355328 →
      Calls P f0 #[.slice (some ⟨bk, o, none⟩) xs.length c, .string sep] w fun e w' => e = .returned (.string ⟨(Lib.join (xs.map (·.data.toList)) sep.data.toList).toArray⟩) ∧ Below w.heap.size w w') : OrcOk P (orcJoin f0) := by
  intro m σ w f args args' v σ' hw hl h
  unfold orcJoin at h
  split at h
  case h_2 => cases h
  rename_i b off n cap k q hf
  have hf := Nat.eq_of_beq_eq_true hf
  subst hf
  split at h
  case h_2 => cases h
  rename_i l hload
  cases args' with | mk l0 =>
  cases hl with | cons k1 k2 =>
  rename_i v0 l1
  cases k2 with | cons k3 k4 =>
  cases k4
  cases k3 with | str a1 a2 =>
  rename_i sep
  have key : ∃ im ad c, v0 = Value.slice (some ad) (n + 1) c ∧ m b = some im ∧ ad.block = im.blk ∧ ad.spot = none ∧ (c ≠ 0 → ad.off = im.base + off) ∧ n + 1 ≤ c := by
    cases cap with
    | ex c => obtain ⟨im, a, e, h1, h2, h3, h4, h5⟩ := k1.ex_inv; exact ⟨im, a, c, e, h1, h2, h3, h4, h5⟩
    | op sz => obtain ⟨im, a, c, e, h1, h2, h3, h4, h5, _⟩ := k1.op_inv; exact ⟨im, a, c, e, h1, h2, h3, h4, h5⟩
  obtain ⟨im, ad, c, he, hm, ha, hsp, hc, hle⟩ := key
  have : ad = ⟨im.blk, im.base + off, none⟩ := by cases ad; simp at ha hsp hc ⊢; exact ⟨ha, hc (by omega), hsp⟩
  subst this
  subst he
  obtain ⟨l', hr, hlen, hcell, _⟩ := loadC_sound hw hload hm
  have fin : ∀ {kk : List SV} {u : SV}, VRs m kk l' → joinF k q n kk = some u → Wider v u → σ' = σ →
      Calls P f #[.slice (some ⟨im.blk, im.base + off, none⟩) (n + 1) c, .string sep] w (CallOk P m σ w v σ') := by
    intro kk u hk hj hwd hσ
    subst hσ
    unfold joinF at hj
    split at hj
    case h_2 => cases hj
    rename_i xs hxs
    split at hj
    case h_2 => cases hj
    rename_i h1 h2
    have h1 := Nat.le_of_ble_eq_true h1
    have h2 := Nat.le_of_ble_eq_true h2
    cases hj
    obtain ⟨ss, rfl, rfl⟩ := strsOf_sound hk hxs
    have hn : ss.length = n + 1 := by simpa using hlen
    have hj := joinP_eq sep.data.toList ss
    have hsz : sep.data.toList.length = sep.size := rfl
    rw [hsz, a1, a2] at hj
    rw [hj] at h1 hwd
    have hC := hI im.blk (im.base + off) c ss sep w (fun j x hx => hcell j _ (by simp [hx])) (hw.dom _ _ hm).2 (by omega) (by omega) h1
    rw [hn] at hC
    refine hC.mono fun e w' he => ?_
    obtain ⟨rfl, hb⟩ := he
    exact ⟨m, _, rfl, hwd _ _ (.str (by rw [← List.size_toArray]; rfl) rfl), Post.below hw hb⟩
  split at h
  · rename_i u hu
    cases h
    exact fin hr hu (.refl _) rfl
  · cases hls : lanes (joinF k q n) l with
    | none => rw [hls] at h; cases h
    | some u =>
      rw [hls] at h
      cases h
      obtain ⟨kk, u0, hk, hf2, hwd, -⟩ := lanes_ok hls hr
      exact fin hk hf2 hwd rfl
/-- A function without parameters that answers true and leaves all that was there: its run, told once. -/
noncomputable def orcTrue (f0 : Nat) : Orc := fun σ f args => match Nat.beq f f0, args with
  | true, [] => some (.bool true, σ)
  | _, _ => none
theorem orcTrue_ok {f0 : Nat} (hI : ∀ w : World, Calls P f0 #[] w fun e w' => e = .returned (.bool true) ∧ Below w.heap.size w w') : OrcOk P (orcTrue f0) := by
  intro m σ w f args args' v σ' hw hl h
  unfold orcTrue at h
  split at h
  case h_2 => cases h
  rename_i hf
  have hf := Nat.eq_of_beq_eq_true hf
  subst hf
  cases h
  cases args' with | mk l0 =>
  cases hl
  refine (hI w).mono fun e w' he => ?_
  obtain ⟨rfl, hb⟩ := he
  exact ⟨m, _, rfl, .bool _, Post.below hw hb⟩
theorem WR.start (P : Program) (w : World) : WR P (fun _ => none) ⟨P.globals.size, .nil, none⟩ w :=
  ⟨fun _ _ h => (by cases h), fun _ _ h => (by cases h), fun _ _ _ _ h => (by cases h), fun i hi => absurd (Tr.get_nil i) hi, fun _ _ _ h => (by cases h), Nat.le_refl _, fun _ _ h => (by cases h)⟩
theorem orcTrue_run (hmo : P.follows .mixedOrders = true) {orc : Orc} (ho : OrcOk P orc) {n f0 : Nat} {fr : Fr} {σ' : St} (h : runQ P orc n (.call f0 []) fr ⟨P.globals.size, .nil, none⟩ = .done (.bool true) σ') : OrcOk P (orcTrue f0) :=
  orcTrue_ok fun w => by
    refine ((runQ_sound (extOk _) hmo ho n).call f0 [] _ _ _ _ h _ #[] w .nil (WR.start P w)).mono fun e w' he => ?_
    obtain ⟨m', v', rfl, hv, hp⟩ := he
    cases hv
    exact ⟨rfl, hp.kp.os, hp.kp.tape, hp.kp.output, hp.kp.size, fun k hk => hp.kp.block k hk fun i im h _ => by cases h⟩
/-- A function that hands back how far a number lies from a multiple of another: asked of numbers of which the residue is known. -/
noncomputable def orcRes (f0 : Nat) : Orc := fun σ f args => match Nat.beq f f0, args with
  | true, [.res _ m r _, .int .i64 m'] => match decide (m = m'), decide (0 < m'), decide (m' < 1000) with
    | true, true, true => some (.int .i64 r, σ)
    | _, _, _ => none
  | _, _ => none
theorem orcRes_ok {f0 : Nat} (hI : ∀ (x m : Int) (w : World), 0 < m → m < 1000 → Calls P f0 #[.int .i64 x, .int .i64 m] w fun e w' => e = .returned (.int .i64 ((x.tmod m).natAbs : Int)) ∧ Below w.heap.size w w') : OrcOk P (orcRes f0) := by
  intro m σ w f args args' v σ' hw hl h
  unfold orcRes at h
  split at h
  case h_2 => cases h
  rename_i x n r hr n' hf
  have hf := Nat.eq_of_beq_eq_true hf
  subst hf
  split at h
  case h_2 => cases h
  rename_i h1 h2 h3
  have h1 := of_decide_eq_true h1
  have h2 := of_decide_eq_true h2
  have h3 := of_decide_eq_true h3
  subst h1
  cases h
  cases args' with | mk l0 =>
  cases hl with | cons k1 k2 =>
  cases k2 with | cons k3 k4 =>
  cases k4; cases k3; cases k1
  refine (hI x n w h2 h3).mono fun e w' he => ?_
  obtain ⟨rfl, hb⟩ := he
  exact ⟨m, _, rfl, by rw [hr]; exact .int .., Post.below hw hb⟩
noncomputable def orcLan (f0 : Nat) : Orc := fun σ f args => match Nat.beq f f0, args with
  | true, [.resl m l, .int .i64 m'] => match decide (m = m'), decide (0 < m'), decide (m' < 1000), packL l with
    | true, true, true, some v => some (v, σ)
    | _, _, _, _ => none
  | _, _ => none
theorem orcLan_ok {f0 : Nat} (hI : ∀ (x m : Int) (w : World), 0 < m → m < 1000 → Calls P f0 #[.int .i64 x, .int .i64 m] w fun e w' => e = .returned (.int .i64 ((x.tmod m).natAbs : Int)) ∧ Below w.heap.size w w') : OrcOk P (orcLan f0) := by
  intro m σ w f args args' v σ' hw hl h
  unfold orcLan at h
  split at h
  case h_2 => cases h
  rename_i n l n' hf
  have hf := Nat.eq_of_beq_eq_true hf
  subst hf
  split at h
  case h_2 => cases h
  rename_i v0 h1 h2 h3 h4
  have h1 := of_decide_eq_true h1
  have h2 := of_decide_eq_true h2
  have h3 := of_decide_eq_true h3
  subst h1
  cases h
  cases args' with | mk l0 =>
  cases hl with | cons k1 k2 =>
  cases k2 with | cons k3 k4 =>
  cases k4; cases k3
  cases k1 with | resl hr =>
  rename_i x
  refine (hI x n w h2 h3).mono fun e w' he => ?_
  obtain ⟨rfl, hb⟩ := he
  exact ⟨m, _, rfl, packL_ok h4 hr _ _ (.int ..), Post.below hw hb⟩
/-- The numbers from one on. -/
noncomputable def lanT : Nat → Nat → List SV
  | 0, _ => []
  | n + 1, lo => .int .i64 (.ofNat lo) :: lanT n (lo + 1)
omit [Lane] in
theorem lanT_get : ∀ {n lo i : Nat}, i < n → (lanT n lo)[i]? = some (.int .i64 (.ofNat (lo + i)))
  | 0, _, _, h => by omega
  | n + 1, lo, 0, _ => rfl
  | n + 1, lo, i + 1, h => by
    show (lanT n (lo + 1))[i]? = _
    rw [lanT_get (by omega)]
    congr 3
    omega
omit [Lane] in
theorem resl_of {mp : Mp} {a : Int} {M r lo n : Nat} (h : ((a.tmod (.ofNat M)).natAbs : Int) = .ofNat r) (h1 : lo ≤ r) (h2 : r < lo + n) : @VR ⟨r - lo⟩ mp (.resl (.ofNat M) (lanT n lo)) (.int .i64 a) :=
  @VR.resl ⟨r - lo⟩ mp _ _ _ (by
    show (lanT n lo)[r - lo]? = _
    rw [lanT_get (by omega), h]
    congr 3
    omega)
/-- Rows of a kind. -/
noncomputable def lnN (k : IntKind) (l : List Nat) : List SV := l.map fun n => .int k (.ofNat n)
noncomputable def lnZ (k : IntKind) (l : List Int) : List SV := l.map fun n => .int k n
noncomputable def lnS (l : List (Nat × Nat)) : List SV := l.map fun p => .str p.1 p.2
/-- A table of numbers. -/
theorem tab_ok {W : World} {name : String} {k : IntKind} {zs : List Int} {g : Nat} (h : Lib.TabIs P W name k zs) (hg : P.globalNamed name = some g) (i : Nat) (v : SV) (hv : (zs.map (SV.int k))[i]? = some v) :
    ∃ v', W.cell? ⟨g, i, none⟩ = some v' ∧ VR (fun _ => none) v v' := by
  rw [List.getElem?_map] at hv
  cases hz : zs[i]? with
  | none => rw [hz] at hv; cases hv
  | some z =>
    rw [hz] at hv; cases hv
    have hi : i < zs.length := (List.getElem?_eq_some_iff.1 hz).1
    refine ⟨_, h.cell hg i hi, ?_⟩
    have : zs.getD i 0 = z := by simp [List.getD_eq_getElem?_getD, hz]
    rw [this]; exact .int ..
end
end Go.YtjighphlkcedhaaDoorEv
