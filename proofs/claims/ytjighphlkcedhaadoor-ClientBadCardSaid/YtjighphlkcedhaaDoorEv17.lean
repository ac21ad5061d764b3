/- An evaluator for the program's own code: a region that draws its order, put together. (text 17) -/
import Derived.Test.YtjighphlkcedhaaDoorEv16
set_option linter.unusedVariables false
set_option linter.unusedSimpArgs false
namespace Go.YtjighphlkcedhaaDoorEv
open Go
set_option linter.unusedSectionVars false
variable [Lane]

theorem FrR.congr {m : Mp} {f g : Fr} {a : Act} (h : FrR m f a) (e : ∀ t, g.tm.get .undef t = f.tm.get .undef t) : FrR m g a := ⟨fun t => by rw [e]; exact h.tm t⟩
/-- The slots behind the operations of a set, each as in the region's own order. -/
noncomputable def frOf (ops : List Oper) (es : List Ent) (fr : Fr) (S : Nat → Bool) : Nat → Fr
  | 0 => fr
  | i + 1 => match S i with
    | true => (frOf ops es fr S i).put ((ops[i]?).bind (·.dst)) (vAt es i)
    | false => frOf ops es fr S i
theorem frOf_df {ops : List Oper} {es : List Ent} {fr : Fr} {S : Nat → Bool} : ∀ i, (frOf ops es fr S i).df = fr.df
  | 0 => rfl
  | i + 1 => by
    unfold frOf
    cases S i with
    | true => simp only []; rw [Fr.put_df, frOf_df i]
    | false => simp only []; exact frOf_df i
theorem put_get (f : Fr) (d : Option Tmp) (v : SV) (t : Nat) : (f.put d v).tm.get .undef t = if d = some t then v else f.tm.get .undef t := by
  cases d with
  | none => rw [if_neg (by simp)]; rfl
  | some d =>
    show (f.tm.set .undef v d).get .undef t = _
    rw [Tr.get_set]
    by_cases e : t = d
    · subst e; rw [if_pos rfl, if_pos rfl]
    · rw [if_neg e, if_neg (by simp; exact Ne.symm e)]
theorem frOf_get {ops : List Oper} {es : List Ent} {fr : Fr} {S : Nat → Bool} (i t : Nat) : (frOf ops es fr S (i + 1)).tm.get .undef t =
    if S i = true ∧ (ops[i]?).bind (·.dst) = some t then vAt es i else (frOf ops es fr S i).tm.get .undef t := by
  rw [frOf]
  cases h : S i with
  | true =>
    simp only []
    rw [put_get]
    by_cases e : (ops[i]?).bind (·.dst) = some t
    · rw [if_pos e, if_pos (by simp [e])]
    · rw [if_neg e, if_neg (by simp [e])]
  | false => simp only []; rw [if_neg (by simp)]
theorem pairOk_split {P : Program} {c : Cert} {ops : List Oper} {i bj j : Nat} {x y : Oper} (h : pairOk P c ops i x bj j y = true) : (bj.testBit i = true ∨
    (((acts P x.op && acts P y.op) = false ∨ c.la j = true) ∧ (∀ d, x.dst = some d → d ∉ looks ops y ∧ y.dst ≠ some d) ∧ ∀ d, y.dst = some d → d ∉ looks ops x)) ∧
    (c.de i = true → bj.testBit i = true → acts P y.op = true ∨ c.de j = true ∨ i < c.fr j) := by
  unfold pairOk at h
  simp only [Bool.and_eq_true] at h
  obtain ⟨h, h2⟩ := h
  refine ⟨?_, fun h3 h4 => ?_⟩
  · simp only [Bool.or_eq_true] at h
    rcases h with h | h
    · exact .inl h
    · simp only [Bool.and_eq_true] at h
      refine .inr ⟨by have := h.1.1; rw [Bool.or_eq_true, Bool.not_eq_true'] at this; exact this, fun d hd => ?_, fun d hd => ?_⟩
      · have := h.1.2
        rw [hd] at this
        simpa using this
      · have := h.2
        rw [hd] at this
        simpa using this
  · rw [h3, h4] at h2
    simp only [Bool.and_self, Bool.not_true, Bool.false_or, Bool.or_eq_true] at h2
    rcases h2 with (h2 | h2) | h2
    · exact .inl h2
    · exact .inr (.inl h2)
    · exact .inr (.inr (Nat.le_of_ble_eq_true h2))
theorem selfOk_split {P : Program} {c : Cert} {ops : List Oper} {bj j : Nat} {y : Oper} (h : selfOk P c ops bj j y = true) :
    (c.la j = true → maker y.op = true ∧ acts P y.op = true ∧ c.de j = true) ∧ (acts P y.op = true → c.la j = false → c.de j = false) ∧ (acts P y.op = false → c.de j = true → slotOnly y.op = true) ∧
    (∀ k, c.fr j = k + 1 → bj.testBit k = true ∧ c.la k = false ∧ ∃ x, ops[k]? = some x ∧ acts P x.op = true) := by
  unfold selfOk at h
  simp only [Bool.and_eq_true] at h
  obtain ⟨⟨h1, h2⟩, h3⟩ := h
  refine ⟨fun hl => ?_, fun ha hl => ?_, fun ha hd => ?_, fun k hk => ?_⟩
  · rw [hl] at h1 h2
    cases ha : acts P y.op with
    | true => rw [ha] at h2; simp at h1 h2; exact ⟨h1, rfl, h2⟩
    | false => rw [ha] at h2; simp at h2
  · rw [ha, hl] at h2; simpa using h2
  · rw [ha, hd] at h2; simp at h2; exact h2.2
  · rw [hk] at h3
    simp only [Bool.and_eq_true] at h3
    refine ⟨h3.1.1, by simpa using h3.1.2, ?_⟩
    cases hx : ops[k]? with
    | none => rw [hx] at h3; simp at h3
    | some x => rw [hx] at h3; exact ⟨x, rfl, h3.2⟩
noncomputable def unl (listed : Array Bool) : Nat → Nat
  | 0 => 0
  | k + 1 => (match listed.getD k true with | true => 0 | false => 1) + unl listed k
theorem unl_zero {listed : Array Bool} : ∀ {n : Nat}, unl listed n = 0 → ∀ j, j < n → listed.getD j true = true
  | n + 1, h, j, hj => by
    unfold unl at h
    by_cases e : j = n
    · subst e
      cases hl : listed.getD j true with
      | true => rfl
      | false => rw [hl] at h; simp at h
    · exact unl_zero (listed := listed) (n := n) (by omega) j (by omega)
theorem unl_set {listed : Array Bool} {j : Nat} (hj : listed.getD j true = false) : ∀ n, unl (listed.setIfInBounds j true) n + (if j < n then 1 else 0) = unl listed n
  | 0 => rfl
  | n + 1 => by
    have ih := unl_set hj n
    unfold unl
    by_cases e : n = j
    · subst e
      have hsz : n < listed.size := by
        rcases Nat.lt_or_ge n listed.size with h | h
        · exact h
        · rw [Array.getD_eq_getD_getElem?, Array.getElem?_eq_none h] at hj; cases hj
      have h1 : (listed.setIfInBounds n true).getD n true = true := by simp [hsz]
      rw [h1, hj]
      rw [if_neg (by omega)] at ih
      rw [if_pos (by omega)]
      simp only []; omega
    · have h1 : (listed.setIfInBounds j true).getD n true = listed.getD n true := getD_set_ne true (Ne.symm e)
      rw [h1]
      by_cases h2 : j < n
      · rw [if_pos h2] at ih; rw [if_pos (by omega)]; omega
      · rw [if_neg h2] at ih; rw [if_neg (by omega)]; omega

theorem maker_val {P : Program} {σ σ' : St} {fr : Fr} {op : Op} {nx : Nx} (hm : maker op = true) (h : evalOp P σ fr op = some (nx, σ')) : (∃ v, nx = .val v) ∧ ∃ x, σ' = σ.new x := by
  have nc : ∀ {ty : TypeId} {l : List SV} {p : Nat × St}, newC σ ty l = some p → ∃ x, p.2 = σ.new x := by
    intro ty l p hp
    unfold newC at hp
    split at hp
    · cases hp; exact ⟨_, rfl⟩
    · cases hp
  cases op <;> (try (simp only [maker] at hm; cases hm; done)) <;> simp only [evalOp, und_eq, inf_eq, fnc_eq] at h
  case alloc e =>
    split at h
    case h_2 => cases h
    rename_i z hz
    cases hn : newC σ e z.cells with
    | none => rw [hn] at h; cases h
    | some p => rw [hn] at h; cases h; exact ⟨⟨_, rfl⟩, nc hn⟩
  case box e y =>
    split at h
    case h_2 => cases h
    rename_i v hv
    cases hn : newC σ e v.cells with
    | none => rw [hn] at h; cases h
    | some p => rw [hn] at h; cases h; exact ⟨⟨_, rfl⟩, nc hn⟩
  case buildSlice t n ps =>
    split at h
    case h_2 => cases h
    rename_i l e hl hu
    split at h
    case h_2 => cases h
    rename_i s z hs hz
    split at h
    case h_2 => cases h
    rename_i cs b1 b2 hfill
    cases hn : newC σ e cs with
    | none => rw [hn] at h; cases h
    | some p => rw [hn] at h; cases h; exact ⟨⟨_, rfl⟩, nc hn⟩
  case makeMap t r =>
    cases r with
    | some r => cases h
    | none => cases h; exact ⟨⟨_, rfl⟩, _, rfl⟩
theorem maker_new {P : Program} {σ σ' : St} {fr : Fr} {op : Op} {nx : Nx} (hm : maker op = true) (h : evalOp P σ fr op = some (nx, σ')) : ∃ x, σ' = σ.new x := (maker_val hm h).2
theorem maker_noenter {P : Program} {σ σ' : St} {fr : Fr} {op : Op} {f : FuncId} {args : List SV} (hm : maker op = true) : evalOp P σ fr op ≠ some (.enter f args, σ') := fun h => by
  obtain ⟨v, hv⟩ := (maker_val hm h).1; cases hv
theorem orT {a b : Bool} (h : (a || b) = true) : a = true ∨ b = true := by simpa using h
noncomputable def nxt (es : List Ent) (σ' : St) (i : Nat) : Nat := (stAt es σ' i).next
/-- How matters stand when the operations of a set have come: own steps as far as place c; blocks that were made before their time behind it. -/
structure Inv (P : Program) (m : Mp) (σ : St) (w : World) (nt : Nat) (C : Cert) (L : List Oper) (es : List Ent) (fr : Fr) (σ' : St) (S : Nat → Bool) (a : Act) (w1 : World) (c : Nat) (mf : Mp) : Prop where
  hc : c ≤ L.length
  pre : ∀ i o, i < c → L[i]? = some o → acts P o.op = true → S i = true
  only : ∀ j o, c ≤ j → S j = true → L[j]? = some o → acts P o.op = true → C.la j = true ∨ skAt es j = true
  post : Post P m σ w (rs mf (nxt es σ' c)) (stAt es σ' c) w1
  pend : ∀ n im, mf n = some im → nxt es σ' c ≤ n → ∃ j, c ≤ j ∧ j < L.length ∧ S j = true ∧ C.la j = true ∧ skAt es j = false ∧ n = nxt es σ' j
  made : ∀ j, c ≤ j → j < L.length → S j = true → C.la j = true → skAt es j = false → ∃ im x, mf (nxt es σ' j) = some im ∧ stAt es σ' (j + 1) = (stAt es σ' j).new x ∧
    BR (rs mf (nxt es σ' j)) im x w1.heap[im.blk]? ∧ im.blk < w1.heap.size ∧ w.heap.size ≤ im.blk ∧ ∀ i km, mf i = some km → km.blk = im.blk → i = nxt es σ' j
  fr2 : ∀ t b, nxt es σ' c ≤ b → (∀ i o, S i = true → L[i]? = some o → o.dst = some t → C.de i = false ∨ nxt es σ' (i + 1) ≤ b) → VR (rs mf b) ((frOf L es fr S L.length).tm.get .undef t) (a.tmps.getD t undef)
  df : DRs m fr.df a.defers
  sz : a.tmps.size = nt
section
variable {P : Program}
theorem runDraw_sound (hx : ExtOk P) {ih : Job → Fr → St → Res} (hc : CallsOk P ih) {nt : Nat} {ops : Array Oper} (hd : dstOk nt ops.toList = true) {fr fr' : Fr} {σ σ' : St}
    (h : runDraw P ih ops.toList fr σ = .nrm fr' σ') {m : Mp} {a : Act} {w : World} (hf : FrD m nt fr a) (hw : WR P m σ w) :
    wpAny P .any ops (QR P m σ w nt (.nrm fr' σ')) ops.size (Array.replicate ops.size false) a { w with drawn := w.drawn + 1 } := by
  -- what was seen of the region
  obtain ⟨es, hok, hcan, hst, hmono⟩ : ∃ es, drawOk P ops.toList = true ∧ canon P ih ops.toList ops.toList fr σ = some (es, fr', σ') ∧
      allStable P (certOf P ops.toList (bits ops.toList [])) ops.toList (bits ops.toList []) (tausOf P σ' ops.toList es) 0 ops.toList es = true ∧ mono σ' es = true := by
    unfold runDraw at h
    split at h
    · cases h
    · rename_i hok
      split at h
      · cases h
      · rename_i es f s hcan
        split at h
        · rename_i hst
          cases h
          simp only [Bool.and_eq_true] at hst
          exact ⟨es, hok, hcan, hst.1, hst.2⟩
        · cases h
  have hcan := canon_can _ _ _ hcan
  obtain ⟨hlen, hF0, hσ0, hat⟩ := hcan.at
  have htau := taus_get hcan
  have hstab := allStable_spec _ _ _ hst
  unfold drawOk at hok
  have hall := allOk_spec _ _ hok
  have hL : ops.toList.length = ops.size := Array.length_toList
  generalize hLL : ops.toList = L at *
  generalize hB : bits L [] = B at *
  generalize hC : certOf P L B = C at *
  generalize hT : tausOf P σ' L es = T at *
  have hop : ∀ (j : Nat) (o : Oper), ops[j]? = some o ↔ L[j]? = some o := fun j o => by rw [← hLL, Array.getElem?_toList]
  have edges : ∀ (j : Nat) (o : Oper), L[j]? = some o → ∀ e ∈ o.after.toList, Region.binds .any e = true → e.on < j := fun j o ho => by
    have := (hall j o ho).1; simpa using this
  have pairs : ∀ (i j : Nat) (x y : Oper), i < j → L[i]? = some x → L[j]? = some y → pairOk P C L i x (B.getD j 0) j y = true := fun i j x y hij hx hy => by
    have := (hall j y hy).2.1 i x (by omega) hx; simpa using this
  have selfs : ∀ (j : Nat) (y : Oper), L[j]? = some y → selfOk P C L (B.getD j 0) j y = true := fun j y hy => by
    have := (hall j y hy).2.2; simpa using this
  have nmono : ∀ i j, i ≤ j → j ≤ L.length → nxt es σ' i ≤ nxt es σ' j := fun i j hij hj => by
    have := mono_le hmono (j - i) i (by omega)
    rwa [show i + (j - i) = j by omega] at this
  have bspec : ∀ (j : Nat) (o : Oper) (i : Nat), L[j]? = some o → (B.getD j 0).testBit i = true → ∃ e ∈ o.after.toList, Region.binds .any e = true ∧ (i = e.on ∨ (B.getD e.on 0).testBit i = true) := fun j o i ho hb => by
    have := bits_spec L [] j o i ho (by rw [hB]; simpa using hb)
    rwa [hB] at this
  have bnone : ∀ (j i : Nat), L[j]? = none → (B.getD j 0).testBit i = false := fun j i ho => by
    obtain ⟨l, h1, h2⟩ := bits_ext L []
    rw [hB, List.nil_append] at h1
    rw [List.getD_eq_getElem?_getD, List.getElem?_eq_none (by rw [h1, h2]; exact List.getElem?_eq_none_iff.1 ho)]
    simp
  -- a set that is closed holds all that stands before
  have closed_bits : ∀ (S : Nat → Bool), (∀ (j : Nat) (o : Oper), S j = true → L[j]? = some o → ∀ e ∈ o.after.toList, Region.binds .any e = true → S e.on = true) →
      ∀ (j : Nat), (∀ (o : Oper), L[j]? = some o → ∀ e ∈ o.after.toList, Region.binds .any e = true → S e.on = true) → ∀ i, (B.getD j 0).testBit i = true → S i = true := by
    intro S hS j
    induction j using Nat.strongRecOn with
    | _ j IH =>
      intro hj i hi
      cases ho : L[j]? with
      | none => rw [bnone j i ho] at hi; cases hi
      | some o =>
        obtain ⟨e, he, hb, hi'⟩ := bspec j o i ho hi
        have hse := hj o ho e he hb
        rcases hi' with rfl | hi'
        · exact hse
        · exact IH e.on (edges j o ho e he hb) (fun o' ho' e' he' hb' => hS e.on o' hse ho' e' he' hb') i hi'
  -- in the region's own order
  have hfull : ∀ j, j ≤ L.length → frOf L es fr (fun _ => true) j = frAt es fr' j := by
    intro j
    induction j with
    | zero => intro _; rw [hF0]; rfl
    | succ j IH =>
      intro hj
      obtain ⟨o, ho⟩ : ∃ o, L[j]? = some o := ⟨_, List.getElem?_eq_getElem (by omega)⟩
      rw [(hat j o ho).1, ← IH (by omega)]
      simp [frOf, ho]
  -- the slots that an operation looks at hold what they hold in the region's own order
  have agree : ∀ (S : Nat → Bool) (j : Nat) (o : Oper), L[j]? = some o → S j = false → (∀ i, (B.getD j 0).testBit i = true → S i = true) → (∀ i, S i = true → (B.getD i 0).testBit j = false) →
      ∀ t, t ∈ looks L o → (frOf L es fr S L.length).tm.get .undef t = (frAt es fr' j).tm.get .undef t := by
    intro S j o ho hSj hb1 hb2 t ht
    have hjl : j < L.length := (List.getElem?_eq_some_iff.1 ho).1
    have s1 : ∀ i, i ≤ j → (frOf L es fr S i).tm.get .undef t = (frOf L es fr (fun _ => true) i).tm.get .undef t := by
      intro i
      induction i with
      | zero => intro _; rfl
      | succ i IH =>
        intro hi
        rw [frOf_get, frOf_get, IH (by omega)]
        by_cases hdi : (L[i]?).bind (·.dst) = some t
        · obtain ⟨x, hx'⟩ : ∃ x, L[i]? = some x := ⟨_, List.getElem?_eq_getElem (by omega)⟩
          rw [hx'] at hdi
          have hxd : x.dst = some t := hdi
          rcases (pairOk_split (pairs i j x o (by omega) hx' ho)).1 with hbit | ⟨_, h2, _⟩
          · rw [if_pos ⟨hb1 i hbit, by rw [hx']; exact hdi⟩, if_pos ⟨rfl, by rw [hx']; exact hdi⟩]
          · exact absurd ht (h2 t hxd).1
        · rw [if_neg (fun x => hdi x.2), if_neg (fun x => hdi x.2)]
    have s2 : ∀ k, j + k ≤ L.length → (frOf L es fr S (j + k)).tm.get .undef t = (frOf L es fr S j).tm.get .undef t := by
      intro k
      induction k with
      | zero => intro _; rfl
      | succ k IH =>
        intro hk
        rw [← Nat.add_assoc, frOf_get, IH (by omega)]
        rw [if_neg]
        rintro ⟨hs, hdi⟩
        by_cases hk0 : k = 0
        · subst hk0; rw [Nat.add_zero, hSj] at hs; cases hs
        · obtain ⟨y, hy⟩ : ∃ y, L[j + k]? = some y := ⟨_, List.getElem?_eq_getElem (by omega)⟩
          rw [hy] at hdi
          rcases (pairOk_split (pairs j (j + k) o y (by omega) ho hy)).1 with hbit | ⟨_, _, h3⟩
          · rw [hb2 _ hs] at hbit; cases hbit
          · exact h3 t hdi ht
    have := s2 (L.length - j) (by omega)
    rw [show j + (L.length - j) = L.length by omega] at this
    rw [this, s1 j (Nat.le_refl _), hfull j (by omega)]
  -- one more
  have more : ∀ (S : Nat → Bool) (j : Nat) (o : Oper), L[j]? = some o → S j = false → (∀ i, S i = true → (B.getD i 0).testBit j = false) →
      ∀ t, (frOf L es fr (fun x => S x || x == j) L.length).tm.get .undef t = ((frOf L es fr S L.length).put o.dst (vAt es j)).tm.get .undef t := by
    intro S j o ho hSj hb2 t
    have hjl : j < L.length := (List.getElem?_eq_some_iff.1 ho).1
    have s1 : ∀ i, i ≤ j → (frOf L es fr (fun x => S x || x == j) i).tm.get .undef t = (frOf L es fr S i).tm.get .undef t := by
      intro i
      induction i with
      | zero => intro _; rfl
      | succ i IH =>
        intro hi
        rw [frOf_get, frOf_get, IH (by omega)]
        have : (i == j) = false := by simp; omega
        rw [this, Bool.or_false]
    have s2 : ∀ k, j + 1 + k ≤ L.length → (frOf L es fr (fun x => S x || x == j) (j + 1 + k)).tm.get .undef t = ((frOf L es fr S (j + 1 + k)).put o.dst (vAt es j)).tm.get .undef t := by
      intro k
      induction k with
      | zero =>
        intro _
        rw [Nat.add_zero, frOf_get, put_get, frOf_get, s1 j (Nat.le_refl _), ho]
        simp only [beq_self_eq_true, Bool.or_true, true_and, Option.bind_some, hSj, Bool.false_eq_true, false_and, if_false]
      | succ k IH =>
        intro hk
        have hne : (j + 1 + k == j) = false := by simp; omega
        rw [← Nat.add_assoc, frOf_get, put_get, frOf_get, IH (by omega), put_get, hne, Bool.or_false]
        by_cases hdi : S (j + 1 + k) = true ∧ (L[j + 1 + k]?).bind (·.dst) = some t
        · rw [if_pos hdi, if_pos hdi]
          rw [if_neg]
          intro hdj
          obtain ⟨y, hy⟩ : ∃ y, L[j + 1 + k]? = some y := ⟨_, List.getElem?_eq_getElem (by omega)⟩
          have hyd := hdi.2
          rw [hy] at hyd
          rcases (pairOk_split (pairs j (j + 1 + k) o y (by omega) ho hy)).1 with hbit | ⟨_, h2, _⟩
          · rw [hb2 _ hdi.1] at hbit; cases hbit
          · exact (h2 t hdj).2 hyd
        · rw [if_neg hdi, if_neg hdi]
    have := s2 (L.length - (j + 1)) (by omega)
    rwa [show j + 1 + (L.length - (j + 1)) = L.length by omega] at this
  -- an act here and there
  have inS : ∀ (j : Nat) (o : Oper), L[j]? = some o → acts P o.op = true → C.la j = false → ∀ i x, i < j → L[i]? = some x → acts P x.op = true → (B.getD j 0).testBit i = true := by
    intro j o ho ha hl i x hij hx hax
    rcases (pairOk_split (pairs i j x o hij hx ho)).1 with hbit | ⟨h1, _⟩
    · exact hbit
    · rw [hax, ha] at h1; simp at h1; rw [hl] at h1; cases h1
  have stEq : ∀ (j : Nat) (o : Oper), L[j]? = some o → acts P o.op = false ∨ skAt es j = true → stAt es σ' (j + 1) = stAt es σ' j := by
    intro j o ho h
    obtain ⟨_, hsk, hnsk⟩ := hat j o ho
    cases hk : skAt es j with
    | true => exact (hsk hk).2.2
    | false =>
      have ha : acts P o.op = false := by rcases h with h | h; · exact h
                                          · rw [hk] at h; cases h
      rcases (hnsk hk).2 with h1 | ⟨f, args, σ2, h1, _⟩
      · exact (quiet ha h1).1
      · obtain ⟨_, v, hvv⟩ := quiet ha h1; cases hvv
  have madeAt : ∀ (j : Nat) (o : Oper), L[j]? = some o → C.la j = true → skAt es j = false → evalOp P (stAt es σ' j) (frAt es fr' j) o.op = some (.val (vAt es j), stAt es σ' (j + 1)) ∧ nxt es σ' (j + 1) = nxt es σ' j + 1 := by
    intro j o ho hl hk
    obtain ⟨hm, _, _⟩ := (selfOk_split (selfs j o ho)).1 hl
    have hfr : ∃ m0 a0, FrR m0 (⟨.nil, []⟩ : Fr) a0 := ⟨fun _ => none, ⟨#[], []⟩, ⟨fun t => by rw [Tr.get_nil]; simp; exact .undef⟩⟩
    rcases ((hat j o ho).2.2 hk).2 with h1 | ⟨f, args, σ2, h1, _⟩
    · refine ⟨h1, ?_⟩
      obtain ⟨x, hx⟩ := maker_new hm h1
      show (stAt es σ' (j + 1)).next = (stAt es σ' j).next + 1
      rw [hx]; rfl
    · exact absurd h1 (maker_noenter hm)
  -- own steps go on
  have adv1 : ∀ (S : Nat → Bool) (a1 : Act) (w1 : World) (c : Nat) (mf : Mp), Inv P m σ w nt C L es fr σ' S a1 w1 c mf → ∀ o, L[c]? = some o → (acts P o.op = true → S c = true) → Inv P m σ w nt C L es fr σ' S a1 w1 (c + 1) mf := by
    intro S a1 w1 c mf I o ho hs
    have hcl : c < L.length := (List.getElem?_eq_some_iff.1 ho).1
    have hN : nxt es σ' c ≤ nxt es σ' (c + 1) := nmono _ _ (by omega) (by omega)
    have hpre : ∀ i o', i < c + 1 → L[i]? = some o' → acts P o'.op = true → S i = true := fun i o' hi ho' ha => by
      by_cases e : i = c
      · subst e; rw [ho] at ho'; cases ho'; exact hs ha
      · exact I.pre i o' (by omega) ho' ha
    have easy : stAt es σ' (c + 1) = stAt es σ' c → (∀ j, c ≤ j → S j = true → C.la j = true → skAt es j = false → j ≠ c) → Inv P m σ w nt C L es fr σ' S a1 w1 (c + 1) mf := by
      intro e hne
      have eN : nxt es σ' (c + 1) = nxt es σ' c := by show (stAt es σ' (c + 1)).next = _; rw [e]; rfl
      refine ⟨by omega, hpre, fun j o' hj => I.only j o' (by omega), by rw [eN, e]; exact I.post, fun n im hn hle => ?_, fun j hj hjl hS hl hk => I.made j (by omega) hjl hS hl hk, fun t b hb => I.fr2 t b (by omega), I.df, I.sz⟩
      obtain ⟨j, h1, h2, h3, h4, h5, h6⟩ := I.pend n im hn (by omega)
      exact ⟨j, by have := hne j h1 h3 h4 h5; omega, h2, h3, h4, h5, h6⟩
    cases ha : acts P o.op with
    | false =>
      refine easy (stEq c o ho (.inl ha)) fun j hj hS hl hk e => ?_
      subst e
      have := ((selfOk_split (selfs j o ho)).1 hl).2.1
      rw [ha] at this; cases this
    | true =>
      cases hk : skAt es c with
      | true => exact easy (stEq c o ho (.inr hk)) fun j hj hS hl hk' e => by subst e; rw [hk] at hk'; cases hk'
      | false =>
        have hl : C.la c = true := by
          rcases I.only c o (Nat.le_refl _) (hs ha) ho ha with h | h
          · exact h
          · rw [hk] at h; cases h
        obtain ⟨im, x, h1, h2, h3, h4, h5, h6⟩ := I.made c (Nat.le_refl _) hcl (hs ha) hl hk
        have eN : nxt es σ' (c + 1) = nxt es σ' c + 1 := (madeAt c o ho hl hk).2
        refine ⟨by omega, hpre, fun j o' hj => I.only j o' (by omega), ?_, fun n im' hn hle => ?_, fun j hj hjl hS hl' hk' => I.made j (by omega) hjl hS hl' hk', fun t b hb => I.fr2 t b (by omega), I.df, I.sz⟩
        · rw [eN, h2]
          refine I.post.come h1 h3 h4 h5 (fun i km hi e => ?_) hw
          have := h6 i km (rs_some hi).2 e
          have h7 : i < nxt es σ' c := (rs_some hi).1
          omega
        · obtain ⟨j, k1, k2, k3, k4, k5, k6⟩ := I.pend n im' hn (by omega)
          refine ⟨j, ?_, k2, k3, k4, k5, k6⟩
          by_cases e : j = c
          · subst e; omega
          · omega
  have adv : ∀ (k : Nat) (S : Nat → Bool) (a1 : Act) (w1 : World) (c : Nat) (mf : Mp), Inv P m σ w nt C L es fr σ' S a1 w1 c mf → c + k ≤ L.length → (∀ i o, i < c + k → L[i]? = some o → acts P o.op = true → S i = true) → Inv P m σ w nt C L es fr σ' S a1 w1 (c + k) mf := by
    intro k
    induction k with
    | zero => intro S a1 w1 c mf I _ _; exact I
    | succ k IH =>
      intro S a1 w1 c mf I hk hp
      have I' := IH S a1 w1 c mf I (by omega) fun i o hi => hp i o (by omega)
      obtain ⟨o, ho⟩ : ∃ o, L[c + k]? = some o := ⟨_, List.getElem?_eq_getElem (by omega)⟩
      exact adv1 S a1 w1 (c + k) mf I' o ho fun ha => hp (c + k) o (by omega) ho ha
  have advTo : ∀ (d : Nat) (S : Nat → Bool) (a1 : Act) (w1 : World) (c : Nat) (mf : Mp), Inv P m σ w nt C L es fr σ' S a1 w1 c mf → d ≤ L.length → (∀ i o, i < d → L[i]? = some o → acts P o.op = true → S i = true) → Inv P m σ w nt C L es fr σ' S a1 w1 (max c d) mf := by
    intro d S a1 w1 c mf I hd hp
    have := I.hc
    have h1 := adv (max c d - c) S a1 w1 c mf I (by omega) fun i o hi ho ha => by
      by_cases e : i < c
      · exact I.pre i o e ho ha
      · exact hp i o (by omega) ho ha
    rwa [show c + (max c d - c) = max c d by omega] at h1
  -- the slots behind one more
  have fr2put : ∀ (S : Nat → Bool) (a1 : Act) (j : Nat) (o : Oper) (c' : Nat) (mf mf' : Mp) (v' : Value), L[j]? = some o → a1.tmps.size = nt →
      (∀ t, (frOf L es fr (fun x => S x || x == j) L.length).tm.get .undef t = ((frOf L es fr S L.length).put o.dst (vAt es j)).tm.get .undef t) → Mle mf mf' →
      (∀ t b, nxt es σ' c' ≤ b → (∀ i o, S i = true → L[i]? = some o → o.dst = some t → C.de i = false ∨ nxt es σ' (i + 1) ≤ b) → VR (rs mf b) ((frOf L es fr S L.length).tm.get .undef t) (a1.tmps.getD t undef)) →
      (∀ b, nxt es σ' c' ≤ b → C.de j = false ∨ nxt es σ' (j + 1) ≤ b → VR (rs mf' b) (vAt es j) v') →
      ∀ t b, nxt es σ' c' ≤ b → (∀ i o, (S i || i == j) = true → L[i]? = some o → o.dst = some t → C.de i = false ∨ nxt es σ' (i + 1) ≤ b) →
        VR (rs mf' b) ((frOf L es fr (fun x => S x || x == j) L.length).tm.get .undef t) ((a1.put o.dst v').tmps.getD t undef) := by
    intro S a1 j o c' mf mf' v' ho hnt hm hle h1 h2 t b hb hp
    have hdo := dst_of (nt := nt) (ops := L) hd ho
    rw [hm, put_get]
    by_cases e : o.dst = some t
    · rw [if_pos e]
      have : (a1.put o.dst v').tmps.getD t undef = v' := by
        rw [e]
        show (a1.tmps.setIfInBounds t v').getD t undef = v'
        rw [Array.getD_eq_getD_getElem?, Array.getElem?_setIfInBounds_self_of_lt (by rw [hnt]; exact hdo t e)]
        rfl
      rw [this]
      exact h2 b hb (hp j o (by simp) ho e)
    · rw [if_neg e]
      have : (a1.put o.dst v').tmps.getD t undef = a1.tmps.getD t undef := by
        cases hd' : o.dst with
        | none => rfl
        | some d =>
          have hne : d ≠ t := fun e' => e (by rw [hd', e'])
          show (a1.tmps.setIfInBounds d v').getD t undef = _
          rw [Array.getD_eq_getD_getElem?, Array.getElem?_setIfInBounds_ne hne, ← Array.getD_eq_getD_getElem?]
      rw [this]
      exact (h1 t b hb fun i o' hS => hp i o' (by simp [hS])).mono (rs_mono hle b)
  -- a step of one's own
  have own : ∀ (S : Nat → Bool) (a1 : Act) (w1 w2 : World) (c c2 j : Nat) (mf m2 : Mp) (o : Oper) (v' : Value), Inv P m σ w nt C L es fr σ' S a1 w1 c mf → L[j]? = some o → S j = false →
      (∀ t, (frOf L es fr (fun x => S x || x == j) L.length).tm.get .undef t = ((frOf L es fr S L.length).put o.dst (vAt es j)).tm.get .undef t) →
      Post P (rs mf (nxt es σ' c)) (stAt es σ' c) w1 m2 (stAt es σ' c2) w2 → VR m2 (vAt es j) v' → C.de j = false →
      (c2 = c ∧ acts P o.op = false) ∨ (c2 = c + 1 ∧ c = j) → ∃ mf', Inv P m σ w nt C L es fr σ' (fun x => S x || x == j) (a1.put o.dst v') w2 c2 mf' := by
    intro S a1 w1 w2 c c2 j mf m2 o v' I ho hSj hm hp hv hde hcc
    have hjl : j < L.length := (List.getElem?_eq_some_iff.1 ho).1
    have hc2 : c2 ≤ L.length := by have := I.hc; omega
    have hNc : nxt es σ' c ≤ nxt es σ' c2 := nmono _ _ (by omega) hc2
    have hdom : ∀ n im, m2 n = some im → n < nxt es σ' c2 := fun n im hn => (hp.wr.dom n im hn).1
    -- what is behind is behind the next one, too
    have behind : ∀ i, c ≤ i → S i = true → c2 ≤ i := fun i hi hS => by
      rcases hcc with ⟨rfl, _⟩ | ⟨rfl, rfl⟩
      · exact hi
      · by_cases e : i = c
        · subst e; rw [hSj] at hS; cases hS
        · omega
    have gap : ∀ n im, mf n = some im → nxt es σ' c ≤ n → nxt es σ' c2 ≤ n := fun n im hn hle => by
      obtain ⟨i, h1, h2, h3, _, _, h6⟩ := I.pend n im hn hle
      rw [h6]
      exact nmono _ _ (behind i h1 h3) (by omega)
    refine ⟨fun n => if n < nxt es σ' c2 then m2 n else mf n, ?_⟩
    generalize hmf' : (fun n => if n < nxt es σ' c2 then m2 n else mf n) = mf'
    have lo : ∀ n, n < nxt es σ' c2 → mf' n = m2 n := fun n hn => by rw [← hmf']; exact if_pos hn
    have hi : ∀ n, ¬ n < nxt es σ' c2 → mf' n = mf n := fun n hn => by rw [← hmf']; exact if_neg hn
    have hrs : rs mf' (nxt es σ' c2) = m2 := by
      funext n
      unfold rs
      by_cases e : n < nxt es σ' c2
      · rw [if_pos e, lo n e]
      · rw [if_neg e]
        cases h2 : m2 n with
        | none => rfl
        | some im => exact absurd (hdom n im h2) e
    have hle : Mle mf mf' := fun n im hn => by
      by_cases e : n < nxt es σ' c2
      · rw [lo n e]
        by_cases e' : n < nxt es σ' c
        · exact hp.ext.le _ _ (rs_of hn e')
        · have := gap n im hn (by omega); omega
      · rw [hi n e]; exact hn
    refine ⟨hc2, fun i o' hi' ho' ha => ?_, fun i o' hi' hS ho' ha => ?_, ?_, fun n im hn hle' => ?_, fun i hi' hil hS hl hk => ?_, ?_, by rw [Act.put_df]; exact I.df, by rw [Act.put_size]; exact I.sz⟩
    · rcases hcc with ⟨rfl, _⟩ | ⟨rfl, rfl⟩
      · rw [I.pre i o' hi' ho' ha]; rfl
      · by_cases e : i = c
        · subst e; simp
        · rw [I.pre i o' (by omega) ho' ha]; rfl
    · rcases orT hS with h | h
      · exact I.only i o' (by omega) h ho' ha
      · have : i = j := by simpa using h
        subst this
        rcases hcc with ⟨_, h0⟩ | ⟨rfl, rfl⟩
        · rw [ho] at ho'; cases ho'; rw [h0] at ha; cases ha
        · omega
    · rw [hrs]; exact I.post.trans hp
    · rw [hi n (by omega)] at hn
      obtain ⟨i, h1, h2, h3, h4, h5, h6⟩ := I.pend n im hn (by omega)
      exact ⟨i, behind i h1 h3, h2, by rw [h3]; rfl, h4, h5, h6⟩
    · have hSi : S i = true := by
        rcases orT hS with h | h
        · exact h
        · have : i = j := by simpa using h
          subst this
          rcases hcc with ⟨_, h0⟩ | ⟨rfl, rfl⟩
          · have := ((selfOk_split (selfs i o ho)).1 hl).2.1
            rw [h0] at this; cases this
          · omega
      obtain ⟨im, x, h1, h2, h3, h4, h5, h6⟩ := I.made i (by omega) hil hSi hl hk
      have hni : nxt es σ' c2 ≤ nxt es σ' i := nmono _ _ hi' (by omega)
      have huntouched : ∀ B, B = im.blk → w2.heap[B]? = w1.heap[B]? := fun B hB => by
        subst hB
        refine hp.kp.block _ h4 fun i' km hkm _ e => ?_
        have := h6 i' km (rs_some hkm).2 e
        have := (rs_some hkm).1
        omega
      refine ⟨im, x, hle _ _ h1, h2, by rw [huntouched _ rfl]; exact h3.mono (rs_mono hle _), Nat.lt_of_lt_of_le h4 hp.kp.size, h5, fun i' km hkm e => ?_⟩
      by_cases e' : i' < nxt es σ' c2
      · exfalso
        rw [lo i' e'] at hkm
        cases hr : rs mf (nxt es σ' c) i' with
        | some km' =>
          have h7 := hp.ext.le _ _ hr
          rw [hkm] at h7; cases h7
          have := h6 i' km (rs_some hr).2 e
          have := (rs_some hr).1
          omega
        | none =>
          rcases (hp.ext.new i' km hkm hr).2 with h7 | ⟨jj, jm, hjj, _, hjb⟩
          · omega
          · have := h6 jj jm (rs_some hjj).2 (hjb.trans e)
            have := (rs_some hjj).1
            omega
      · rw [hi i' e'] at hkm; exact h6 i' km hkm e
    · refine fr2put S a1 j o c2 mf mf' v' ho I.sz hm hle (fun t b hb => I.fr2 t b (by omega)) fun b hb _ => ?_
      refine hv.mono ?_
      rw [← hrs]
      exact rs_up hb
  -- the induction
  have main : ∀ (fuel : Nat) (listed : Array Bool) (a1 : Act) (w1 : World) (c : Nat) (mf : Mp), listed.size = ops.size → unl listed ops.size ≤ fuel →
      (∀ (j : Nat) (o : Oper), listed.getD j false = true → L[j]? = some o → ∀ e ∈ o.after.toList, Region.binds .any e = true → listed.getD e.on false = true) →
      Inv P m σ w nt C L es fr σ' (fun j => listed.getD j false) a1 w1 c mf →
      wpAny P .any ops (QR P m σ w nt (.nrm fr' σ')) fuel listed a1 w1 := by
    intro fuel
    have fin : ∀ (listed : Array Bool) (a1 : Act) (w1 : World) (c : Nat) (mf : Mp), listed.size = ops.size → (∀ j, j < ops.size → listed.getD j true = true) →
        Inv P m σ w nt C L es fr σ' (fun j => listed.getD j false) a1 w1 c mf → QR P m σ w nt (.nrm fr' σ') .normal a1 w1 := by
      intro listed a1 w1 c mf hsz hall' I
      have hS : ∀ j, j < L.length → listed.getD j false = true := fun j hj => by
        have := hall' j (by omega)
        rw [Array.getD_eq_getD_getElem?] at this ⊢
        have hlt : j < listed.size := by omega
        rw [Array.getElem?_eq_getElem hlt] at this ⊢
        exact this
      have e1 : ∀ i, i ≤ L.length → frOf L es fr (fun j => listed.getD j false) i = frOf L es fr (fun _ => true) i := by
        intro i
        induction i with
        | zero => intro _; rfl
        | succ i IH => intro hi; simp only [frOf]; rw [hS i (by omega), IH (by omega)]
      have I' := advTo L.length _ a1 w1 c mf I (Nat.le_refl _) fun i o hi _ _ => hS i hi
      rw [show max c L.length = L.length by have := I.hc; omega] at I'
      have hFn : frAt es fr' L.length = fr' := by simp [frAt, hlen]
      have hσn : stAt es σ' L.length = σ' := by simp [stAt, hlen]
      have hp := I'.post
      rw [hσn] at hp
      have hfr : FrR (rs mf (nxt es σ' L.length)) fr' a1 := by
        rw [← hFn, ← hfull _ (Nat.le_refl _), ← e1 _ (Nat.le_refl _)]
        exact ⟨fun t => I'.fr2 t _ (Nat.le_refl _) fun i o _ ho _ => .inr (nmono _ _ (by have := (List.getElem?_eq_some_iff.1 ho).1; omega) (Nat.le_refl _))⟩
      have hdff : fr'.df = fr.df := by rw [← hFn, ← hfull _ (Nat.le_refl _)]; exact frOf_df _
      exact ⟨_, ⟨hfr, by rw [hdff]; exact I'.df.mono hp.ext.le, I'.sz⟩, hp⟩
    induction fuel with
    | zero =>
      intro listed a1 w1 c mf hsz hun hcl I
      have hall' := unl_zero (listed := listed) (n := ops.size) (by omega)
      refine ⟨?_, fin listed a1 w1 c mf hsz hall' I⟩
      apply List.eq_nil_iff_forall_not_mem.2
      intro j hj
      obtain ⟨h0, o, ho, _⟩ := mem_ready.1 hj
      have hlt : j < ops.size := (Array.getElem?_eq_some_iff.1 ho).1
      rw [hall' j hlt] at h0; cases h0
    | succ fuel IH =>
      intro listed a1 w1 c mf hsz hun hcl I
      refine ⟨fun hr => ?_, fun j hj => ?_⟩
      · -- nothing is ready: all have come
        refine fin listed a1 w1 c mf hsz ?_ I
        intro j
        induction j using Nat.strongRecOn with
        | _ j IHj =>
          intro hj
          cases hl : listed.getD j true with
          | true => rfl
          | false =>
            exfalso
            have ho : ops[j]? = some ops[j] := Array.getElem?_eq_getElem hj
            have : j ∈ Region.ready .any ops listed := mem_ready.2 ⟨hl, ops[j], ho, fun e he hb => by
              have hlt := edges j ops[j] ((hop _ _).1 ho) e (Array.mem_toList_iff.2 he) hb
              have := IHj e.on hlt (by omega)
              rw [Array.getD_eq_getD_getElem?] at this ⊢
              have hlt' : e.on < listed.size := by omega
              rw [Array.getElem?_eq_getElem hlt'] at this ⊢
              exact this⟩
            rw [hr] at this; cases this
      · obtain ⟨hunl, o, ho, hedge⟩ := mem_ready.1 hj
        have hjs : j < ops.size := (Array.getElem?_eq_some_iff.1 ho).1
        have hoL := (hop j o).1 ho
        have hSj : listed.getD j false = false := by
          rw [Array.getD_eq_getD_getElem?] at hunl ⊢
          have hlt : j < listed.size := by omega
          rw [Array.getElem?_eq_getElem hlt] at hunl ⊢
          exact hunl
        have hb1 := closed_bits (fun j => listed.getD j false) hcl j (fun o' ho' e he hb => by
          rw [hoL] at ho'; cases ho'
          exact hedge e (Array.mem_toList_iff.1 he) hb)
        have hb2 : ∀ i, listed.getD i false = true → (B.getD i 0).testBit j = false := fun i hi => by
          cases hbit : (B.getD i 0).testBit j with
          | false => rfl
          | true =>
            have := closed_bits (fun j => listed.getD j false) hcl i (fun o' ho' => hcl i o' hi ho') j hbit
            have this : listed.getD j false = true := this
            rw [hSj] at this; cases this
        have hag := agree (fun j => listed.getD j false) j o hoL hSj hb1 hb2
        have hmore := more (fun j => listed.getD j false) j o hoL hSj hb2
        have hset : ∀ i, (listed.setIfInBounds j true).getD i false = (listed.getD i false || i == j) := fun i => by
          by_cases e : i = j
          · subst e
            have : i < listed.size := by omega
            simp [this]
          · rw [getD_set_ne false (Ne.symm e)]
            have : (i == j) = false := by simpa using e
            rw [this, Bool.or_false]
        have hseteq : (fun i => (listed.setIfInBounds j true).getD i false) = fun i => listed.getD i false || i == j := funext hset
        have hagO : Agree (frOf L es fr (fun j => listed.getD j false) L.length) (frAt es fr' j) o.op.operands.toList := fun t ht => hag t (List.mem_append.2 (.inl (mem_tmpsOf ht)))
        have hwt : wantedS L (frOf L es fr (fun j => listed.getD j false) L.length) o.guard = wantedS L (frAt es fr' j) o.guard := by
          unfold wantedS
          cases hg : o.guard with
          | none => rfl
          | some g =>
            obtain ⟨gj, want⟩ := g
            simp only []
            cases hdd : (L[gj]?).bind (·.dst) with
            | none => rfl
            | some d =>
              simp only []
              rw [hag d (List.mem_append.2 (.inr (by rw [hg]; simp only []; rw [hdd]; simp)))]
        obtain ⟨hFj, hsk, hnsk⟩ := hat j o hoL
        have hself := selfOk_split (selfs j o hoL)
        have hjl : j < L.length := by omega
        -- it has not been passed
        have notYet : acts P o.op = true → c ≤ j := fun ha => by
          rcases Nat.lt_or_ge j c with h | h
          · have := I.pre j o h hoL ha
            rw [hSj] at this; cases this
          · exact h
        -- all slots
        have hfrall : FrR mf (frOf L es fr (fun j => listed.getD j false) L.length) a1 := ⟨fun t =>
          (I.fr2 t (nxt es σ' L.length) (nmono _ _ I.hc (Nat.le_refl _)) fun i o' _ ho' _ => .inr (nmono _ _ (by have := (List.getElem?_eq_some_iff.1 ho').1; omega) (Nat.le_refl _))).mono (rs_le _ _)⟩
        -- who has written the slots that it looks at
        have writer : ∀ t, t ∈ looks L o → ∀ i o', listed.getD i false = true → L[i]? = some o' → o'.dst = some t → i < j ∧ (B.getD j 0).testBit i = true := fun t ht i o' hi ho' hdt => by
          rcases Nat.lt_trichotomy i j with h | h | h
          · refine ⟨h, ?_⟩
            rcases (pairOk_split (pairs i j o' o h ho' hoL)).1 with hbit | ⟨_, h2, _⟩
            · exact hbit
            · exact absurd ht (h2 t hdt).1
          · subst h; rw [hSj] at hi; cases hi
          · exfalso
            rcases (pairOk_split (pairs j i o o' h hoL ho')).1 with hbit | ⟨_, _, h3⟩
            · rw [hb2 i hi] at hbit; cases hbit
            · exact h3 t hdt ht
        -- behind the operation
        have next : ∀ (v' : Value) (w2 : World) (c2 : Nat) (mf2 : Mp), Inv P m σ w nt C L es fr σ' (fun i => listed.getD i false || i == j) (a1.put o.dst v') w2 c2 mf2 →
            wpAny P .any ops (QR P m σ w nt (.nrm fr' σ')) fuel (listed.setIfInBounds j true) (a1.put o.dst v') w2 := by
          intro v' w2 c2 mf2 I2
          refine IH _ _ _ c2 mf2 (by simpa using hsz) ?_ ?_ (by rw [hseteq]; exact I2)
          · have := unl_set hunl ops.size
            rw [if_pos hjs] at this; omega
          · intro i o' hi ho' e he hb
            rw [hset] at hi ⊢
            simp only [Bool.or_eq_true] at hi ⊢
            rcases hi with hi | hi
            · exact .inl (hcl i o' hi ho' e he hb)
            · have : i = j := by simpa using hi
              subst this
              rw [hoL] at ho'; cases ho'
              exact .inl (hedge e (Array.mem_toList_iff.1 he) hb)
        unfold wpOp
        simp only [ho]
        rw [wanted_sound hfrall, hLL, hwt]
        -- with its operands alone
        have sel : ∀ (m1 : Mp), (∀ t, Operand.tmp t ∈ o.op.operands.toList → VR m1 ((frOf L es fr (fun j => listed.getD j false) L.length).tm.get .undef t) (a1.tmps.getD t undef)) →
            ∃ f1 b1, FrR m1 f1 b1 ∧ Agree f1 (frAt es fr' j) o.op.operands.toList ∧ ∀ x ∈ o.op.operands, b1.eval x = a1.eval x := by
          intro m1 hv
          have hmemt : ∀ {l : List Operand} {t : Tmp}, t ∈ tmpsOf l → Operand.tmp t ∈ l := by
            intro l
            induction l with
            | nil => intro t h; cases h
            | cons x l IHl =>
              intro t h
              cases x with
              | tmp u =>
                rcases List.mem_cons.1 h with h | h
                · subst h; exact List.mem_cons_self
                · exact List.mem_cons_of_mem _ (IHl h)
              | _ => exact List.mem_cons_of_mem _ (IHl h)
          refine ⟨_, _, sel_rel (ts := tmpsOf o.op.operands.toList) (f := frOf L es fr (fun j => listed.getD j false) L.length) (a := a1) fun t ht => hv t (hmemt ht), fun t ht => ?_, fun x hx => sel_eval fun t e => ?_⟩
          · rw [← hagO t ht]
            show (frSel _ _).get .undef t = _
            rw [frSel_get, if_pos (mem_tmpsOf ht)]
          · subst e; exact mem_tmpsOf (Array.mem_toList_iff.2 hx)
        cases hskj : skAt es j with
        | true =>
          obtain ⟨hw1, hv1, hs1⟩ := hsk hskj
          rw [hw1]
          simp only [Bool.false_eq_true, if_false]
          refine next undef w1 c mf ⟨I.hc, fun i o' hi ho' ha => by rw [I.pre i o' hi ho' ha]; rfl, fun i o' hi hS ho' ha => ?_, I.post, fun n im hn hle => ?_, fun i hi hil hS hl hk => ?_, ?_, by rw [Act.put_df]; exact I.df, by rw [Act.put_size]; exact I.sz⟩
          · rcases orT hS with h | h
            · exact I.only i o' hi h ho' ha
            · have : i = j := by simpa using h
              subst this; exact .inr hskj
          · obtain ⟨i, h1, h2, h3, h4, h5, h6⟩ := I.pend n im hn hle
            exact ⟨i, h1, h2, by rw [h3]; rfl, h4, h5, h6⟩
          · rcases orT hS with h | h
            · exact I.made i hi hil h hl hk
            · have : i = j := by simpa using h
              subst this; rw [hskj] at hk; cases hk
          · exact fr2put _ a1 j o c mf mf undef hoL I.sz hmore (fun _ _ h => h) I.fr2 fun b _ _ => by rw [hv1]; exact .undef
        | false =>
          obtain ⟨hw1, hev⟩ := hnsk hskj
          rw [hw1]
          simp only [if_true]
          refine .inl ?_
          unfold Oper.wp
          cases hact : acts P o.op with
          | false =>
            have h1 : evalOp P (stAt es σ' j) (frAt es fr' j) o.op = some (.val (vAt es j), stAt es σ' (j + 1)) := by
              rcases hev with h1 | ⟨f, args, σ2, h1, _⟩
              · exact h1
              · obtain ⟨_, v, hvv⟩ := quiet hact h1; cases hvv
            cases hde : C.de j with
            | true =>
              -- it hangs on a block that was made before its time: it looks at the slots alone
              have hso := hself.2.2.1 hact hde
              obtain ⟨f1, b1, hf1, hag1, hev1⟩ := sel (rs mf (max (nxt es σ' c) (nxt es σ' j))) fun t ht => by
                refine I.fr2 t _ (Nat.le_max_left _ _) fun i o' hi ho' hdt => .inr ?_
                have := (writer t (List.mem_append.2 (.inl (mem_tmpsOf ht))) i o' hi ho' hdt).1
                exact Nat.le_trans (nmono (i + 1) j (by omega) (by omega)) (Nat.le_max_right _ _)
              rw [← evalOp_congr hag1] at h1
              obtain ⟨_, v, v', e1, hrun, hv⟩ := slot_sound hf1 hso h1 w1
              cases e1
              rw [← execOp_congr o (noSelect h1) hev1, hrun]
              refine next v' w1 c mf ⟨I.hc, fun i o' hi ho' ha => by rw [I.pre i o' hi ho' ha]; rfl, fun i o' hi hS ho' ha => ?_, I.post, fun n im hn hle => ?_, fun i hi hil hS hl hk => ?_, ?_, by rw [Act.put_df]; exact I.df, by rw [Act.put_size]; exact I.sz⟩
              · rcases orT hS with h | h
                · exact I.only i o' hi h ho' ha
                · have : i = j := by simpa using h
                  subst this; rw [hoL] at ho'; cases ho'; rw [hact] at ha; cases ha
              · obtain ⟨i, k1, k2, k3, k4, k5, k6⟩ := I.pend n im hn hle
                exact ⟨i, k1, k2, by rw [k3]; rfl, k4, k5, k6⟩
              · rcases orT hS with h | h
                · exact I.made i hi hil h hl hk
                · have : i = j := by simpa using h
                  subst this
                  have := (hself.1 hl).2.1
                  rw [hact] at this; cases this
              · refine fr2put _ a1 j o c mf mf v' hoL I.sz hmore (fun _ _ h => h) I.fr2 fun b hb hq => hv.mono (rs_up ?_)
                rcases hq with hq | hq
                · rw [hde] at hq; cases hq
                · exact Nat.max_le.2 ⟨hb, Nat.le_trans (nmono j (j + 1) (by omega) (by omega)) hq⟩
            | false =>
              -- as far as what it hangs on
              have hfrle : C.fr j ≤ L.length := by
                cases hk : C.fr j with
                | zero => omega
                | succ k =>
                  obtain ⟨_, _, x, hx, _⟩ := hself.2.2.2 k hk
                  have := (List.getElem?_eq_some_iff.1 hx).1; omega
              have I' := advTo (C.fr j) _ a1 w1 c mf I hfrle fun i x hi hx ha => by
                cases hk : C.fr j with
                | zero => omega
                | succ k =>
                  obtain ⟨k1, k2, y, hy, hya⟩ := hself.2.2.2 k hk
                  have hSk := hb1 k k1
                  by_cases e : i = k
                  · subst e; exact hSk
                  · have hbit := inS k y hy hya k2 i x (by omega) hx ha
                    exact closed_bits (fun j => listed.getD j false) hcl k (fun o' ho' => hcl k o' hSk ho') i hbit
              generalize hcc : max c (C.fr j) = c' at I'
              have hread : ∃ σ2, evalOp P (stAt es σ' c') (frAt es fr' j) o.op = some (.val (vAt es j), σ2) := by
                have hhi : cntF P c' L ≤ countA P B j L 0 := by
                  rw [countA_eq, cntF_eq c' L 0]
                  refine cntS_mono L 0 fun k x hx ha hk => ?_
                  rw [Nat.zero_add] at hk ⊢
                  rw [Nat.zero_add] at hk
                  have hk := of_decide_eq_true hk
                  rw [hb2 k (I'.pre k x hk hx ha)]; rfl
                have hlo : cntF P (C.fr j) L ≤ cntF P c' L := by
                  rw [cntF_eq _ L 0, cntF_eq c' L 0]
                  refine cntS_mono L 0 fun k x hx ha hk => ?_
                  rw [Nat.zero_add] at hk ⊢
                  rw [Nat.zero_add] at hk
                  have hk := of_decide_eq_true hk
                  rw [Nat.zero_add]
                  exact decide_eq_true (by omega)
                have hcan2 : cntF P j L ≤ countA P B j L 0 := by
                  rw [countA_eq, cntF_eq j L 0]
                  refine cntS_mono L 0 fun k x _ _ hk => ?_
                  rw [Nat.zero_add] at hk ⊢
                  rw [Nat.zero_add] at hk
                  have hk := of_decide_eq_true hk
                  cases hbit : (B.getD k 0).testBit j with
                  | false => rfl
                  | true =>
                    have := closed_bits (fun i => decide (i < k)) (fun i o' hi ho' e he hb => by
                      have := edges i o' ho' e he hb
                      simp at hi ⊢; omega) k (fun o' ho' e he hb => by have := edges k o' ho' e he hb; simp; omega) j hbit
                    simp at this; omega
                have hcan1 : cntF P (C.fr j) L ≤ cntF P j L := by
                  rw [cntF_eq _ L 0, cntF_eq j L 0]
                  refine cntS_mono L 0 fun k x hx ha hk => ?_
                  rw [Nat.zero_add] at hk ⊢
                  rw [Nat.zero_add] at hk
                  have hk := of_decide_eq_true hk
                  rw [Nat.zero_add]
                  refine decide_eq_true ?_
                  cases hq : C.fr j with
                  | zero => omega
                  | succ q =>
                    obtain ⟨k1, _, _⟩ := hself.2.2.2 q hq
                    have := of_decide_eq_true (closed_bits (fun i => decide (i < j)) (fun i o' hi ho' e he hb => by
                      have := edges i o' ho' e he hb
                      simp at hi ⊢; omega) j (fun o' ho' e he hb => by have := edges j o' ho' e he hb; simp; omega) q k1)
                    omega
                obtain ⟨e, he⟩ : ∃ e, es[j]? = some e := ⟨_, List.getElem?_eq_getElem (by omega)⟩
                have hes : e.sk = false := by have := hskj; simp [skAt, he] at this; exact this
                have hef : e.fr = frAt es fr' j := by simp [frAt, he]
                have hev' : e.v = vAt es j := by simp [vAt, he]
                have hsb0 := hstab j o e hoL he hact hes (by rw [Nat.zero_add]; exact hde)
                rw [Nat.zero_add] at hsb0
                have hc'l : c' ≤ L.length := I'.hc
                rcases hsb0 with heq | hin | hsb
                rotate_left
                · exact ⟨_, indep_any hin h1⟩
                rotate_left
                · have hq : cntF P c' L = cntF P j L := by omega
                  have e1 := htau c' hc'l
                  rw [hq, htau j (by omega)] at e1
                  exact ⟨_, by rw [← Option.some.inj e1]; exact h1⟩
                · rw [hef, hev'] at hsb
                  obtain ⟨τ', σ2, h3, h4⟩ := stable_spec _ _ hsb (cntF P c' L - cntF P (C.fr j) L) (by omega)
                  rw [List.getElem?_drop, show cntF P (C.fr j) L + (cntF P c' L - cntF P (C.fr j) L) = cntF P c' L by omega, htau c' hc'l] at h3
                  cases h3
                  exact ⟨σ2, h4⟩
              obtain ⟨σ2, hread⟩ := hread
              have hsame := (quiet hact hread).1
              subst hsame
              obtain ⟨f1, b1, hf1, hag1, hev1⟩ := sel (rs mf (nxt es σ' c')) fun t ht => by
                refine I'.fr2 t _ (Nat.le_refl _) fun i o' hi ho' hdt => ?_
                obtain ⟨hij, hbit⟩ := writer t (List.mem_append.2 (.inl (mem_tmpsOf ht))) i o' hi ho' hdt
                cases hdi : C.de i with
                | false => exact .inl rfl
                | true =>
                  refine .inr (nmono _ _ ?_ I'.hc)
                  rcases (pairOk_split (pairs i j o' o hij ho' hoL)).2 hdi hbit with h | h | h
                  · rw [hact] at h; cases h
                  · rw [hde] at h; cases h
                  · omega
              rw [← evalOp_congr hag1] at hread
              obtain ⟨m2, w2, nx', hrun, hnx, hp2⟩ := op_sound hx I'.post.wr hf1 hread
              rw [← execOp_congr o (noSelect hread) hev1, hrun]
              generalize hvv : vAt es j = vv at hnx
              have fin2 : ∀ v', VR m2 vv v' → wpAny P .any ops (QR P m σ w nt (.nrm fr' σ')) fuel (listed.setIfInBounds j true) (a1.put o.dst v') w2 := fun v' hv => by
                obtain ⟨mf', I2⟩ := own _ a1 w1 w2 c' c' j mf m2 o v' I' hoL hSj hmore hp2 (by rw [hvv]; exact hv) hde (.inl ⟨rfl, hact⟩)
                exact next v' w2 c' mf' I2
              cases hnx with
              | val hv => exact fin2 _ hv
              | skip => exact fin2 _ .undef
          | true =>
            cases hla : C.la j with
            | true =>
              -- it makes a block, maybe before its time
              obtain ⟨h1, hNj⟩ := madeAt j o hoL hla hskj
              have hmk := (hself.1 hla).1
              have hcj := notYet hact
              have hNcj : nxt es σ' c ≤ nxt es σ' j := nmono _ _ hcj (by omega)
              obtain ⟨f1, b1, hf1, hag1, hev1⟩ := sel (rs mf (nxt es σ' j)) fun t ht => by
                refine I.fr2 t _ hNcj fun i o' hi ho' hdt => .inr ?_
                have := (writer t (List.mem_append.2 (.inl (mem_tmpsOf ht))) i o' hi ho' hdt).1
                exact nmono (i + 1) j (by omega) (by omega)
              rw [← evalOp_congr hag1] at h1
              obtain ⟨v, x, obj, tot, v', e1, e2, hxd, hrun, hbr, hvr⟩ := maker_sound hf1 hmk h1 w1
              cases e1
              rw [← execOp_congr o (noSelect h1) hev1, hrun]
              have hfree : mf (nxt es σ' j) = none := by
                cases hq : mf (nxt es σ' j) with
                | none => rfl
                | some im =>
                  exfalso
                  obtain ⟨i, k1, k2, k3, k4, k5, k6⟩ := I.pend _ im hq hNcj
                  obtain ⟨oi, hoi⟩ : ∃ oi, L[i]? = some oi := ⟨_, List.getElem?_eq_getElem k2⟩
                  have hNi := (madeAt i oi hoi k4 k5).2
                  rcases Nat.lt_trichotomy i j with h | h | h
                  · have := nmono (i + 1) j (by omega) (by omega); omega
                  · subst h; rw [hSj] at k3; cases k3
                  · have := nmono (j + 1) i (by omega) (by omega); omega
              have hle : Mle mf (upd mf (nxt es σ' j) ⟨w1.heap.size, 0, tot⟩) := fun n im hn => by
                by_cases e : n = nxt es σ' j
                · subst e; rw [hfree] at hn; cases hn
                · rw [upd_other _ e]; exact hn
              have hrs : ∀ b, b ≤ nxt es σ' j → rs (upd mf (nxt es σ' j) ⟨w1.heap.size, 0, tot⟩) b = rs mf b := fun b hb => by
                funext n
                unfold rs
                by_cases e : n < b
                · rw [if_pos e, if_pos e, upd_other _ (by omega)]
                · rw [if_neg e, if_neg e]
              have hsmall : ∀ n im, mf n = some im → im.blk < w1.heap.size := fun n im hn => by
                by_cases e : n < nxt es σ' c
                · exact (I.post.wr.dom n im (rs_of hn e)).2
                · obtain ⟨i, k1, k2, k3, k4, k5, k6⟩ := I.pend n im hn (by omega)
                  obtain ⟨im', _, k7, _, _, k8, _⟩ := I.made i k1 k2 k3 k4 k5
                  rw [← k6, hn] at k7; cases k7; exact k8
              have hold : ∀ B, B < w1.heap.size → (w1.alloc obj).heap[B]? = w1.heap[B]? := fun B hB => heap_alloc_old w1 obj hB
              refine next v' _ c (upd mf (nxt es σ' j) ⟨w1.heap.size, 0, tot⟩) ⟨I.hc, fun i o' hi ho' ha => by rw [I.pre i o' hi ho' ha]; rfl, fun i o' hi hS ho' ha => ?_, ?_, fun n im hn hle' => ?_, fun i hi hil hS hl hk => ?_, ?_, by rw [Act.put_df]; exact I.df, by rw [Act.put_size]; exact I.sz⟩
              · rcases orT hS with h | h
                · exact I.only i o' hi h ho' ha
                · have : i = j := by simpa using h
                  subst this; exact .inl hla
              · rw [hrs _ hNcj]; exact I.post.extra obj
              · by_cases e : n = nxt es σ' j
                · exact ⟨j, hcj, hjl, by simp, hla, hskj, e⟩
                · rw [upd_other _ e] at hn
                  obtain ⟨i, k1, k2, k3, k4, k5, k6⟩ := I.pend n im hn hle'
                  exact ⟨i, k1, k2, by rw [k3]; rfl, k4, k5, k6⟩
              · rcases orT hS with h | h
                · obtain ⟨im, x', k1, k2, k3, k4, k5, k6⟩ := I.made i hi hil h hl hk
                  refine ⟨im, x', hle _ _ k1, k2, by rw [hold _ k4]; exact k3.mono (rs_mono hle _), by simp; omega, k5, fun i' km hkm e => ?_⟩
                  by_cases e' : i' = nxt es σ' j
                  · subst e'; rw [upd_same] at hkm; cases hkm; simp at e; omega
                  · rw [upd_other _ e'] at hkm; exact k6 i' km hkm e
                · have : i = j := by simpa using h
                  subst this
                  refine ⟨⟨w1.heap.size, 0, tot⟩, x, upd_same .., e2, ?_, by simp, I.post.kp.size, fun i' km hkm e => ?_⟩
                  · rw [hrs _ (Nat.le_refl _)]
                    have : (w1.alloc obj).heap[w1.heap.size]? = some obj := heap_alloc_new w1 obj
                    rw [this]; exact hbr
                  · by_cases e' : i' = nxt es σ' i
                    · exact e'
                    · rw [upd_other _ e'] at hkm
                      have := hsmall i' km hkm
                      simp at e; omega
              · refine fr2put _ a1 j o c mf _ v' hoL I.sz hmore hle I.fr2 fun b hb hq => ?_
                have hb' : nxt es σ' (j + 1) ≤ b := by
                  rcases hq with hq | hq
                  · rw [(hself.1 hla).2.2] at hq; cases hq
                  · exact hq
                refine hvr _ (rs_of (upd_same ..) ?_)
                show nxt es σ' j < b
                omega
            | false =>
              have hde := hself.2.1 hact hla
              have hcj := notYet hact
              have I' := advTo j _ a1 w1 c mf I (by omega) fun i x hi hx ha => hb1 i (inS j o hoL hact hla i x hi hx ha)
              rw [show max c j = j by omega] at I'
              obtain ⟨f1, b1, hf1, hag1, hev1⟩ := sel (rs mf (nxt es σ' j)) fun t ht => by
                refine I'.fr2 t _ (Nat.le_refl _) fun i o' hi ho' hdt => .inr ?_
                have := (writer t (List.mem_append.2 (.inl (mem_tmpsOf ht))) i o' hi ho' hdt).1
                exact nmono (i + 1) j (by omega) (by omega)
              have fin2 : ∀ v' m2 w2, VR m2 (vAt es j) v' → Post P (rs mf (nxt es σ' j)) (stAt es σ' j) w1 m2 (stAt es σ' (j + 1)) w2 → wpAny P .any ops (QR P m σ w nt (.nrm fr' σ')) fuel (listed.setIfInBounds j true) (a1.put o.dst v') w2 := fun v' m2 w2 hv hp2 => by
                obtain ⟨mf', I2⟩ := own _ a1 w1 w2 j (j + 1) j mf m2 o v' I' hoL hSj hmore hp2 hv hde (.inr ⟨rfl, rfl⟩)
                exact next v' w2 (j + 1) mf' I2
              rcases hev with h1 | ⟨f, args, σ2, h1, hcall⟩
              · rw [← evalOp_congr hag1] at h1
                obtain ⟨m2, w2, nx', hrun, hnx, hp2⟩ := op_sound hx I'.post.wr hf1 h1
                rw [← execOp_congr o (noSelect h1) hev1, hrun]
                generalize hvv : vAt es j = vv at hnx fin2
                cases hnx with
                | val hv => exact fin2 _ m2 w2 hv hp2
                | skip => exact fin2 _ m2 w2 .undef hp2
              · rw [← evalOp_congr hag1] at h1
                obtain ⟨m2, w2, nx', hrun, hnx, hp2⟩ := op_sound hx I'.post.wr hf1 h1
                rw [← execOp_congr o (noSelect h1) hev1, hrun]
                cases hnx with
                | enter hl =>
                  rw [Oper.upon_enter]
                  refine (hc _ _ _ _ _ _ hcall m2 _ w2 hl hp2.wr).mono fun e w3 he => ?_
                  obtain ⟨m3, v', rfl, hv, hp3⟩ := he
                  exact fin2 v' m3 w3 hv (hp2.trans hp3)
  have h00 : ∀ k, (Array.replicate ops.size false).getD k false = false := fun k => by
    rw [Array.getD_eq_getD_getElem?]
    rcases Nat.lt_or_ge k ops.size with h | h <;> simp [h]
  refine main ops.size _ a _ 0 (rs m σ.next) (by simp) ?_ ?_ ?_
  · have : ∀ (listed : Array Bool) (k : Nat), unl listed k ≤ k := by
      intro listed k
      induction k with
      | zero => exact Nat.le_refl _
      | succ k IH => unfold unl; split <;> omega
    exact this _ _
  · intro j o hj; rw [h00] at hj; cases hj
  · have hn0 : nxt es σ' 0 = σ.next := by show (stAt es σ' 0).next = _; rw [hσ0]
    have hrm : ∀ b, σ.next ≤ b → rs (rs m σ.next) b = m := fun b hb => by
      funext n
      unfold rs
      by_cases e : n < σ.next
      · rw [if_pos (by omega), if_pos e]
      · cases hq : m n with
        | none => split <;> simp
        | some im => have := (hw.dom n im hq).1; omega
    refine ⟨Nat.zero_le _, fun i o hi => by omega, fun j o _ hj => (by simp only [h00] at hj; cases hj), ?_, fun n im hn hle => ?_, fun j _ _ hj => (by simp only [h00] at hj; cases hj), fun t b hb _ => ?_, hf.df, hf.sz⟩
    · rw [hn0, hrm _ (Nat.le_refl _), hσ0]; exact Post.drew hw
    · have := (rs_some hn).1; omega
    · rw [hrm b (by omega)]
      have : ∀ i, i ≤ L.length → frOf L es fr (fun j => (Array.replicate ops.size false).getD j false) i = fr := by
        intro i
        induction i with
        | zero => intro _; rfl
        | succ i IH => intro hi; simp only [frOf]; rw [h00]; exact IH (by omega)
      rw [this _ (Nat.le_refl _)]
      exact hf.tm.tm t
/-! another order of the operations -/
theorem mem_ready {md : Region.Mode} {ops : Array Oper} {listed : Array Bool} {i : Nat} : i ∈ Region.ready md ops listed ↔ i < ops.size ∧ listed.getD i true = false ∧ ∃ o, ops[i]? = some o ∧ ∀ e ∈ o.after.toList, Region.binds md e = true → listed.getD e.on false = true := by
  unfold Region.ready
  rw [List.mem_filter, List.mem_range]
  constructor
  · rintro ⟨h1, h2⟩
    rw [Bool.and_eq_true] at h2
    obtain ⟨h2, h3⟩ := h2
    refine ⟨h1, by simpa using h2, ?_⟩
    cases ho : ops[i]? with
    | none => rw [ho] at h3; cases h3
    | some o =>
      rw [ho] at h3
      simp only [Option.map_some, Option.getD_some] at h3
      refine ⟨o, rfl, fun e he hb => ?_⟩
      rw [Array.all_eq_true'] at h3
      have := h3 e (by simpa using he)
      rw [hb] at this
      simpa using this
  · rintro ⟨h1, h2, o, ho, h3⟩
    refine ⟨h1, ?_⟩
    rw [Bool.and_eq_true]
    refine ⟨by simpa using h2, ?_⟩
    rw [ho]
    simp only [Option.map_some, Option.getD_some]
    rw [Array.all_eq_true']
    intro e he
    cases hb : Region.binds md e with
    | false => rfl
    | true => simpa using h3 e (by simpa using he) hb
theorem wpAny_perm {md : Region.Mode} {Q : Exit → Act → World → Prop} {ops ops' : Array Oper} {pm inv : Nat → Nat} (hs : ops'.size = ops.size)
    (h1 : ∀ i, i < ops.size → pm i < ops.size ∧ inv (pm i) = i) (h2 : ∀ j, j < ops.size → inv j < ops.size ∧ pm (inv j) = j)
    (ho : ∀ i, i < ops.size → ops'[i]? = (ops[pm i]?).map (relab inv))
    (he : ∀ (j : Nat) (o : Oper), ops[j]? = some o → (∀ e ∈ o.after.toList, e.on < ops.size) ∧ ∀ g, o.guard = some g → g.1 < ops.size) :
    ∀ (fuel : Nat) (listed listed' : Array Bool) (a : Act) (w : World), listed.size = ops.size → listed'.size = ops.size → (∀ j, j < ops.size → listed[j]? = listed'[inv j]?) →
      wpAny P md ops' Q fuel listed' a w → wpAny P md ops Q fuel listed a w := by
  have hget : ∀ {listed listed' : Array Bool} {d : Bool} {j : Nat}, (∀ j, j < ops.size → listed[j]? = listed'[inv j]?) → j < ops.size → listed.getD j d = listed'.getD (inv j) d := fun hl hj => by
    rw [Array.getD_eq_getD_getElem?, Array.getD_eq_getD_getElem?, hl _ hj]
  have hop : ∀ j, j < ops.size → ops'[inv j]? = (ops[j]?).map (relab inv) := fun j hj => by rw [ho _ (h2 j hj).1, (h2 j hj).2]
  have hrd : ∀ (listed listed' : Array Bool), (∀ j, j < ops.size → listed[j]? = listed'[inv j]?) → ∀ j, j ∈ Region.ready md ops listed → inv j ∈ Region.ready md ops' listed' := by
    intro listed listed' hl j hj
    obtain ⟨k1, k2, o, k3, k4⟩ := mem_ready.1 hj
    refine mem_ready.2 ⟨by rw [hs]; exact (h2 j k1).1, by rw [← hget hl k1]; exact k2, relab inv o, by rw [hop j k1, k3]; rfl, fun e hem hb => ?_⟩
    have hem : e ∈ (o.after.map fun e => ({ e with on := inv e.on } : Edge)).toList := hem
    rw [Array.toList_map, List.mem_map] at hem
    obtain ⟨e0, he0, rfl⟩ := hem
    have := k4 e0 he0 hb
    rw [hget hl ((he j o k3).1 e0 he0)] at this
    exact this
  have hrd' : ∀ (listed listed' : Array Bool), (∀ j, j < ops.size → listed[j]? = listed'[inv j]?) → Region.ready md ops listed = [] → Region.ready md ops' listed' = [] := by
    intro listed listed' hl hn
    refine List.eq_nil_iff_forall_not_mem.2 fun i hi => ?_
    obtain ⟨k1, k2, o', k3, k4⟩ := mem_ready.1 hi
    rw [hs] at k1
    rw [ho i k1] at k3
    cases ho0 : ops[pm i]? with
    | none => rw [ho0] at k3; cases k3
    | some o =>
      rw [ho0] at k3
      cases k3
      have hpi := h1 i k1
      have : pm i ∈ Region.ready md ops listed := mem_ready.2 ⟨hpi.1, by rw [hget hl hpi.1, hpi.2]; exact k2, o, ho0, fun e hem hb => by
        rw [hget hl ((he _ o ho0).1 e hem)]
        refine k4 { e with on := inv e.on } ?_ hb
        show _ ∈ (o.after.map fun e => ({ e with on := inv e.on } : Edge)).toList
        rw [Array.toList_map, List.mem_map]
        exact ⟨e, hem, rfl⟩⟩
      rw [hn] at this
      exact absurd this List.not_mem_nil
  have hop1 : ∀ (j : Nat) (K K' : Act → World → Prop) (a : Act) (w : World), j < ops.size → (∀ a w, K' a w → K a w) → wpOp P ops' Q (inv j) K' a w → wpOp P ops Q j K a w := by
    intro j K K' a w hj hK h
    refine wpOp_mono hK ?_
    unfold wpOp at h ⊢
    rw [hop j hj] at h
    cases ho0 : ops[j]? with
    | none => rw [ho0] at h; exact h
    | some o =>
      rw [ho0] at h
      simp only [Option.map_some] at h
      simp only
      have hw : Region.wanted (relab inv o) (yielded ops' a.tmps) = Region.wanted o (yielded ops a.tmps) := by
        unfold Region.wanted relab
        cases hg : o.guard with
        | none => simp only [Option.map_none]
        | some g =>
          obtain ⟨g, b⟩ := g
          have hgl := (he j o ho0).2 _ hg
          simp only [Option.map_some]
          unfold yielded
          rw [hop g hgl]
          cases ops[g]? <;> rfl
      rw [hw] at h
      exact h
  intro fuel
  induction fuel with
  | zero =>
    intro listed listed' a w z1 z2 hl h
    refine ⟨?_, h.2⟩
    refine List.eq_nil_iff_forall_not_mem.2 fun i hi => ?_
    have := hrd _ _ hl i hi
    rw [h.1] at this
    exact absurd this List.not_mem_nil
  | succ fuel IH =>
    intro listed listed' a w z1 z2 hl h
    obtain ⟨k1, k2⟩ := h
    refine ⟨fun hn => k1 (hrd' _ _ hl hn), fun i hi => ?_⟩
    have hilt := (mem_ready.1 hi).1
    refine hop1 i _ _ a w hilt (fun a w hh => ?_) (k2 _ (hrd _ _ hl i hi))
    refine IH _ _ a w (by simpa using z1) (by simpa using z2) (fun j hj => ?_) hh
    rw [Array.getElem?_setIfInBounds, Array.getElem?_setIfInBounds]
    by_cases e : i = j
    · subst e
      rw [if_pos rfl, if_pos rfl, z1, z2, if_pos hilt, if_pos (h2 i hilt).1]
    · have e' : inv i ≠ inv j := fun hh => e (by have := congrArg pm hh; rwa [(h2 i hilt).2, (h2 j hj).2] at this)
      rw [if_neg e, if_neg e', hl j hj]
theorem permOps_get {pm : List Nat} {ops : List Oper} (h : ∀ i, i < pm.length → ∃ j, pm[i]? = some j ∧ j < ops.length) : ∀ i : Nat, (permOps pm ops)[i]? = (pm[i]?).bind fun j => (ops[j]?).map (relab fun k => posN k pm 0) := by
  have : ∀ (f : Oper → Oper) (l : List Nat), (∀ i, i < l.length → ∃ j, l[i]? = some j ∧ j < ops.length) → ∀ i : Nat, (l.filterMap fun j => (ops[j]?).map f)[i]? = (l[i]?).bind fun j => (ops[j]?).map f := by
    intro f l
    induction l with
    | nil => intro _ i; simp
    | cons x l IH =>
      intro hl i
      obtain ⟨j, e1, e2⟩ := hl 0 (by simp)
      simp at e1
      subst e1
      have hx : (ops[x]?).map f = some (f ops[x]) := by rw [List.getElem?_eq_getElem e2]; rfl
      rw [List.filterMap_cons, hx]
      cases i with
      | zero => simp only [List.getElem?_cons_zero, Option.bind_some, hx]
      | succ i =>
        simp only [List.getElem?_cons_succ]
        exact IH (fun i hi => by have := hl (i + 1) (by simpa using hi); simpa using this) i
  exact this _ pm h
theorem runDrawP_sound (hx : ExtOk P) {ih : Job → Fr → St → Res} (hc : CallsOk P ih) {nt : Nat} {ops : Array Oper} (hd : dstOk nt ops.toList = true) {fr fr' : Fr} {σ σ' : St}
    (h : runDrawP P ih ops.toList fr σ = .nrm fr' σ') {m : Mp} {a : Act} {w : World} (hf : FrD m nt fr a) (hw : WR P m σ w) :
    wpAny P .any ops (QR P m σ w nt (.nrm fr' σ')) ops.size (Array.replicate ops.size false) a { w with drawn := w.drawn + 1 } := by
  unfold runDrawP at h
  split at h
  · exact runDraw_sound hx hc hd h hf hw
  · split at h
    case h_2 => cases h
    rename_i hp
    generalize permJ ops.toList ops.toList.length [] = pm at h hp
    unfold permOk at hp
    simp only [Bool.and_eq_true, List.all_eq_true, List.mem_range] at hp
    obtain ⟨⟨⟨p1, p2⟩, p3⟩, p4⟩ := hp
    have p1 : pm.length = ops.size := by have := Nat.eq_of_beq_eq_true p1; simpa using this
    have q2 : ∀ i, i < ops.size → ∃ j, pm[i]? = some j ∧ j < ops.size ∧ posN j pm 0 = i := fun i hi => by
      have := p2 i (by simpa using hi)
      split at this
      · rename_i j hj
        rw [Bool.and_eq_true] at this
        exact ⟨j, hj, by have : j < ops.toList.length := Nat.le_of_ble_eq_true this.1; simpa using this, Nat.eq_of_beq_eq_true this.2⟩
      · cases this
    have q3 : ∀ j, j < ops.size → posN j pm 0 < ops.size ∧ pm[posN j pm 0]? = some j := fun j hj => by
      have := p3 j (by simpa using hj)
      refine ⟨by have : posN j pm 0 < ops.toList.length := Nat.le_of_ble_eq_true this.1; simpa using this, ?_⟩
      have := this.2
      split at this
      · rename_i k hk; rw [hk, Nat.eq_of_beq_eq_true this]
      · cases this
    have hgetL : ∀ i : Nat, (permOps pm ops.toList)[i]? = (pm[i]?).bind fun j => (ops.toList[j]?).map (relab fun k => posN k pm 0) :=
      permOps_get fun i hi => by obtain ⟨j, e1, e2, _⟩ := q2 i (by omega); exact ⟨j, e1, by simpa using e2⟩
    have hsz : (permOps pm ops.toList).length = ops.size := by
      refine Nat.le_antisymm ?_ ?_
      · rw [← p1]; exact List.length_filterMap_le ..
      · rcases Nat.lt_or_ge (permOps pm ops.toList).length ops.size with hlt | hge
        · obtain ⟨j, e1, e2, _⟩ := q2 _ hlt
          have := hgetL (permOps pm ops.toList).length
          rw [List.getElem?_eq_none (Nat.le_refl _), e1] at this
          have e2' : j < ops.toList.length := by simpa using e2
          simp only [Option.bind_some, List.getElem?_eq_getElem e2', Option.map_some] at this
          cases this
        · exact hge
    have hd' : dstOk nt (permOps pm ops.toList).toArray.toList = true := by
      unfold dstOk at hd ⊢
      rw [List.all_eq_true] at hd ⊢
      intro o' ho'
      have ho' : o' ∈ permOps pm ops.toList := by simpa using ho'
      unfold permOps at ho'
      rw [List.mem_filterMap] at ho'
      obtain ⟨j, _, hj⟩ := ho'
      cases hjo : ops.toList[j]? with
      | none => rw [hjo] at hj; cases hj
      | some o =>
        rw [hjo] at hj
        cases hj
        exact hd o (List.mem_of_getElem? hjo)
    have hr := runDraw_sound hx hc hd' (by simpa using h) hf hw
    have hsz' : (permOps pm ops.toList).toArray.size = ops.size := by simpa using hsz
    rw [hsz'] at hr
    refine wpAny_perm (pm := fun i => pm.getD i 0) (inv := fun j => posN j pm 0) hsz' (fun i hi => ?_) (fun j hj => ?_) (fun i hi => ?_) (fun j o hj => ?_) ops.size _ _ a _ (by simp) (by simp) (fun j hj => ?_) hr
    · obtain ⟨j, e1, e2, e3⟩ := q2 i hi
      have : pm.getD i 0 = j := by rw [List.getD_eq_getElem?_getD, e1]; rfl
      simp only [this]
      exact ⟨e2, e3⟩
    · obtain ⟨e1, e2⟩ := q3 j hj
      have : pm.getD (posN j pm 0) 0 = j := by rw [List.getD_eq_getElem?_getD, e2]; rfl
      exact ⟨e1, this⟩
    · obtain ⟨j, e1, e2, e3⟩ := q2 i hi
      have : pm.getD i 0 = j := by rw [List.getD_eq_getElem?_getD, e1]; rfl
      rw [this, List.getElem?_toArray, hgetL, e1]
      simp
    · have hm : o ∈ ops.toList := List.mem_of_getElem? (by rw [Array.getElem?_toList]; exact hj)
      have := p4 o hm
      refine ⟨fun e he => ?_, fun g hg => ?_⟩
      · have : e.on < ops.toList.length := Nat.le_of_ble_eq_true (this.1 e he)
        simpa using this
      · have := this.2
        rw [hg] at this
        have : g.1 < ops.toList.length := Nat.le_of_ble_eq_true this
        simpa using this
    · have e1 := (q3 j hj).1
      simp [hj, e1]
end
end Go.YtjighphlkcedhaaDoorEv
