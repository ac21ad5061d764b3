/- An evaluator for the program's own code: a region that draws its order, put together. (text 17) -/
import Derived.Test.YtlkjmeobpbpgbaaGreatDoorEv16
set_option linter.unusedVariables false
set_option linter.unusedSimpArgs false
namespace Go.YtlkjmeobpbpgbaaGreatDoorEv
open Go

theorem FrR.congr {m : Mp} {f g : Fr} {a : Act} (h : FrR m f a) (e : ∀ t, g.tm.get .undef t = f.tm.get .undef t) : FrR m g a := ⟨fun t => by rw [e]; exact h.tm t⟩
/-- The slots behind the operations of a set, each as in the region's own order. -/
noncomputable def frOf (ops : List Oper) (es : List Ent) (fr : Fr) (S : Nat → Bool) : Nat → Fr
  | 0 => fr
  | i + 1 => match S i with
    | true => (frOf ops es fr S i).put ((ops[i]?).bind (·.dst)) (vAt es i)
    | false => frOf ops es fr S i
theorem frOf_df {ops : List Oper} {es : List Ent} {fr : Fr} {S : Nat → Bool} : ∀ i, (frOf ops es fr S i).df = fr.df
  | 0 => rfl
  | i + 1 => by
    unfold frOf
    cases S i with
    | true => simp only []; rw [Fr.put_df, frOf_df i]
    | false => simp only []; exact frOf_df i
theorem put_get (f : Fr) (d : Option Tmp) (v : SV) (t : Nat) : (f.put d v).tm.get .undef t = if d = some t then v else f.tm.get .undef t := by
  cases d with
  | none => rw [if_neg (by simp)]; rfl
  | some d =>
    show (f.tm.set .undef v d).get .undef t = _
    rw [Tr.get_set]
    by_cases e : t = d
    · subst e; rw [if_pos rfl, if_pos rfl]
    · rw [if_neg e, if_neg (by simp; exact Ne.symm e)]
theorem frOf_get {ops : List Oper} {es : List Ent} {fr : Fr} {S : Nat → Bool} (i t : Nat) : (frOf ops es fr S (i + 1)).tm.get .undef t =
    if S i = true ∧ (ops[i]?).bind (·.dst) = some t then vAt es i else (frOf ops es fr S i).tm.get .undef t := by
  rw [frOf]
  cases h : S i with
  | true =>
    simp only []
    rw [put_get]
    by_cases e : (ops[i]?).bind (·.dst) = some t
    · rw [if_pos e, if_pos (by simp [e])]
    · rw [if_neg e, if_neg (by simp [e])]
  | false => simp only []; rw [if_neg (by simp)]
theorem pairOk_split {P : Program} {ops : List Oper} {i bj : Nat} {x y : Oper} (h : pairOk P ops i x bj y = true) : bj.testBit i = true ∨
    ((acts P x.op && acts P y.op) = false ∧ (∀ d, x.dst = some d → d ∉ looks ops y ∧ y.dst ≠ some d) ∧ ∀ d, y.dst = some d → d ∉ looks ops x) := by
  unfold pairOk at h
  simp only [Bool.or_eq_true] at h
  rcases h with h | h
  · exact .inl h
  · simp only [Bool.and_eq_true] at h
    refine .inr ⟨by have := h.1.1; rw [Bool.not_eq_true'] at this; exact this, fun d hd => ?_, fun d hd => ?_⟩
    · have := h.1.2
      rw [hd] at this
      simpa using this
    · have := h.2
      rw [hd] at this
      simpa using this
def unl (listed : Array Bool) : Nat → Nat
  | 0 => 0
  | k + 1 => (match listed.getD k true with | true => 0 | false => 1) + unl listed k
theorem unl_zero {listed : Array Bool} : ∀ {n : Nat}, unl listed n = 0 → ∀ j, j < n → listed.getD j true = true
  | n + 1, h, j, hj => by
    unfold unl at h
    by_cases e : j = n
    · subst e
      cases hl : listed.getD j true with
      | true => rfl
      | false => rw [hl] at h; simp at h
    · exact unl_zero (listed := listed) (n := n) (by omega) j (by omega)
theorem unl_set {listed : Array Bool} {j : Nat} (hj : listed.getD j true = false) : ∀ n, unl (listed.setIfInBounds j true) n + (if j < n then 1 else 0) = unl listed n
  | 0 => rfl
  | n + 1 => by
    have ih := unl_set hj n
    unfold unl
    by_cases e : n = j
    · subst e
      have hsz : n < listed.size := by
        rcases Nat.lt_or_ge n listed.size with h | h
        · exact h
        · rw [Array.getD_eq_getD_getElem?, Array.getElem?_eq_none h] at hj; cases hj
      have h1 : (listed.setIfInBounds n true).getD n true = true := by simp [hsz]
      rw [h1, hj]
      rw [if_neg (by omega)] at ih
      rw [if_pos (by omega)]
      simp only []; omega
    · have h1 : (listed.setIfInBounds j true).getD n true = listed.getD n true := getD_set_ne true (Ne.symm e)
      rw [h1]
      by_cases h2 : j < n
      · rw [if_pos h2] at ih; rw [if_pos (by omega)]; omega
      · rw [if_neg h2] at ih; rw [if_neg (by omega)]; omega

section
variable {P : Program}
theorem runDraw_sound (hx : ExtOk P) {ih : Job → Fr → St → Res} (hc : CallsOk P ih) {nt : Nat} {ops : Array Oper} (hd : dstOk nt ops.toList = true) {fr fr' : Fr} {σ σ' : St}
    (h : runDraw P ih ops.toList fr σ = .nrm fr' σ') {m : Mp} {a : Act} {w : World} (hf : FrD m nt fr a) (hw : WR P m σ w) :
    wpAny P .any ops (QR P m σ w nt (.nrm fr' σ')) ops.size (Array.replicate ops.size false) a { w with drawn := w.drawn + 1 } := by
  -- what was seen of the region
  obtain ⟨es, hok, hcan, hst⟩ : ∃ es, drawOk P ops.toList = true ∧ canon P ih ops.toList ops.toList fr σ = some (es, fr', σ') ∧ allStable P ops.toList (bits ops.toList []) (tausOf P σ' ops.toList es) 0 ops.toList es = true := by
    unfold runDraw at h
    split at h
    · cases h
    · rename_i hok
      split at h
      · cases h
      · rename_i es f s hcan
        split at h
        · rename_i hst
          cases h
          exact ⟨es, hok, hcan, hst⟩
        · cases h
  have hcan := canon_can _ _ _ hcan
  obtain ⟨hlen, hF0, hσ0, hat⟩ := hcan.at
  have htau := taus_get hcan
  have hstab := allStable_spec _ _ _ hst
  unfold drawOk at hok
  have hall := allOk_spec _ _ hok
  have hL : ops.toList.length = ops.size := Array.length_toList
  generalize hLL : ops.toList = L at *
  generalize hB : bits L [] = B at *
  generalize hT : tausOf P σ' L es = T at *
  have hop : ∀ (j : Nat) (o : Oper), ops[j]? = some o ↔ L[j]? = some o := fun j o => by rw [← hLL, Array.getElem?_toList]
  have edges : ∀ (j : Nat) (o : Oper), L[j]? = some o → ∀ e ∈ o.after.toList, Region.binds .any e = true → e.on < j := fun j o ho => by
    have := (hall j o ho).1; simpa using this
  have pairs : ∀ (i j : Nat) (x y : Oper), i < j → L[i]? = some x → L[j]? = some y → pairOk P L i x (B.getD j 0) y = true := fun i j x y hij hx hy => by
    have := (hall j y hy).2 i x (by omega) hx; simpa using this
  have bspec : ∀ (j : Nat) (o : Oper) (i : Nat), L[j]? = some o → (B.getD j 0).testBit i = true → ∃ e ∈ o.after.toList, Region.binds .any e = true ∧ (i = e.on ∨ (B.getD e.on 0).testBit i = true) := fun j o i ho hb => by
    have := bits_spec L [] j o i ho (by rw [hB]; simpa using hb)
    rwa [hB] at this
  have bnone : ∀ (j i : Nat), L[j]? = none → (B.getD j 0).testBit i = false := fun j i ho => by
    obtain ⟨l, h1, h2⟩ := bits_ext L []
    rw [hB, List.nil_append] at h1
    rw [List.getD_eq_getElem?_getD, List.getElem?_eq_none (by rw [h1, h2]; exact List.getElem?_eq_none_iff.1 ho)]
    simp
  -- a set that is closed holds all that stands before
  have closed_bits : ∀ (S : Nat → Bool), (∀ (j : Nat) (o : Oper), S j = true → L[j]? = some o → ∀ e ∈ o.after.toList, Region.binds .any e = true → S e.on = true) →
      ∀ (j : Nat), (∀ (o : Oper), L[j]? = some o → ∀ e ∈ o.after.toList, Region.binds .any e = true → S e.on = true) → ∀ i, (B.getD j 0).testBit i = true → S i = true := by
    intro S hS j
    induction j using Nat.strongRecOn with
    | _ j IH =>
      intro hj i hi
      cases ho : L[j]? with
      | none => rw [bnone j i ho] at hi; cases hi
      | some o =>
        obtain ⟨e, he, hb, hi'⟩ := bspec j o i ho hi
        have hse := hj o ho e he hb
        rcases hi' with rfl | hi'
        · exact hse
        · exact IH e.on (edges j o ho e he hb) (fun o' ho' e' he' hb' => hS e.on o' hse ho' e' he' hb') i hi'
  -- in the region's own order
  have hfull : ∀ j, j ≤ L.length → frOf L es fr (fun _ => true) j = frAt es fr' j := by
    intro j
    induction j with
    | zero => intro _; rw [hF0]; rfl
    | succ j IH =>
      intro hj
      obtain ⟨o, ho⟩ : ∃ o, L[j]? = some o := ⟨_, List.getElem?_eq_getElem (by omega)⟩
      rw [(hat j o ho).1, ← IH (by omega)]
      simp [frOf, ho]
  -- the slots that an operation looks at hold what they hold in the region's own order
  have agree : ∀ (S : Nat → Bool) (j : Nat) (o : Oper), L[j]? = some o → S j = false → (∀ i, (B.getD j 0).testBit i = true → S i = true) → (∀ i, S i = true → (B.getD i 0).testBit j = false) →
      ∀ t, t ∈ looks L o → (frOf L es fr S L.length).tm.get .undef t = (frAt es fr' j).tm.get .undef t := by
    intro S j o ho hSj hb1 hb2 t ht
    have hjl : j < L.length := (List.getElem?_eq_some_iff.1 ho).1
    have s1 : ∀ i, i ≤ j → (frOf L es fr S i).tm.get .undef t = (frOf L es fr (fun _ => true) i).tm.get .undef t := by
      intro i
      induction i with
      | zero => intro _; rfl
      | succ i IH =>
        intro hi
        rw [frOf_get, frOf_get, IH (by omega)]
        by_cases hdi : (L[i]?).bind (·.dst) = some t
        · obtain ⟨x, hx'⟩ : ∃ x, L[i]? = some x := ⟨_, List.getElem?_eq_getElem (by omega)⟩
          rw [hx'] at hdi
          have hxd : x.dst = some t := hdi
          rcases pairOk_split (pairs i j x o (by omega) hx' ho) with hbit | ⟨_, h2, _⟩
          · rw [if_pos ⟨hb1 i hbit, by rw [hx']; exact hdi⟩, if_pos ⟨rfl, by rw [hx']; exact hdi⟩]
          · exact absurd ht (h2 t hxd).1
        · rw [if_neg (fun x => hdi x.2), if_neg (fun x => hdi x.2)]
    have s2 : ∀ k, j + k ≤ L.length → (frOf L es fr S (j + k)).tm.get .undef t = (frOf L es fr S j).tm.get .undef t := by
      intro k
      induction k with
      | zero => intro _; rfl
      | succ k IH =>
        intro hk
        rw [← Nat.add_assoc, frOf_get, IH (by omega)]
        rw [if_neg]
        rintro ⟨hs, hdi⟩
        by_cases hk0 : k = 0
        · subst hk0; rw [Nat.add_zero, hSj] at hs; cases hs
        · obtain ⟨y, hy⟩ : ∃ y, L[j + k]? = some y := ⟨_, List.getElem?_eq_getElem (by omega)⟩
          rw [hy] at hdi
          rcases pairOk_split (pairs j (j + k) o y (by omega) ho hy) with hbit | ⟨_, _, h3⟩
          · rw [hb2 _ hs] at hbit; cases hbit
          · exact h3 t hdi ht
    have := s2 (L.length - j) (by omega)
    rw [show j + (L.length - j) = L.length by omega] at this
    rw [this, s1 j (Nat.le_refl _), hfull j (by omega)]
  -- one more
  have more : ∀ (S : Nat → Bool) (j : Nat) (o : Oper), L[j]? = some o → S j = false → (∀ i, S i = true → (B.getD i 0).testBit j = false) →
      ∀ t, (frOf L es fr (fun x => S x || x == j) L.length).tm.get .undef t = ((frOf L es fr S L.length).put o.dst (vAt es j)).tm.get .undef t := by
    intro S j o ho hSj hb2 t
    have hjl : j < L.length := (List.getElem?_eq_some_iff.1 ho).1
    have s1 : ∀ i, i ≤ j → (frOf L es fr (fun x => S x || x == j) i).tm.get .undef t = (frOf L es fr S i).tm.get .undef t := by
      intro i
      induction i with
      | zero => intro _; rfl
      | succ i IH =>
        intro hi
        rw [frOf_get, frOf_get, IH (by omega)]
        have : (i == j) = false := by simp; omega
        rw [this, Bool.or_false]
    have s2 : ∀ k, j + 1 + k ≤ L.length → (frOf L es fr (fun x => S x || x == j) (j + 1 + k)).tm.get .undef t = ((frOf L es fr S (j + 1 + k)).put o.dst (vAt es j)).tm.get .undef t := by
      intro k
      induction k with
      | zero =>
        intro _
        rw [Nat.add_zero, frOf_get, put_get, frOf_get, s1 j (Nat.le_refl _), ho]
        simp only [beq_self_eq_true, Bool.or_true, true_and, Option.bind_some, hSj, Bool.false_eq_true, false_and, if_false]
      | succ k IH =>
        intro hk
        have hne : (j + 1 + k == j) = false := by simp; omega
        rw [← Nat.add_assoc, frOf_get, put_get, frOf_get, IH (by omega), put_get, hne, Bool.or_false]
        by_cases hdi : S (j + 1 + k) = true ∧ (L[j + 1 + k]?).bind (·.dst) = some t
        · rw [if_pos hdi, if_pos hdi]
          rw [if_neg]
          intro hdj
          obtain ⟨y, hy⟩ : ∃ y, L[j + 1 + k]? = some y := ⟨_, List.getElem?_eq_getElem (by omega)⟩
          have hyd := hdi.2
          rw [hy] at hyd
          rcases pairOk_split (pairs j (j + 1 + k) o y (by omega) ho hy) with hbit | ⟨_, h2, _⟩
          · rw [hb2 _ hdi.1] at hbit; cases hbit
          · exact (h2 t hdj).2 hyd
        · rw [if_neg hdi, if_neg hdi]
    have := s2 (L.length - (j + 1)) (by omega)
    rwa [show j + 1 + (L.length - (j + 1)) = L.length by omega] at this
  -- how many of those that act have come when an operation comes
  have actor : ∀ (S : Nat → Bool) (j : Nat) (o : Oper), L[j]? = some o → acts P o.op = true → S j = false → (∀ i, (B.getD j 0).testBit i = true → S i = true) → (∀ i, S i = true → (B.getD i 0).testBit j = false) →
      cntS P S L 0 = cntF P j L := by
    intro S j o ho ha hSj hb1 hb2
    rw [cntF_eq j L 0]
    refine cntS_congr L 0 fun k x hx' hax => ?_
    rw [Nat.zero_add, Nat.zero_add]
    rcases Nat.lt_trichotomy k j with hk | hk | hk
    · rw [decide_eq_true hk]
      rcases pairOk_split (pairs k j x o hk hx' ho) with hbit | ⟨h1, _⟩
      · exact hb1 k hbit
      · rw [hax, ha] at h1; cases h1
    · subst hk; rw [hSj, decide_eq_false (by omega)]
    · rw [decide_eq_false (by omega)]
      rcases pairOk_split (pairs j k o x hk ho hx') with hbit | ⟨h1, _⟩
      · cases hs : S k with
        | false => rfl
        | true => rw [hb2 k hs] at hbit; cases hbit
      · rw [hax, ha] at h1; cases h1
  -- the induction
  have main : ∀ (fuel : Nat) (listed : Array Bool) (a1 : Act) (w1 : World) (m1 : Mp) (τ : St), listed.size = ops.size → unl listed ops.size ≤ fuel →
      (∀ (j : Nat) (o : Oper), listed.getD j false = true → L[j]? = some o → ∀ e ∈ o.after.toList, Region.binds .any e = true → listed.getD e.on false = true) →
      FrR m1 (frOf L es fr (fun j => listed.getD j false) L.length) a1 → DRs m1 fr.df a1.defers → a1.tmps.size = nt → T[cntS P (fun j => listed.getD j false) L 0]? = some τ → Post P m σ w m1 τ w1 →
      wpAny P .any ops (QR P m σ w nt (.nrm fr' σ')) fuel listed a1 w1 := by
    intro fuel
    have fin : ∀ (listed : Array Bool) (a1 : Act) (w1 : World) (m1 : Mp) (τ : St), listed.size = ops.size → (∀ j, j < ops.size → listed.getD j true = true) →
        FrR m1 (frOf L es fr (fun j => listed.getD j false) L.length) a1 → DRs m1 fr.df a1.defers → a1.tmps.size = nt → T[cntS P (fun j => listed.getD j false) L 0]? = some τ → Post P m σ w m1 τ w1 →
        QR P m σ w nt (.nrm fr' σ') .normal a1 w1 := by
      intro listed a1 w1 m1 τ hsz hall' hfr hdf hnt hτ hp
      have hS : ∀ j, j < L.length → listed.getD j false = true := fun j hj => by
        have := hall' j (by omega)
        rw [Array.getD_eq_getD_getElem?] at this ⊢
        have hlt : j < listed.size := by omega
        rw [Array.getElem?_eq_getElem hlt] at this ⊢
        exact this
      have e1 : ∀ i, i ≤ L.length → frOf L es fr (fun j => listed.getD j false) i = frOf L es fr (fun _ => true) i := by
        intro i
        induction i with
        | zero => intro _; rfl
        | succ i IH => intro hi; simp only [frOf]; rw [hS i (by omega), IH (by omega)]
      have hτ' : τ = σ' := by
        have h1 : cntS P (fun j => listed.getD j false) L 0 = cntF P L.length L := by
          rw [cntF_eq L.length L 0]
          refine cntS_congr L 0 fun k o ho _ => ?_
          have hk : k < L.length := (List.getElem?_eq_some_iff.1 ho).1
          rw [Nat.zero_add, hS k hk]; simp; exact hk
        rw [h1, htau L.length (Nat.le_refl _)] at hτ
        cases hτ
        simp [stAt, hlen]
      subst hτ'
      have hFn : frAt es fr' L.length = fr' := by simp [frAt, hlen]
      rw [e1 _ (Nat.le_refl _), hfull _ (Nat.le_refl _), hFn] at hfr
      have hdff : fr'.df = fr.df := by rw [← hFn, ← hfull _ (Nat.le_refl _)]; exact frOf_df _
      exact ⟨m1, ⟨hfr, by rw [hdff]; exact hdf, hnt⟩, hp⟩
    induction fuel with
    | zero =>
      intro listed a1 w1 m1 τ hsz hun hcl hfr hdf hnt hτ hp
      have hall' := unl_zero (listed := listed) (n := ops.size) (by omega)
      refine ⟨?_, fin listed a1 w1 m1 τ hsz hall' hfr hdf hnt hτ hp⟩
      apply List.eq_nil_iff_forall_not_mem.2
      intro j hj
      obtain ⟨h0, o, ho, _⟩ := mem_ready.1 hj
      have hlt : j < ops.size := (Array.getElem?_eq_some_iff.1 ho).1
      rw [hall' j hlt] at h0; cases h0
    | succ fuel IH =>
      intro listed a1 w1 m1 τ hsz hun hcl hfr hdf hnt hτ hp
      refine ⟨fun hr => ?_, fun j hj => ?_⟩
      · -- nothing is ready: all have come
        refine fin listed a1 w1 m1 τ hsz ?_ hfr hdf hnt hτ hp
        intro j
        induction j using Nat.strongRecOn with
        | _ j IHj =>
          intro hj
          cases hl : listed.getD j true with
          | true => rfl
          | false =>
            exfalso
            have ho : ops[j]? = some ops[j] := Array.getElem?_eq_getElem hj
            have : j ∈ Region.ready .any ops listed := mem_ready.2 ⟨hl, ops[j], ho, fun e he hb => by
              have hlt := edges j ops[j] ((hop _ _).1 ho) e (Array.mem_toList_iff.2 he) hb
              have := IHj e.on hlt (by omega)
              rw [Array.getD_eq_getD_getElem?] at this ⊢
              have hlt' : e.on < listed.size := by omega
              rw [Array.getElem?_eq_getElem hlt'] at this ⊢
              exact this⟩
            rw [hr] at this; cases this
      · obtain ⟨hunl, o, ho, hedge⟩ := mem_ready.1 hj
        have hjs : j < ops.size := (Array.getElem?_eq_some_iff.1 ho).1
        have hoL := (hop j o).1 ho
        have hSj : listed.getD j false = false := by
          rw [Array.getD_eq_getD_getElem?] at hunl ⊢
          have hlt : j < listed.size := by omega
          rw [Array.getElem?_eq_getElem hlt] at hunl ⊢
          exact hunl
        have hb1 := closed_bits (fun j => listed.getD j false) hcl j (fun o' ho' e he hb => by
          rw [hoL] at ho'; cases ho'
          exact hedge e (Array.mem_toList_iff.1 he) hb)
        have hb2 : ∀ i, listed.getD i false = true → (B.getD i 0).testBit j = false := fun i hi => by
          cases hbit : (B.getD i 0).testBit j with
          | false => rfl
          | true =>
            have := closed_bits (fun j => listed.getD j false) hcl i (fun o' ho' => hcl i o' hi ho') j hbit
            have this : listed.getD j false = true := this
            rw [hSj] at this; cases this
        have hag := agree (fun j => listed.getD j false) j o hoL hSj hb1 hb2
        have hmore := more (fun j => listed.getD j false) j o hoL hSj hb2
        have hadd := cntS_add (P := P) (S := fun j => listed.getD j false) L 0 j hoL (Nat.zero_add j) hSj
        have hset : ∀ i, (listed.setIfInBounds j true).getD i false = (listed.getD i false || i == j) := fun i => by
          by_cases e : i = j
          · subst e
            have : i < listed.size := by omega
            simp [this]
          · rw [getD_set_ne false (Ne.symm e)]
            have : (i == j) = false := by simpa using e
            rw [this, Bool.or_false]
        have hseteq : (fun i => (listed.setIfInBounds j true).getD i false) = fun i => listed.getD i false || i == j := funext hset
        have hagO : Agree (frOf L es fr (fun j => listed.getD j false) L.length) (frAt es fr' j) o.op.operands.toList := fun t ht => hag t (List.mem_append.2 (.inl (mem_tmpsOf ht)))
        have hwt : wantedS L (frOf L es fr (fun j => listed.getD j false) L.length) o.guard = wantedS L (frAt es fr' j) o.guard := by
          unfold wantedS
          cases hg : o.guard with
          | none => rfl
          | some g =>
            obtain ⟨gj, want⟩ := g
            simp only []
            cases hdd : (L[gj]?).bind (·.dst) with
            | none => rfl
            | some d =>
              simp only []
              rw [hag d (List.mem_append.2 (.inr (by rw [hg]; simp only []; rw [hdd]; simp)))]
        have hdo := dst_of (nt := nt) (ops := L) hd hoL
        obtain ⟨hFj, hsk, hnsk⟩ := hat j o hoL
        -- behind the operation
        have next : ∀ (v' : Value) (m2 : Mp) (w2 : World) (τ2 : St), T[cntS P (fun i => listed.getD i false || i == j) L 0]? = some τ2 → Mle m1 m2 → VR m2 (vAt es j) v' → Post P m σ w m2 τ2 w2 →
            wpAny P .any ops (QR P m σ w nt (.nrm fr' σ')) fuel (listed.setIfInBounds j true) (a1.put o.dst v') w2 := by
          intro v' m2 w2 τ2 hτ2 hle hv hp2
          refine IH _ _ _ m2 τ2 (by simpa using hsz) ?_ ?_ ?_ ?_ ?_ ?_ hp2
          · have := unl_set hunl ops.size
            rw [if_pos hjs] at this; omega
          · intro i o' hi ho' e he hb
            rw [hset] at hi ⊢
            simp only [Bool.or_eq_true] at hi ⊢
            rcases hi with hi | hi
            · exact .inl (hcl i o' hi ho' e he hb)
            · have : i = j := by simpa using hi
              subst this
              rw [hoL] at ho'; cases ho'
              exact .inl (hedge e (Array.mem_toList_iff.1 he) hb)
          · rw [hseteq]
            exact ((hfr.mono hle).put hv (fun t ht => by rw [hnt]; exact hdo t ht)).congr hmore
          · rw [Act.put_df]; exact hdf.mono hle
          · rw [Act.put_size]; exact hnt
          · rw [hseteq]; exact hτ2
        unfold wpOp
        simp only [ho]
        rw [wanted_sound hfr, hLL, hwt]
        cases hskj : skAt es j with
        | true =>
          obtain ⟨hw1, hv1, hs1⟩ := hsk hskj
          rw [hw1]
          simp only [Bool.false_eq_true, if_false]
          have hvu : VR m1 (vAt es j) undef := by rw [hv1]; exact .undef
          refine next undef m1 w1 τ ?_ (fun _ _ h => h) hvu hp
          rw [hadd]
          cases hact : acts P o.op with
          | false => simpa using hτ
          | true =>
            have hpj := actor _ j o hoL hact hSj hb1 hb2
            rw [hpj] at hτ ⊢
            have h1 := htau j (by omega)
            rw [hτ] at h1
            have h2 := htau (j + 1) (by omega)
            have : cntF P (j + 1) L = cntF P j L + 1 := by
              rw [cntF_eq (j + 1) L 0, cntF_eq j L 0]
              have hx2 := cntS_add (P := P) (S := fun k => decide (k < 0 + j)) L 0 j hoL (Nat.zero_add j) (by simp)
              rw [hact] at hx2
              rw [← hx2]
              exact cntS_congr L 0 fun k x _ _ => by
                rw [Bool.eq_iff_iff]; simp; omega
            rw [this] at h2
            simp only []
            rw [h2, hs1]
            cases h1; rfl
        | false =>
          obtain ⟨hw1, hev⟩ := hnsk hskj
          rw [hw1]
          simp only [if_true]
          refine .inl ?_
          unfold Oper.wp
          cases hact : acts P o.op with
          | false =>
            rw [hact] at hadd
            -- it reads the same here
            have hread : ∃ σ2, evalOp P τ (frAt es fr' j) o.op = some (.val (vAt es j), σ2) := by
              have hlo : countB P (B.getD j 0) L 0 ≤ cntS P (fun j => listed.getD j false) L 0 := by
                rw [countB_eq]
                exact cntS_mono L 0 fun k x _ _ hk => by rw [Nat.zero_add] at hk ⊢; exact hb1 k hk
              have hhi : cntS P (fun j => listed.getD j false) L 0 ≤ countA P B j L 0 := by
                rw [countA_eq]
                exact cntS_mono L 0 fun k x _ _ hk => by rw [Nat.zero_add] at hk ⊢; rw [hb2 k hk]; rfl
              have hcan1 : countB P (B.getD j 0) L 0 ≤ cntF P j L := by
                rw [countB_eq, cntF_eq j L 0]
                refine cntS_mono L 0 fun k x _ _ hk => ?_
                rw [Nat.zero_add] at hk ⊢
                rw [Nat.zero_add, decide_eq_true_eq]
                -- what stands before has a smaller number
                exact of_decide_eq_true (closed_bits (fun i => decide (i < j)) (fun i o' hi ho' e he hb => by
                  have := edges i o' ho' e he hb
                  simp at hi ⊢; omega) j (fun o' ho' e he hb => by have := edges j o' ho' e he hb; simp; omega) k hk)
              have hcan2 : cntF P j L ≤ countA P B j L 0 := by
                rw [countA_eq, cntF_eq j L 0]
                refine cntS_mono L 0 fun k x _ _ hk => ?_
                rw [Nat.zero_add] at hk ⊢
                rw [Nat.zero_add] at hk
                have hk := of_decide_eq_true hk
                cases hbit : (B.getD k 0).testBit j with
                | false => rfl
                | true =>
                  have := closed_bits (fun i => decide (i < k)) (fun i o' hi ho' e he hb => by
                    have := edges i o' ho' e he hb
                    simp at hi ⊢; omega) k (fun o' ho' e he hb => by have := edges k o' ho' e he hb; simp; omega) j hbit
                  simp at this; omega
              have hent : ∃ e, es[j]? = some e := ⟨_, List.getElem?_eq_getElem (by omega)⟩
              obtain ⟨e, he⟩ := hent
              have hes : e.sk = false := by have := hskj; simp [skAt, he] at this; exact this
              have hef : e.fr = frAt es fr' j := by simp [frAt, he]
              have hev' : e.v = vAt es j := by simp [vAt, he]
              rcases hstab j o e hoL he hact hes with heq | hsb
              · rw [Nat.zero_add] at heq
                have hq : cntS P (fun j => listed.getD j false) L 0 = cntF P j L := by omega
                rw [hq, htau j (by omega)] at hτ
                cases hτ
                rcases hev with h1 | ⟨f, args, σ2, h1, _⟩
                · exact ⟨_, h1⟩
                · obtain ⟨_, v, hvv⟩ := quiet hact h1; cases hvv
              · rw [Nat.zero_add, hef, hev'] at hsb
                obtain ⟨τ', σ2, h1, h2⟩ := stable_spec _ _ hsb (cntS P (fun j => listed.getD j false) L 0 - countB P (B.getD j 0) L 0) (by omega)
                rw [List.getElem?_drop, show countB P (B.getD j 0) L 0 + (cntS P (fun j => listed.getD j false) L 0 - countB P (B.getD j 0) L 0) = cntS P (fun j => listed.getD j false) L 0 by omega, hτ] at h1
                cases h1
                exact ⟨σ2, h2⟩
            obtain ⟨σ2, hread⟩ := hread
            have hsame := (quiet hact hread).1
            subst hsame
            rw [← evalOp_congr hagO] at hread
            obtain ⟨m2, w2, nx', hrun, hnx, hp2⟩ := op_sound hx hp.wr hfr hread
            rw [hrun]
            have hτ2 : T[cntS P (fun i => listed.getD i false || i == j) L 0]? = some σ2 := by rw [hadd]; simpa using hτ
            generalize hvv : vAt es j = vv at hnx next
            cases hnx with
            | val hv => exact next _ m2 w2 σ2 hτ2 hp2.ext.le hv (hp.trans hp2)
            | skip => exact next _ m2 w2 σ2 hτ2 hp2.ext.le .undef (hp.trans hp2)
          | true =>
            have hpj := actor _ j o hoL hact hSj hb1 hb2
            rw [hact] at hadd
            have hcf : cntF P (j + 1) L = cntF P j L + 1 := by
              rw [cntF_eq (j + 1) L 0, cntF_eq j L 0]
              have hx2 := cntS_add (P := P) (S := fun k => decide (k < 0 + j)) L 0 j hoL (Nat.zero_add j) (by simp)
              rw [hact] at hx2
              rw [← hx2]
              exact cntS_congr L 0 fun k x _ _ => by
                rw [Bool.eq_iff_iff]; simp; omega
            have hτ2 : T[cntS P (fun i => listed.getD i false || i == j) L 0]? = some (stAt es σ' (j + 1)) := by
              rw [hadd, hpj]
              have := htau (j + 1) (by omega)
              rwa [hcf] at this
            have hτj : τ = stAt es σ' j := by
              rw [hpj, htau j (by omega)] at hτ; cases hτ; rfl
            subst hτj
            rcases hev with h1 | ⟨f, args, σ2, h1, hcall⟩
            · rw [← evalOp_congr hagO] at h1
              obtain ⟨m2, w2, nx', hrun, hnx, hp2⟩ := op_sound hx hp.wr hfr h1
              rw [hrun]
              generalize hvv : vAt es j = vv at hnx next
              cases hnx with
              | val hv => exact next _ m2 w2 _ hτ2 hp2.ext.le hv (hp.trans hp2)
              | skip => exact next _ m2 w2 _ hτ2 hp2.ext.le .undef (hp.trans hp2)
            · rw [← evalOp_congr hagO] at h1
              obtain ⟨m2, w2, nx', hrun, hnx, hp2⟩ := op_sound hx hp.wr hfr h1
              rw [hrun]
              cases hnx with
              | enter hl =>
                rw [Oper.upon_enter]
                refine (hc _ _ _ _ _ _ hcall m2 _ w2 hl hp2.wr).mono fun e w3 he => ?_
                obtain ⟨m3, v', rfl, hv, hp3⟩ := he
                exact next _ m3 w3 _ hτ2 (fun i im hi => hp3.ext.le _ _ (hp2.ext.le _ _ hi)) hv ((hp.trans hp2).trans hp3)
  refine main ops.size _ a _ m σ (by simp) ?_ ?_ ?_ hf.df hf.sz ?_ (Post.drew hw)
  · have : ∀ (listed : Array Bool) (k : Nat), unl listed k ≤ k := by
      intro listed k
      induction k with
      | zero => exact Nat.le_refl _
      | succ k IH => unfold unl; split <;> omega
    exact this _ _
  · intro j o hj
    exfalso
    rw [Array.getD_eq_getD_getElem?] at hj
    rcases Nat.lt_or_ge j ops.size with h | h
    · simp [h] at hj
    · simp [h] at hj
  · refine hf.tm.congr fun t => ?_
    have : ∀ i, i ≤ L.length → frOf L es fr (fun j => (Array.replicate ops.size false).getD j false) i = fr := by
      intro i
      induction i with
      | zero => intro _; rfl
      | succ i IH =>
        intro hi
        have : (Array.replicate ops.size false).getD i false = false := by
          rw [Array.getD_eq_getD_getElem?]
          have : i < ops.size := by omega
          simp [this]
        simp only [frOf]; rw [this]; exact IH (by omega)
    rw [this _ (Nat.le_refl _)]
  · have hz : cntS P (fun j => (Array.replicate ops.size false).getD j false) L 0 = 0 := by
      have : cntS P (fun j => (Array.replicate ops.size false).getD j false) L 0 = cntF P 0 L := by
        rw [cntF_eq 0 L 0]
        refine cntS_congr L 0 fun k o ho _ => ?_
        rw [Nat.zero_add, Array.getD_eq_getD_getElem?]
        have : k < ops.size := by have := (List.getElem?_eq_some_iff.1 ho).1; omega
        simp [this]
      rw [this]; rfl
    rw [hz]
    have := htau 0 (Nat.zero_le _)
    have h0 : cntF P 0 L = 0 := rfl
    rw [h0, hσ0] at this
    exact this
end
end Go.YtlkjmeobpbpgbaaGreatDoorEv
