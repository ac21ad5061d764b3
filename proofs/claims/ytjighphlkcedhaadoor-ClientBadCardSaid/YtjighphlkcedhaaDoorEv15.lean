/- An evaluator for the program's own code: regions that draw their order. (text 15) -/
import Derived.Test.YtjighphlkcedhaaDoorEv14
set_option linter.unusedVariables false
set_option linter.unusedSimpArgs false
namespace Go.YtjighphlkcedhaaDoorEv
open Go
set_option linter.unusedSectionVars false
variable [Lane]

/-! the bits -/
theorem foldl_bits {c : Edge → Bool} {g : Nat → Nat} : ∀ (l : List Edge) (s i : Nat), (l.foldl (fun s e => if c e then s ||| (2 ^ e.on ||| g e.on) else s) s).testBit i = true →
    s.testBit i = true ∨ ∃ e ∈ l, c e = true ∧ (i = e.on ∨ (g e.on).testBit i = true)
  | [], s, i, h => .inl h
  | e :: l, s, i, h => by
    rw [List.foldl_cons] at h
    rcases foldl_bits l _ i h with h | ⟨e', he', h1, h2⟩
    · by_cases hc : c e = true
      · rw [if_pos hc] at h
        simp only [Nat.testBit_or, Bool.or_eq_true, Nat.testBit_two_pow, decide_eq_true_eq] at h
        rcases h with h | h | h
        · exact .inl h
        · exact .inr ⟨e, List.mem_cons_self, hc, .inl h.symm⟩
        · exact .inr ⟨e, List.mem_cons_self, hc, .inr h⟩
      · rw [if_neg hc] at h; exact .inl h
    · exact .inr ⟨e', List.mem_cons_of_mem _ he', h1, h2⟩
theorem bits_ext : ∀ (os : List Oper) (acc : List Nat), ∃ l, bits os acc = acc ++ l ∧ l.length = os.length
  | [], acc => ⟨[], by simp [bits], rfl⟩
  | o :: os, acc => by
    obtain ⟨l, h1, h2⟩ := bits_ext os (acc ++ [o.after.toList.foldl (fun s e => if Region.binds .any e then s ||| (2 ^ e.on ||| acc.getD e.on 0) else s) 0])
    exact ⟨_ :: l, by unfold bits; rw [h1, List.append_assoc]; rfl, by simp [h2]⟩
theorem bits_spec : ∀ (os : List Oper) (acc : List Nat) (j : Nat) (o : Oper) (i : Nat), os[j]? = some o → ((bits os acc).getD (acc.length + j) 0).testBit i = true →
    ∃ e ∈ o.after.toList, Region.binds .any e = true ∧ (i = e.on ∨ ((bits os acc).getD e.on 0).testBit i = true)
  | [], acc, j, o, i, ho, h => by simp at ho
  | o0 :: os, acc, 0, o, i, ho, h => by
    simp at ho; subst ho
    unfold bits at h ⊢
    obtain ⟨l, h1, h2⟩ := bits_ext os (acc ++ [o0.after.toList.foldl (fun s e => if Region.binds .any e then s ||| (2 ^ e.on ||| acc.getD e.on 0) else s) 0])
    rw [h1] at h ⊢
    have hg : ((acc ++ [o0.after.toList.foldl (fun s e => if Region.binds .any e then s ||| (2 ^ e.on ||| acc.getD e.on 0) else s) 0]) ++ l).getD (acc.length + 0) 0 =
        o0.after.toList.foldl (fun s e => if Region.binds .any e then s ||| (2 ^ e.on ||| acc.getD e.on 0) else s) 0 := by
      simp [List.getD_eq_getElem?_getD]
    rw [hg] at h
    rcases foldl_bits (c := Region.binds .any) (g := fun k => acc.getD k 0) o0.after.toList 0 i h with h | ⟨e, he, hb, h⟩
    · simp at h
    · refine ⟨e, he, hb, h.imp id fun h => ?_⟩
      have hlt : e.on < acc.length := by
        rcases Nat.lt_or_ge e.on acc.length with hlt | hge
        · exact hlt
        · rw [List.getD_eq_getElem?_getD, List.getElem?_eq_none hge] at h; simp at h
      rw [List.getD_eq_getElem?_getD, List.append_assoc, List.getElem?_append_left hlt, ← List.getD_eq_getElem?_getD]
      exact h
  | o0 :: os, acc, j + 1, o, i, ho, h => by
    unfold bits at h ⊢
    refine bits_spec os _ j o i (by simpa using ho) ?_
    rw [List.length_append, List.length_singleton, Nat.add_assoc, Nat.add_comm 1 j]
    exact h
section
variable {P : Program}
theorem rowOk_spec {c : Cert} {ops : List Oper} {bj j : Nat} {y : Oper} : ∀ (n i : Nat) (xs : List Oper), rowOk P c ops bj j y n i xs = true → ∀ (k : Nat) (x : Oper), k < n → xs[k]? = some x → pairOk P c ops (i + k) x bj j y = true
  | 0, i, xs, h, k, x, hk, hx => by omega
  | n + 1, i, [], h, k, x, hk, hx => by simp at hx
  | n + 1, i, x0 :: xs, h, 0, x, hk, hx => by
    simp at hx; subst hx
    unfold rowOk at h
    simp only [Bool.and_eq_true] at h
    exact h.1
  | n + 1, i, x0 :: xs, h, k + 1, x, hk, hx => by
    unfold rowOk at h
    simp only [Bool.and_eq_true] at h
    have := rowOk_spec n (i + 1) xs h.2 k x (by omega) (by simpa using hx)
    rwa [show i + 1 + k = i + (k + 1) by omega] at this
theorem allOk_spec {c : Cert} {ops : List Oper} {b : List Nat} : ∀ (ys : List Oper) (j : Nat), allOk P c ops b j ys = true → ∀ (k : Nat) (y : Oper), ys[k]? = some y →
    (∀ e ∈ y.after.toList, Region.binds .any e = true → e.on < j + k) ∧ (∀ (i : Nat) (x : Oper), i < j + k → ops[i]? = some x → pairOk P c ops i x (b.getD (j + k) 0) (j + k) y = true) ∧ selfOk P c ops (b.getD (j + k) 0) (j + k) y = true
  | [], j, h, k, y, hy => by simp at hy
  | y0 :: ys, j, h, 0, y, hy => by
    simp at hy; subst hy
    unfold allOk at h
    simp only [Bool.and_eq_true] at h
    refine ⟨fun e he hb => ?_, fun i x hi hx => ?_, h.1.2⟩
    · have := List.all_eq_true.1 h.1.1.1 e he
      rw [hb] at this
      simp only [Bool.not_true, Bool.false_or] at this
      exact Nat.le_of_ble_eq_true this
    · have := rowOk_spec j 0 ops h.1.1.2 i x hi hx
      rwa [Nat.zero_add] at this
  | y0 :: ys, j, h, k + 1, y, hy => by
    unfold allOk at h
    simp only [Bool.and_eq_true] at h
    have := allOk_spec ys (j + 1) h.2 k y (by simpa using hy)
    rwa [show j + 1 + k = j + (k + 1) by omega] at this

/-! an operation looks at its operands alone -/
theorem mem_tmpsOf {t : Tmp} : ∀ {l : List Operand}, .tmp t ∈ l → t ∈ tmpsOf l
  | .tmp u :: l, h => by
    rcases List.mem_cons.1 h with h | h
    · cases h; exact List.mem_cons_self
    · exact List.mem_cons_of_mem _ (mem_tmpsOf h)
  | .const _ :: l, h => by rcases List.mem_cons.1 h with h | h; · cases h
                           · exact mem_tmpsOf (l := l) h
  | .global _ :: l, h => by rcases List.mem_cons.1 h with h | h; · cases h
                            · exact mem_tmpsOf (l := l) h
  | .func _ :: l, h => by rcases List.mem_cons.1 h with h | h; · cases h
                          · exact mem_tmpsOf (l := l) h
noncomputable def Agree (f g : Fr) (l : List Operand) : Prop := ∀ t, .tmp t ∈ l → f.tm.get .undef t = g.tm.get .undef t
theorem ev_congr {σ : St} {f g : Fr} {l : List Operand} (h : Agree f g l) {x : Operand} (hx : x ∈ l) : ev P σ f x = ev P σ g x := by
  cases x with
  | tmp t => simp only [ev]; rw [h t hx]
  | _ => rfl
theorem evL_congr {σ : St} {f g : Fr} {l : List Operand} (h : Agree f g l) : ∀ {xs : List Operand}, (∀ x ∈ xs, x ∈ l) → evL P σ f xs = evL P σ g xs
  | [], _ => rfl
  | x :: xs, hm => by
    simp only [evL]
    rw [ev_congr h (hm x List.mem_cons_self), evL_congr h fun y hy => hm y (List.mem_cons_of_mem _ hy)]
theorem evP_congr {σ : St} {f g : Fr} {l : List Operand} (h : Agree f g l) : ∀ {xs : List (Nat × Operand)}, (∀ x ∈ xs, x.2 ∈ l) → evP P σ f xs = evP P σ g xs
  | [], _ => rfl
  | (i, x) :: xs, hm => by
    simp only [evP]
    rw [ev_congr h (hm (i, x) List.mem_cons_self), evP_congr h fun y hy => hm y (List.mem_cons_of_mem _ hy)]
theorem evOpt_congr {σ : St} {f g : Fr} {l : List Operand} (h : Agree f g l) {x : Option Operand} (hm : ∀ y, x = some y → y ∈ l) : evOpt P σ f x = evOpt P σ g x := by
  cases x with
  | none => rfl
  | some y => simp only [evOpt]; rw [ev_congr h (hm y rfl)]
theorem evalOp_congr {σ : St} {f g : Fr} {op : Op} (h : Agree f g op.operands.toList) : evalOp P σ f op = evalOp P σ g op := by
  cases op with
  | build t ps => simp only [evalOp, und_eq, inf_eq, fnc_eq]; rw [evP_congr h fun x hx => by simp [Op.operands]; exact ⟨x.1, Array.mem_toList_iff.1 hx⟩]
  | buildSlice t n ps => simp only [evalOp, und_eq, inf_eq, fnc_eq]; rw [evP_congr h fun x hx => by simp [Op.operands]; exact ⟨x.1, Array.mem_toList_iff.1 hx⟩]
  | makeFunc fn a b =>
    simp only [evalOp]
    rw [evL_congr h (xs := a.toList) fun x hx => by simp [Op.operands]; exact .inl (by simpa using hx), evL_congr h (xs := b.toList) fun x hx => by simp [Op.operands]; exact .inr (by simpa using hx)]
  | slice t x lo hi mx =>
    cases mx with
    | some y =>
      simp only [evalOp]
      rw [ev_congr h (x := x) (by simp [Op.operands]), evOpt_congr h (x := lo) (by intro y hy; subst hy; simp [Op.operands]), evOpt_congr h (x := hi) (by intro y hy; subst hy; simp [Op.operands]), ev_congr h (x := y) (by simp [Op.operands])]
    | none =>
      simp only [evalOp]
      rw [ev_congr h (x := x) (by simp [Op.operands]), evOpt_congr h (x := lo) (by intro y hy; subst hy; simp [Op.operands]), evOpt_congr h (x := hi) (by intro y hy; subst hy; simp [Op.operands])]
  | makeMap t r => cases r <;> rfl
  | call c =>
    simp only [evalOp, call]
    rw [evL_congr h (xs := c.args.toList) fun x hx => by simp [Op.operands, Call.operands]; exact .inr (by simpa using hx)]
    cases hc : c.callee with
    | builtin b => rfl
    | invoke r name => simp only []; rw [ev_congr h (x := r) (by simp [Op.operands, Call.operands, hc])]
    | value f' => simp only []; rw [ev_congr h (x := f') (by simp [Op.operands, Call.operands, hc])]
  | defer c =>
    simp only [evalOp]
    rw [evL_congr h (xs := c.args.toList) fun x hx => by simp [Op.operands, Call.operands]; exact .inr (by simpa using hx)]
    cases hc : c.callee with
    | value f' =>
      have := ev_congr (P := P) (σ := σ) h (x := f') (by simp [Op.operands, Call.operands, hc])
      cases evL P σ g c.args.toList with
      | none => rfl
      | some args => simp only [this]
    | _ => rfl
  | move x => simp only [evalOp, und_eq, inf_eq, fnc_eq]; rw [ev_congr h (x := x) (by simp [Op.operands])]
  | assign x => simp only [evalOp, und_eq, inf_eq, fnc_eq]; rw [ev_congr h (x := x) (by simp [Op.operands])]
  | pick c x y => simp only [evalOp, und_eq, inf_eq, fnc_eq]; rw [ev_congr h (x := c) (by simp [Op.operands]), ev_congr h (x := x) (by simp [Op.operands]), ev_congr h (x := y) (by simp [Op.operands])]
  | box e x => simp only [evalOp, und_eq, inf_eq, fnc_eq]; rw [ev_congr h (x := x) (by simp [Op.operands])]
  | load t x => simp only [evalOp, und_eq, inf_eq, fnc_eq]; rw [ev_congr h (x := x) (by simp [Op.operands])]
  | store t x y => simp only [evalOp, und_eq, inf_eq, fnc_eq]; rw [ev_congr h (x := x) (by simp [Op.operands]), ev_congr h (x := y) (by simp [Op.operands])]
  | nilCheck x => simp only [evalOp, und_eq, inf_eq, fnc_eq]; rw [ev_congr h (x := x) (by simp [Op.operands])]
  | binOp op t x y yt => simp only [evalOp, und_eq, inf_eq, fnc_eq]; rw [ev_congr h (x := x) (by simp [Op.operands]), ev_congr h (x := y) (by simp [Op.operands])]
  | unOp op t x => simp only [evalOp, und_eq, inf_eq, fnc_eq]; rw [ev_congr h (x := x) (by simp [Op.operands])]
  | convert s d x => simp only [evalOp, und_eq, inf_eq, fnc_eq]; rw [ev_congr h (x := x) (by simp [Op.operands])]
  | makeInterface t x => simp only [evalOp, und_eq, inf_eq, fnc_eq]; rw [ev_congr h (x := x) (by simp [Op.operands])]
  | makeSlice t x y => simp only [evalOp, und_eq, inf_eq, fnc_eq]; rw [ev_congr h (x := x) (by simp [Op.operands]), ev_congr h (x := y) (by simp [Op.operands])]
  | fieldAddr t x n => simp only [evalOp, und_eq, inf_eq, fnc_eq]; rw [ev_congr h (x := x) (by simp [Op.operands])]
  | field t x n => simp only [evalOp, und_eq, inf_eq, fnc_eq]; rw [ev_congr h (x := x) (by simp [Op.operands])]
  | indexAddr t x y => simp only [evalOp, und_eq, inf_eq, fnc_eq]; rw [ev_congr h (x := x) (by simp [Op.operands]), ev_congr h (x := y) (by simp [Op.operands])]
  | index t x y => simp only [evalOp, und_eq, inf_eq, fnc_eq]; rw [ev_congr h (x := x) (by simp [Op.operands]), ev_congr h (x := y) (by simp [Op.operands])]
  | lookup t x y ok => simp only [evalOp, und_eq, inf_eq, fnc_eq]; rw [ev_congr h (x := x) (by simp [Op.operands]), ev_congr h (x := y) (by simp [Op.operands])]
  | mapUpdate t x y z => simp only [evalOp, und_eq, inf_eq, fnc_eq]; rw [ev_congr h (x := x) (by simp [Op.operands]), ev_congr h (x := y) (by simp [Op.operands]), ev_congr h (x := z) (by simp [Op.operands])]
  | typeAssert x t u ok => simp only [evalOp, und_eq, inf_eq, fnc_eq]; rw [ev_congr h (x := x) (by simp [Op.operands])]
  | extract x n => simp only [evalOp, und_eq, inf_eq, fnc_eq]; rw [ev_congr h (x := x) (by simp [Op.operands])]
  | range t x => simp only [evalOp, und_eq, inf_eq, fnc_eq]; rw [ev_congr h (x := x) (by simp [Op.operands])]
  | entry x => simp only [evalOp, und_eq, inf_eq, fnc_eq]; rw [ev_congr h (x := x) (by simp [Op.operands])]
  | next x is => cases is <;> (simp only [evalOp, und_eq, inf_eq, fnc_eq]; rw [ev_congr h (x := x) (by simp [Op.operands])])
  | _ => rfl
theorem val_same {σ σ' : St} {r : Option SV} {nx : Nx} (h : val r σ = some (nx, σ')) : σ' = σ ∧ ∃ v, nx = .val v := by
  unfold val at h
  cases r with
  | none => cases h
  | some v => cases h; exact ⟨rfl, v, rfl⟩
/-- What does not act leaves the memory as it is. -/
theorem quiet {σ σ' : St} {f : Fr} {op : Op} {nx : Nx} (ha : acts P op = false) (h : evalOp P σ f op = some (nx, σ')) : σ' = σ ∧ ∃ v, nx = .val v := by
  cases op <;> simp only [acts] at ha <;> first | (cases ha; done) | skip
  all_goals simp only [evalOp, und_eq, inf_eq, fnc_eq] at h
  all_goals first
    | exact val_same h
    | (split at h <;> first | exact val_same h | (cases h; done) | (cases h; exact ⟨rfl, _, rfl⟩))
    | skip
  case slice t x lo hi mx =>
    cases mx with
    | some y =>
      dsimp only at h
      split at h
      · exact val_same h
      · cases h
    | none =>
      dsimp only at h
      split at h
      · exact val_same h
      · cases h
  case convert s d x =>
    split at h
    case h_2 => cases h
    rename_i u hu
    cases hcL : convL P σ s d u with
    | none => rw [hcL] at h; cases h
    | some p =>
      rw [hcL] at h; cases h
      unfold convL at hcL
      split at hcL
      case h_2 =>
        rename_i hq; clear hq
        split at hcL
        · rename_i l0
          try simp only [und_eq, inf_eq, fnc_eq] at hcL
          split at hcL
          · rename_i hd; rw [und_eq, hd] at ha; cases ha
          · cases hl : lanes (convF P s d) [.lan l0] with
            | none => rw [hl] at hcL; cases hcL
            | some q => rw [hl] at hcL; cases hcL; exact ⟨rfl, _, rfl⟩
        · split at hcL
          · split at hcL
            · split at hcL
              · rename_i l1 _
                cases hl : lanes packF l1 with
                | none => rw [hl] at hcL; cases hcL
                | some q => rw [hl] at hcL; cases hcL; exact ⟨rfl, _, rfl⟩
              · cases hcL
            · cases hcL
          · cases hcL
        · cases hcL
      rename_i hcv
      cases hcL
      unfold conv at hcv
      try simp only [und_eq, inf_eq, fnc_eq] at hcv
      split at hcv
      · cases hcv; exact ⟨rfl, _, rfl⟩
      · cases hcv; exact ⟨rfl, _, rfl⟩
      · rename_i hd; rw [und_eq, hd] at ha; cases ha
      · rename_i hd; rw [und_eq, hd] at ha; cases ha
      · split at hcv
        · cases hcv; exact ⟨rfl, _, rfl⟩
        · cases hcv
      · split at hcv
        · split at hcv
          · rename_i l hl
            cases hp : packOf l with
            | none => rw [hp] at hcv; cases hcv
            | some q => rw [hp] at hcv; cases hcv; exact ⟨rfl, _, rfl⟩
          · cases hcv
        · cases hcv
      · cases hcv
  case call c =>
    unfold call at h
    split at h
    · cases h
    rename_i args hargs
    cases hc : c.callee with
    | value f' => rw [hc] at ha; cases ha
    | invoke r n => rw [hc] at ha; cases ha
    | builtin b =>
      rw [hc] at h ha
      simp only at h ha
      cases hb : builtinS P σ b c.argTypes.toList args with
      | none => rw [hb] at h; cases h
      | some p =>
        rw [hb] at h; cases h
        cases b <;> first | (cases ha; done) | skip
        all_goals
          unfold builtinS at hb
          try simp only [und_eq, inf_eq, fnc_eq] at hb
          repeat' split at hb
          all_goals first
            | (cases hb; done)
            | (cases hb; exact ⟨rfl, _, rfl⟩)
            | (rename_i h1 h2; cases h1; done)
            | (rename_i h1 h2 h3; cases h1; done)
            | (rename_i h1; cases h1; done)
            | (obtain ⟨q, _, rfl⟩ := Option.map_eq_some_iff.1 hb; exact ⟨rfl, _, rfl⟩)
            | skip
  all_goals
    repeat' split at h
    all_goals first
      | exact val_same h
      | (cases h; done)
      | (cases h; exact ⟨rfl, _, rfl⟩)
      | skip
end
end Go.YtjighphlkcedhaaDoorEv
