/- An evaluator for the program's own code: regions in their order. (text 14) -/
import Derived.Test.YtjighphlkcedhaaDoorEv13
set_option linter.unusedVariables false
set_option linter.unusedSimpArgs false
namespace Go.YtjighphlkcedhaaDoorEv
open Go
set_option linter.unusedSectionVars false
variable [Lane]

inductive DRs (m : Mp) : List SDef → List Deferred → Prop
  | nil : DRs m [] []
  | cons {d : SDef} {d' : Deferred} {l : List SDef} {l' : List Deferred} (h : DR m d d') (hs : DRs m l l') : DRs m (d :: l) (d' :: l')
theorem DR.mono {m m' : Mp} (h : Mle m m') {d : SDef} {d' : Deferred} (k : DR m d d') : DR m' d d' := by
  cases k with | mk hc ha => exact .mk (hc.mono h) (ha.mono h)
theorem DRs.mono {m m' : Mp} (h : Mle m m') : ∀ {l : List SDef} {l' : List Deferred}, DRs m l l' → DRs m' l l'
  | _, _, .nil => .nil
  | _, _, .cons hd hs => .cons (hd.mono h) (hs.mono h)
structure FrD (m : Mp) (nt : Nat) (fr : Fr) (a : Act) : Prop where
  tm : FrR m fr a
  df : DRs m fr.df a.defers
  sz : a.tmps.size = nt
theorem FrD.mono {m m' : Mp} (h : Mle m m') {nt : Nat} {fr : Fr} {a : Act} (k : FrD m nt fr a) : FrD m' nt fr a := ⟨k.tm.mono h, k.df.mono h, k.sz⟩
theorem FrR.put {m : Mp} {fr : Fr} {a : Act} (h : FrR m fr a) {d : Option Tmp} {v : SV} {v' : Value} (hv : VR m v v') (hd : ∀ t, d = some t → t < a.tmps.size) : FrR m (fr.put d v) (a.put d v') := by
  cases d with
  | none => exact h
  | some d =>
    refine ⟨fun t => ?_⟩
    show VR m ((fr.tm.set .undef v d).get .undef t) ((a.tmps.setIfInBounds d v').getD t undef)
    rw [Tr.get_set]
    by_cases e : t = d
    · subst e
      rw [if_pos rfl, Array.getD_eq_getD_getElem?, Array.getElem?_setIfInBounds_self_of_lt (hd _ rfl)]
      exact hv
    · rw [if_neg e, Array.getD_eq_getD_getElem?, Array.getElem?_setIfInBounds_ne (Ne.symm e), ← Array.getD_eq_getD_getElem?]
      exact h.tm t
theorem Act.put_size (a : Act) (d : Option Tmp) (v : Value) : (a.put d v).tmps.size = a.tmps.size := by cases d <;> simp [Act.put]
theorem Act.put_df (a : Act) (d : Option Tmp) (v : Value) : (a.put d v).defers = a.defers := by cases d <;> rfl
theorem Fr.put_df (fr : Fr) (d : Option Tmp) (v : SV) : (fr.put d v).df = fr.df := by cases d <;> rfl
theorem FrD.put {m : Mp} {nt : Nat} {fr : Fr} {a : Act} (h : FrD m nt fr a) {d : Option Tmp} {v : SV} {v' : Value} (hv : VR m v v') (hd : ∀ t, d = some t → t < nt) : FrD m nt (fr.put d v) (a.put d v') :=
  ⟨h.tm.put hv (by rw [h.sz]; exact hd), by rw [Fr.put_df, Act.put_df]; exact h.df, by rw [Act.put_size]; exact h.sz⟩
theorem wanted_sound {m : Mp} {fr : Fr} {a : Act} (h : FrR m fr a) (ops : Array Oper) (o : Oper) : Region.wanted o (yielded ops a.tmps) = wantedS ops.toList fr o.guard := by
  unfold Region.wanted wantedS
  cases o.guard with
  | none => rfl
  | some g =>
    obtain ⟨j, want⟩ := g
    simp only [yielded, Array.getElem?_toList]
    cases hd : (ops[j]?).bind (·.dst) with
    | none => simp
    | some d =>
      have ht := h.tm d
      simp only [Option.bind_some]
      rw [Array.getD_eq_getD_getElem?] at ht
      cases hv : a.tmps[d]? with
      | none =>
        rw [hv] at ht
        simp only [Option.getD_none] at ht
        generalize fr.tm.get .undef d = u at ht
        cases ht with
        | tuple => rfl
      | some v =>
        rw [hv] at ht
        simp only [Option.getD_some] at ht
        generalize fr.tm.get .undef d = u at ht
        cases ht <;> first
          | rfl
          | (rename_i b; cases b <;> cases want <;> rfl)

/-- What a run here says of a run there. -/
noncomputable def QR (P : Program) (m : Mp) (σ : St) (w : World) (nt : Nat) (r : Res) : Exit → Act → World → Prop := fun e a' w' =>
  match r, e with
  | .nrm fr' σ', .normal => ∃ m', FrD m' nt fr' a' ∧ Post P m σ w m' σ' w'
  | .ret fr' σ', .ret => ∃ m', FrD m' nt fr' a' ∧ Post P m σ w m' σ' w'
  | .ext id fr' σ', .exit id' => id = id' ∧ ∃ m', FrD m' nt fr' a' ∧ Post P m σ w m' σ' w'
  | .pan fr' σ', .panic ch => ∃ m' t v, ch = [{ v := .iface t v, recovered := false }] ∧ FrD m' nt fr' a' ∧ Post P m σ w m' σ' w'
  | _, _ => False
noncomputable def Res.good : Res → Prop
  | .nrm _ _ | .ret _ _ | .ext _ _ _ | .pan _ _ => True
  | _ => False
theorem QR.trans {P : Program} {m m1 : Mp} {σ σ1 : St} {w w1 : World} {nt : Nat} {r : Res} {e : Exit} {a' : Act} {w' : World} (h : Post P m σ w m1 σ1 w1) (k : QR P m1 σ1 w1 nt r e a' w') : QR P m σ w nt r e a' w' := by
  unfold QR at *
  split at k
  · obtain ⟨m', h1, h2⟩ := k; exact ⟨m', h1, h.trans h2⟩
  · obtain ⟨m', h1, h2⟩ := k; exact ⟨m', h1, h.trans h2⟩
  · obtain ⟨e, m', h1, h2⟩ := k; exact ⟨e, m', h1, h.trans h2⟩
  · obtain ⟨m', t, v, e, h1, h2⟩ := k; exact ⟨m', t, v, e, h1, h.trans h2⟩
  · exact k.elim
noncomputable def CallOk (P : Program) (m : Mp) (σ : St) (w : World) (v : SV) (σ' : St) (e : Ending) (w' : World) : Prop := ∃ m' v', e = .returned v' ∧ VR m' v v' ∧ Post P m σ w m' σ' w'
/-- A function's run, as it is asked for. -/
noncomputable def CallsOk (P : Program) (ih : Job → Fr → St → Res) : Prop := ∀ (f : FuncId) (args : List SV) (fr : Fr) (σ : St) (v : SV) (σ' : St), ih (.call f args) fr σ = .done v σ' →
  ∀ (m : Mp) (args' : Array Value) (w : World), VRs m args args'.toList → WR P m σ w → Calls P f args' w (CallOk P m σ w v σ')
/-- A call that panics. -/
noncomputable def PanOk (P : Program) (m : Mp) (σ : St) (w : World) (σ' : St) (e : Ending) (w' : World) : Prop := ∃ m' t v, e = .panicked [{ v := .iface t v, recovered := false }] ∧ Post P m σ w m' σ' w'
noncomputable def PansOk (P : Program) (ih : Job → Fr → St → Res) : Prop := ∀ (f : FuncId) (args : List SV) (fr fr' : Fr) (σ σ' : St), ih (.call f args) fr σ = .pan fr' σ' →
  ∀ (m : Mp) (args' : Array Value) (w : World), VRs m args args'.toList → WR P m σ w → Calls P f args' w (PanOk P m σ w σ')
section
variable {P : Program}
theorem runOps_good {ih : Job → Fr → St → Res} {ops : List Oper} : ∀ (os : List Oper) (fr : Fr) (σ : St) {r : Res}, runOps P ih ops os fr σ = r → (∃ fr' σ', r = .nrm fr' σ') ∨ (∃ fr' σ', r = .pan fr' σ') ∨ ∃ s, r = .bad s
  | [], fr, σ, r, h => by unfold runOps at h; exact .inl ⟨_, _, h.symm⟩
  | o :: os, fr, σ, r, h => by
    unfold runOps at h
    split at h
    · exact runOps_good os _ _ h
    · split at h
      · exact runOps_good os _ _ h
      · split at h
        · exact runOps_good os _ _ h
        · exact .inr (.inl ⟨_, _, h.symm⟩)
        · exact .inr (.inr ⟨_, h.symm⟩)
        · exact .inr (.inr ⟨_, h.symm⟩)
      · exact runOps_good os _ _ h
      · split at h
        · exact .inr (.inl ⟨_, _, h.symm⟩)
        · exact .inr (.inr ⟨_, h.symm⟩)
theorem dst_of {nt : Nat} {ops : List Oper} (h : dstOk nt ops = true) {i : Nat} {o : Oper} (ho : ops[i]? = some o) : ∀ t, o.dst = some t → t < nt := by
  intro t ht
  have := List.all_eq_true.1 h o (List.mem_of_getElem? ho)
  rw [ht] at this
  exact Nat.le_of_ble_eq_true this
theorem upon_mono {o : Oper} {a : Act} {K K' : Act → World → Prop} {Q Q' : Exit → Act → World → Prop} (hk : ∀ a w, K a w → K' a w) (hq : ∀ e a w, Q e a w → Q' e a w) {r : Result Next} (h : o.upon P a K Q r) : o.upon P a K' Q' r := by
  cases r with
  | ok n w' =>
    cases n <;> simp only [Oper.upon] at h ⊢ <;>
      first
        | exact hk _ _ h
        | exact Calls.mono h (fun e w'' he => by cases e with
            | returned v => exact hk _ _ he
            | panicked c => exact hq _ _ _ he
            | outgrown => exact let ⟨a, w, hh⟩ := he; ⟨a, w, hq _ _ _ hh⟩)
        | exact Rows.mono h (fun _ _ he => hk _ _ he)
  | halt x w' => cases x <;> simp only [Oper.upon] at h ⊢ <;> exact hq _ _ _ h
theorem wpOps_mono {ops : Array Oper} {Q Q' : Exit → Act → World → Prop} (hq : ∀ e a w, Q e a w → Q' e a w) : ∀ {l : List Nat} {a : Act} {w : World}, wpOps P ops Q l a w → wpOps P ops Q' l a w
  | [], a, w, h => hq _ _ _ h
  | i :: l, a, w, h => by
    unfold wpOps at h ⊢
    split at h
    · exact wpOps_mono hq h
    · split at h
      · rename_i hw
        rw [if_pos hw]
        rcases h with h | ⟨h1, a0, w0, h2⟩
        · exact .inl (upon_mono (fun a w hk => wpOps_mono hq hk) hq h)
        · exact .inr ⟨h1, a0, w0, hq _ _ _ h2⟩
      · rename_i hw
        rw [if_neg hw]
        exact wpOps_mono hq h
theorem runOps_sound (hx : ExtOk P) {ih : Job → Fr → St → Res} (hc : CallsOk P ih) {nt : Nat} {ops : Array Oper} (hd : dstOk nt ops.toList = true) :
    ∀ (os : List Oper) (i : Nat) (fr fr' : Fr) (σ σ' : St), os = ops.toList.drop i → runOps P ih ops.toList os fr σ = .nrm fr' σ' →
      ∀ (m : Mp) (a : Act) (w : World), FrD m nt fr a → WR P m σ w → wpOps P ops (QR P m σ w nt (.nrm fr' σ')) (List.range' i os.length) a w
  | [], i, fr, fr', σ, σ', hos, h, m, a, w, hf, hw => by
    unfold runOps at h; cases h
    exact ⟨m, hf, .refl hw⟩
  | o :: os, i, fr, fr', σ, σ', hos, h, m, a, w, hf, hw => by
    have ho : ops.toList[i]? = some o := by
      have := congrArg (fun l => l[0]?) hos
      simpa using this.symm
    have hoi : ops[i]? = some o := by rw [← Array.getElem?_toList]; exact ho
    have hos' : os = ops.toList.drop (i + 1) := by
      have := congrArg List.tail hos
      simpa using this
    have hdo := dst_of hd ho
    rw [List.length_cons, List.range'_succ]
    unfold wpOps
    simp only [hoi]
    rw [wanted_sound hf.tm]
    unfold runOps at h
    have nextp : ∀ (fr1 : Fr) (σ1 : St) (m1 : Mp) (a1 : Act) (w1 : World), runOps P ih ops.toList os fr1 σ1 = .nrm fr' σ' → FrD m1 nt fr1 a1 → Post P m σ w m1 σ1 w1 → wpOps P ops (QR P m σ w nt (.nrm fr' σ')) (List.range' (i + 1) os.length) a1 w1 := by
      intro fr1 σ1 m1 a1 w1 h1 hf1 hp1
      have := runOps_sound hx hc hd os (i + 1) fr1 fr' σ1 σ' hos' h1 m1 a1 w1 hf1 hp1.wr
      exact wpOps_mono (fun e a w hq => QR.trans hp1 hq) this
    split at h
    · rename_i hwn
      rw [hwn]
      simp only [Bool.false_eq_true, if_false]
      exact nextp _ _ _ _ _ h (hf.put .undef hdo) (.refl hw)
    · rename_i hwn
      rw [hwn]
      simp only [if_true]
      refine .inl ?_
      unfold Oper.wp
      split at h
      · rename_i v σ1 hop
        obtain ⟨m1, w1, nx', hrun, hnx, hp⟩ := op_sound hx hw hf.tm hop
        rw [hrun]
        cases hnx with
        | val hv => exact nextp _ _ _ _ _ h ((hf.mono hp.ext.le).put hv hdo) hp
        | skip => exact nextp _ _ _ _ _ h ((hf.mono hp.ext.le).put .undef hdo) hp
      · rename_i f args σ1 hop
        obtain ⟨m1, w1, nx', hrun, hnx, hp⟩ := op_sound hx hw hf.tm hop
        rw [hrun]
        cases hnx with
        | enter hl =>
          split at h
          · rename_i v σ2 hcall
            rw [Oper.upon_enter]
            refine (hc _ _ _ _ _ _ hcall m1 _ w1 hl hp.wr).mono fun e w2 he => ?_
            obtain ⟨m2, v', rfl, hv, hp2⟩ := he
            exact nextp _ _ _ _ _ h ((hf.mono (hp.trans hp2).ext.le).put hv hdo) (hp.trans hp2)
          · cases h
          · cases h
          · cases h
      · rename_i d σ1 hop
        obtain ⟨m1, w1, nx', hrun, hnx, hp⟩ := op_sound hx hw hf.tm hop
        rw [hrun]
        cases hnx with
        | defer hdr =>
          rw [Oper.upon_defer]
          have hf1 : FrD m1 nt ⟨fr.tm, d :: fr.df⟩ { a with defers := _ :: a.defers } := ⟨⟨((hf.mono hp.ext.le).tm).tm⟩, .cons hdr (hf.mono hp.ext.le).df, hf.sz⟩
          exact nextp _ _ _ _ _ h (hf1.put .undef hdo) hp
      · split at h
        · cases h
        · cases h
/-- The operations' run, where it ends in a panic. -/
theorem runOps_pan (hx : ExtOk P) {ih : Job → Fr → St → Res} (hc : CallsOk P ih) (hcp : PansOk P ih) {nt : Nat} {ops : Array Oper} (hd : dstOk nt ops.toList = true) :
    ∀ (os : List Oper) (i : Nat) (fr fr' : Fr) (σ σ' : St), os = ops.toList.drop i → runOps P ih ops.toList os fr σ = .pan fr' σ' →
      ∀ (m : Mp) (a : Act) (w : World), FrD m nt fr a → WR P m σ w → wpOps P ops (QR P m σ w nt (.pan fr' σ')) (List.range' i os.length) a w
  | [], i, fr, fr', σ, σ', hos, h, m, a, w, hf, hw => by
    unfold runOps at h; cases h
  | o :: os, i, fr, fr', σ, σ', hos, h, m, a, w, hf, hw => by
    have ho : ops.toList[i]? = some o := by
      have := congrArg (fun l => l[0]?) hos
      simpa using this.symm
    have hoi : ops[i]? = some o := by rw [← Array.getElem?_toList]; exact ho
    have hos' : os = ops.toList.drop (i + 1) := by
      have := congrArg List.tail hos
      simpa using this
    have hdo := dst_of hd ho
    rw [List.length_cons, List.range'_succ]
    unfold wpOps
    simp only [hoi]
    rw [wanted_sound hf.tm]
    unfold runOps at h
    have nextp : ∀ (fr1 : Fr) (σ1 : St) (m1 : Mp) (a1 : Act) (w1 : World), runOps P ih ops.toList os fr1 σ1 = .pan fr' σ' → FrD m1 nt fr1 a1 → Post P m σ w m1 σ1 w1 → wpOps P ops (QR P m σ w nt (.pan fr' σ')) (List.range' (i + 1) os.length) a1 w1 := by
      intro fr1 σ1 m1 a1 w1 h1 hf1 hp1
      have := runOps_pan hx hc hcp hd os (i + 1) fr1 fr' σ1 σ' hos' h1 m1 a1 w1 hf1 hp1.wr
      exact wpOps_mono (fun e a w hq => QR.trans hp1 hq) this
    split at h
    · rename_i hwn
      rw [hwn]
      simp only [Bool.false_eq_true, if_false]
      exact nextp _ _ _ _ _ h (hf.put .undef hdo) (.refl hw)
    · rename_i hwn
      rw [hwn]
      simp only [if_true]
      refine .inl ?_
      unfold Oper.wp
      split at h
      · rename_i v σ1 hop
        obtain ⟨m1, w1, nx', hrun, hnx, hp⟩ := op_sound hx hw hf.tm hop
        rw [hrun]
        cases hnx with
        | val hv => exact nextp _ _ _ _ _ h ((hf.mono hp.ext.le).put hv hdo) hp
        | skip => exact nextp _ _ _ _ _ h ((hf.mono hp.ext.le).put .undef hdo) hp
      · rename_i f args σ1 hop
        obtain ⟨m1, w1, nx', hrun, hnx, hp⟩ := op_sound hx hw hf.tm hop
        rw [hrun]
        cases hnx with
        | enter hl =>
          split at h
          · rename_i v σ2 hcall
            rw [Oper.upon_enter]
            refine (hc _ _ _ _ _ _ hcall m1 _ w1 hl hp.wr).mono fun e w2 he => ?_
            obtain ⟨m2, v', rfl, hv, hp2⟩ := he
            exact nextp _ _ _ _ _ h ((hf.mono (hp.trans hp2).ext.le).put hv hdo) (hp.trans hp2)
          · rename_i fr2 σ2 hcall
            cases h
            rw [Oper.upon_enter]
            refine (hcp _ _ _ _ _ _ hcall m1 _ w1 hl hp.wr).mono fun e w2 he => ?_
            obtain ⟨m2, t, v', rfl, hp2⟩ := he
            exact ⟨m2, t, v', rfl, hf.mono (hp.trans hp2).ext.le, hp.trans hp2⟩
          · cases h
          · cases h
      · rename_i d σ1 hop
        obtain ⟨m1, w1, nx', hrun, hnx, hp⟩ := op_sound hx hw hf.tm hop
        rw [hrun]
        cases hnx with
        | defer hdr =>
          rw [Oper.upon_defer]
          have hf1 : FrD m1 nt ⟨fr.tm, d :: fr.df⟩ { a with defers := _ :: a.defers } := ⟨⟨((hf.mono hp.ext.le).tm).tm⟩, .cons hdr (hf.mono hp.ext.le).df, hf.sz⟩
          exact nextp _ _ _ _ _ h (hf1.put .undef hdo) hp
      · split at h
        · rename_i hpn
          cases h
          obtain ⟨t, v, w1, hrun, hp1⟩ := pansOp_sound hw hf.tm hpn
          rw [hrun]
          exact ⟨m, t, v, rfl, hf, hp1⟩
        · cases h
end
end Go.YtjighphlkcedhaaDoorEv
