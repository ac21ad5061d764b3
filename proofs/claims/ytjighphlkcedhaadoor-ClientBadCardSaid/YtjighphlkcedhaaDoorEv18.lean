/- An evaluator for the program's own code: what it says of a call holds in the machine. (text 18) -/
import Derived.Test.YtjighphlkcedhaaDoorEv17
import Derived.Recover
set_option linter.unusedVariables false
set_option linter.unusedSimpArgs false
namespace Go.YtjighphlkcedhaaDoorEv
open Go
set_option linter.unusedSectionVars false
variable [Lane]

noncomputable def LoopWp (P : Program) (c : Code) (Q : Exit → Act → World → Prop) (a : Act) (w : World) : Prop :=
  ∀ (b : Frame) (k : List Item) (cs : List Frame), ∃ e a' w', Q e a' w' ∧ Arrives P (lone (b.at a (.code c :: .inLoop c :: k)) cs w) b k cs e a' w'
section
variable {P : Program}
theorem loop_of {c : Code} {Q : Exit → Act → World → Prop} {a : Act} {w : World} (h : LoopWp P c Q a w) : (Code.loop c).wp P Q a w := fun b k cs =>
  let ⟨e, a', w', hq, harr⟩ := h b k cs
  ⟨e, a', w', hq, .of_steps (.one step_loop) harr⟩
theorem loop_round {c : Code} {Q : Exit → Act → World → Prop} {a : Act} {w : World} (h : c.wp P (Exit.then (LoopWp P c Q) Q) a w) : LoopWp P c Q a w := by
  intro b k cs
  obtain ⟨e, a₁, w₁, hq, harr⟩ := h b (.inLoop c :: k) cs
  cases e with
  | normal =>
    obtain ⟨e₂, a₂, w₂, hq₂, harr₂⟩ := hq b k cs
    exact ⟨e₂, a₂, w₂, hq₂, .of_steps (Steps.trans harr (.one step_inLoop)) harr₂⟩
  | exit id => exact ⟨_, a₁, w₁, hq, .pass (x := .inLoop c) rfl (fun _ _ => .inl (by simp)) harr⟩
  | goto l => exact ⟨_, a₁, w₁, hq, .pass (x := .inLoop c) rfl (fun _ _ => .inl (by simp)) harr⟩
  | ret => exact ⟨_, a₁, w₁, hq, .pass (x := .inLoop c) rfl (fun _ _ => .inl (by simp)) harr⟩
  | panic ch => exact ⟨_, a₁, w₁, hq, .pass (x := .inLoop c) rfl (fun _ _ => .inl (by simp)) harr⟩
  | outgrown => exact ⟨_, a₁, w₁, hq, .pass (x := .inLoop c) rfl (fun _ _ => .inl (by simp)) harr⟩
theorem LoopWp.mono {c : Code} {Q Q' : Exit → Act → World → Prop} {a : Act} {w : World} (h : LoopWp P c Q a w) (hq : ∀ e a w, Q e a w → Q' e a w) : LoopWp P c Q' a w :=
  fun b k cs => let ⟨e, a', w', q, r⟩ := h b k cs; ⟨e, a', w', hq _ _ _ q, r⟩
structure Sound (P : Program) (ih : Job → Fr → St → Res) : Prop where
  code : ∀ (nt : Nat) (c : Code) (fr : Fr) (σ : St), (ih (.code c) fr σ).good → codeOk nt c = true → ∀ (m : Mp) (a : Act) (w : World), FrD m nt fr a → WR P m σ w → c.wp P (QR P m σ w nt (ih (.code c) fr σ)) a w
  loop : ∀ (nt : Nat) (c : Code) (fr : Fr) (σ : St), (ih (.loop c) fr σ).good → codeOk nt c = true → ∀ (m : Mp) (a : Act) (w : World), FrD m nt fr a → WR P m σ w → LoopWp P c (QR P m σ w nt (ih (.loop c) fr σ)) a w
  call : CallsOk P ih
  late : ∀ (f : FuncId) (args : List SV) (fr : Fr) (σ : St) (v : SV) (σ' : St), ih (.late f args) fr σ = .done v σ' →
    ∀ (m : Mp) (args' : Array Value) (w : World), VRs m args args'.toList → WR P m σ w → CallsD P f args' .returning w fun e u' w' => u' = .returning ∧ CallOk P m σ w v σ' e w'
  pan : PansOk P ih
  latep : ∀ (f : FuncId) (args : List SV) (fr : Fr) (σ : St) (v : SV) (σ' : St), ih (.latep f args) fr σ = .done v σ' →
    ∀ (m : Mp) (args' : Array Value) (w : World) (t : TypeId) (pv : Value), VRs m args args'.toList → WR P m σ w → CallsD P f args' (.panicking [{ v := .iface t pv, recovered := false }]) w fun e u' w' =>
      u' = .panicking [{ v := .iface t pv, recovered := true }] ∧ CallOk P m σ w v σ' e w'
theorem resV_sound {m : Mp} {σ : St} {w : World} (hw : WR P m σ w) {fr : Fr} {tmps : Array Value} (hf : ∀ t, VR m (fr.tm.get .undef t) (tmps.getD t undef)) : ∀ {rs : List ResultVar} {l : List SV}, resV P σ fr rs = some l →
    ∃ l', (rs.mapM fun
    | .tmp t => pure (tmps.getD t undef)
    | .cell a t => do loadVar t (← asAddr (tmps.getD a undef)) : Sem (List Value)).run P w = .ok l' w ∧ VRs m l l'
  | [], l, h => by unfold resV at h; cases h; exact ⟨[], by simp, .nil⟩
  | .tmp t :: rs, l, h => by
    unfold resV at h
    split at h
    · rename_i k hk
      cases h
      obtain ⟨l', h1, h2⟩ := resV_sound hw hf hk
      exact ⟨_ :: l', by simp only [List.mapM_cons, Sem.run_bind, Sem.run_pure, Result.andThen_ok, h1], .cons (hf t) h2⟩
    · cases h
  | .cell a t :: rs, l, h => by
    unfold resV at h
    split at h
    · rename_i b off k hp hk
      split at h
      · rename_i v hv
        cases h
        obtain ⟨l', h1, h2⟩ := resV_sound hw hf hk
        have hpr := hf a
        rw [hp] at hpr
        obtain ⟨im, he, hm⟩ := hpr.ptr_inv
        obtain ⟨v', h3, h4⟩ := loadV_sound hw hv hm
        have hA : (asAddr (tmps.getD a undef)).run P w = .ok ⟨im.blk, im.base + off, none⟩ w := by rw [he]; rfl
        exact ⟨v' :: l', by simp only [List.mapM_cons, Sem.run_bind, Sem.run_pure, Result.andThen_ok, hA, h4, h1], .cons h3 h2⟩
      · cases h
    · cases h
theorem results_sound {m : Mp} {σ σ' : St} {w : World} (hw : WR P m σ w) {fn : Func} {fr : Fr} {tmps : Array Value} {v : SV} (hf : ∀ t, VR m (fr.tm.get .undef t) (tmps.getD t undef)) (h : results P fn fr σ = .done v σ') :
    σ' = σ ∧ ∃ v', (Go.results fn tmps).run P w = .ok v' w ∧ VR m v v' := by
  unfold Go.YtjighphlkcedhaaDoorEv.results at h
  split at h
  · rename_i l hl
    cases h
    obtain ⟨l', h1, h2⟩ := resV_sound hw hf hl
    refine ⟨rfl, ?_⟩
    have hm : (fn.results.mapM fun
      | .tmp t => pure (tmps.getD t undef)
      | .cell a t => do loadVar t (← asAddr (tmps.getD a undef)) : Sem (Array Value)).run P w = .ok l'.toArray w := by
      rw [Array.mapM_eq_mapM_toList, Sem.run_map, h1]; rfl
    unfold Go.results
    simp only [Sem.run_bind]
    refine ⟨if h : l'.toArray.size = 1 then l'.toArray[0] else .tuple l'.toArray, (congrArg (fun r => Result.andThen r _) hm).trans rfl, ?_⟩
    cases h2 with
    | nil => exact .tuple .nil
    | cons hv hs =>
      cases hs with
      | nil => exact hv
      | cons hv2 hs2 =>
        rw [dif_neg (by simp)]
        exact .tuple (.cons hv (.cons hv2 hs2))
  · cases h
theorem leave_sound {ih : Job → Fr → St → Res} (hs : Sound P ih) {fn : Func} {fr : Fr} {tmps : Array Value} {m0 : Mp} {σ0 : St} {w0 : World} {v : SV} {σ' : St} :
    ∀ {ds : List SDef} {ds' : List Deferred} {m : Mp} {σ : St} {w : World}, leave P ih fn fr ds σ = .done v σ' → DRs m ds ds' → (∀ t, VR m (fr.tm.get .undef t) (tmps.getD t undef)) → Post P m0 σ0 w0 m σ w →
      Leaves P fn tmps (CallOk P m0 σ0 w0 v σ') ds' .returning w
  | [], _, m, σ, w, h, .nil, hf, hp => by
    unfold leave at h
    obtain ⟨e, v', h1, h2⟩ := results_sound hp.wr hf h
    subst e
    exact ⟨v', h1, m, v', rfl, h2, hp⟩
  | d :: ds, d' :: ds', m, σ, w, h, .cons hd hds, hf, hp => by
    unfold leave at h
    cases hd with
    | mk hcap hargs =>
      rename_i fnv c a c' a'
      simp only at h
      split at h
      · rename_i g
        split at h
        · rename_i hb
          split at h
          · rename_i v1 σ1 hl
            have hl' := hs.late _ _ _ _ _ _ hl m (a' ++ c') w (by rw [Array.toList_append]; exact hargs.append hcap) hp.wr
            refine leaves_cons (by simp) (f := g) (args := a' ++ c') (bodyful_run hb) ?_
            refine hl'.mono fun e u' w' he => ?_
            obtain ⟨rfl, m', v', rfl, _, hp'⟩ := he
            exact leave_sound hs h (hds.mono hp'.ext.le) (fun t => (hf t).mono hp'.ext.le) (hp.trans hp')
          · cases h
          · cases h
        · cases h
      · cases h
theorem args_fr {m : Mp} {args : List SV} {args' : Array Value} {nt : Nat} (ha : VRs m args args'.toList) (hle : args.length ≤ nt) : FrD m nt ⟨putL args .nil 0, []⟩ { tmps := args' ++ Array.replicate (nt - args'.size) undef, defers := [] } := by
  have hlen : args'.size = args.length := by rw [← Array.length_toList, ← ha.length]
  refine ⟨⟨fun t => ?_⟩, .nil, by simp; omega⟩
  show VR m ((putL args .nil 0).get .undef t) ((args' ++ Array.replicate (nt - args'.size) undef).getD t undef)
  rw [Array.getD_eq_getD_getElem?]
  by_cases h : t < args.length
  · obtain ⟨u, hu⟩ : ∃ u, args[t]? = some u := ⟨_, List.getElem?_eq_getElem h⟩
    obtain ⟨u', hu', hr⟩ := ha.get _ _ hu
    rw [Array.getElem?_toList] at hu'
    have := putL_in (c := .nil) (i := 0) hu
    rw [Nat.zero_add] at this
    rw [this, Array.getElem?_append_left (by omega), hu']
    exact hr
  · rw [putL_out (by omega), Tr.get_nil, Array.getElem?_append_right (by omega)]
    have : (Array.replicate (nt - args'.size) undef)[t - args'.size]?.getD undef = undef := by
      rw [Array.getElem?_replicate]; split <;> rfl
    rw [this]; exact .undef
theorem leave_no_pan {ih : Job → Fr → St → Res} {fn : Func} {fr : Fr} : ∀ {ds : List SDef} {σ : St} {fr' : Fr} {σ' : St}, leave P ih fn fr ds σ = .pan fr' σ' → False
  | [], σ, fr', σ', h => by
    unfold leave Go.YtjighphlkcedhaaDoorEv.results at h
    split at h <;> cases h
  | d :: ds, σ, fr', σ', h => by
    unfold leave at h
    split at h
    · split at h
      · split at h
        · exact leave_no_pan h
        · cases h
        · cases h
      · cases h
    · cases h
theorem leaveP_sound {ih : Job → Fr → St → Res} (hs : Sound P ih) {fn : Func} {fr : Fr} {tmps : Array Value} {m0 : Mp} {σ0 : St} {w0 : World} {t : TypeId} {pv : Value} :
    ∀ {ds : List SDef} {ds' : List Deferred} {m : Mp} {σ : St} {w : World} {r : Res}, leaveP P ih fn fr ds σ = r → DRs m ds ds' → (∀ t, VR m (fr.tm.get .undef t) (tmps.getD t undef)) → Post P m0 σ0 w0 m σ w →
      (∀ v σ', r = .done v σ' → Leaves P fn tmps (CallOk P m0 σ0 w0 v σ') ds' (.panicking [{ v := .iface t pv, recovered := false }]) w) ∧
      (∀ fr' σ', r = .pan fr' σ' → Leaves P fn tmps (PanOk P m0 σ0 w0 σ') ds' (.panicking [{ v := .iface t pv, recovered := false }]) w)
  | [], _, m, σ, w, r, h, .nil, hf, hp => by
    unfold leaveP at h
    subst h
    refine ⟨fun v σ' e => (by cases e), fun fr' σ' e => ?_⟩
    cases e
    exact ⟨m, t, pv, rfl, hp⟩
  | d :: ds, d' :: ds', m, σ, w, r, h, .cons hd hds, hf, hp => by
    rw [leaveP] at h
    refine ⟨fun v σ' e => ?_, fun fr' σ' e => ?_⟩
    · subst e
      cases hd with
      | mk hcap hargs =>
        rename_i fnv c a c' a'
        simp only at h
        split at h
        · rename_i g
          split at h
          · rename_i hb
            split at h
            · rename_i v1 σ1 hl
              have hl' := hs.latep _ _ _ _ _ _ hl m (a' ++ c') w t pv (by rw [Array.toList_append]; exact hargs.append hcap) hp.wr
              refine leaves_cons (by simp) (f := g) (args := a' ++ c') (bodyful_run hb) ?_
              refine hl'.mono fun e u' w' he => ?_
              obtain ⟨rfl, m', v', rfl, _, hp'⟩ := he
              show Leaves P fn tmps _ ds' (settle (.panicking [{ v := .iface t pv, recovered := true }])) w'
              exact leave_sound hs h (hds.mono hp'.ext.le) (fun t => (hf t).mono hp'.ext.le) (hp.trans hp')
            · cases h
            · cases h
          · cases h
        · cases h
    · subst e
      exfalso
      split at h
      · split at h
        · split at h
          · exact leave_no_pan h
          · cases h
          · cases h
        · cases h
      · cases h
/-- The caller that panics, and has it been recovered. -/
def modeP (t : TypeId) (pv : Value) (r : Bool) : FrameMode := .panicking [{ v := .iface t pv, recovered := r }]
def QRS (P : Program) (m : Mp) (σ : St) (w : World) (nt : Nat) (c0 : Frame) (rest : List Frame) (t : TypeId) (pv : Value) (x : ResP) : Exit → Act → List Frame → World → Prop := fun e a' cs' w' =>
  match x, e with
  | .nrm r fr' σ', .normal => cs' = { c0 with mode := modeP t pv r } :: rest ∧ ∃ m', FrD m' nt fr' a' ∧ Post P m σ w m' σ' w'
  | .ret r fr' σ', .ret => cs' = { c0 with mode := modeP t pv r } :: rest ∧ ∃ m', FrD m' nt fr' a' ∧ Post P m σ w m' σ' w'
  | _, _ => False
def ResP.good : ResP → Prop
  | .bad _ => False
  | _ => True
theorem wpS_mono {c : Code} {Q Q' : Exit → Act → List Frame → World → Prop} {a : Act} {cs : List Frame} {w : World} (h : c.wpS P Q a cs w) (hq : ∀ e a cs w, Q e a cs w → Q' e a cs w) : c.wpS P Q' a cs w :=
  fun b k h1 h2 => let ⟨e, a', cs', w', q, r⟩ := h b k h1 h2; ⟨e, a', cs', w', hq _ _ _ _ q, r⟩
theorem wpOpsS_mono {ops : Array Oper} {Q Q' : Exit → Act → List Frame → World → Prop} (hq : ∀ e a cs w, Q e a cs w → Q' e a cs w) : ∀ {l : List Nat} {a : Act} {cs : List Frame} {w : World}, wpOpsS P ops Q l a cs w → wpOpsS P ops Q' l a cs w
  | [], a, cs, w, h => hq _ _ _ _ h
  | i :: l, a, cs, w, h => by
    unfold wpOpsS at h ⊢
    split at h
    · exact wpOpsS_mono hq h
    · split at h
      · rename_i hw
        rw [if_pos hw]
        split at h
        · split at h
          · exact wpOpsS_mono hq h
          · exact wpOpsS_mono hq h
        · exact upon_mono (fun a w hk => wpOpsS_mono hq hk) (fun e a w h => hq e a cs w h) h
      · rename_i hw
        rw [if_neg hw]
        exact wpOpsS_mono hq h
theorem QRS.trans {m m1 : Mp} {σ σ1 : St} {w w1 : World} {nt : Nat} {c0 : Frame} {rest : List Frame} {t : TypeId} {pv : Value} {x : ResP} (h : Post P m σ w m1 σ1 w1) {e : Exit} {a' : Act} {cs' : List Frame} {w' : World}
    (k : QRS P m1 σ1 w1 nt c0 rest t pv x e a' cs' w') : QRS P m σ w nt c0 rest t pv x e a' cs' w' := by
  unfold QRS at *
  split at k
  · obtain ⟨e, m', h1, h2⟩ := k; exact ⟨e, m', h1, h.trans h2⟩
  · obtain ⟨e, m', h1, h2⟩ := k; exact ⟨e, m', h1, h.trans h2⟩
  · exact k.elim
theorem opsP_good {ih : Job → Fr → St → Res} {ops : List Oper} : ∀ (os : List Oper) (r : Bool) (fr : Fr) (σ : St) {x : ResP}, opsP P ih ops os r fr σ = x → (∃ r' fr' σ', x = .nrm r' fr' σ') ∨ ∃ s, x = .bad s
  | [], r, fr, σ, x, h => by unfold opsP at h; exact .inl ⟨_, _, _, h.symm⟩
  | o :: os, r, fr, σ, x, h => by
    unfold opsP at h
    split at h
    · exact opsP_good os _ _ _ h
    · split at h
      · split at h
        · exact opsP_good os _ _ _ h
        · exact .inr ⟨_, h.symm⟩
      · split at h
        · exact opsP_good os _ _ _ h
        · split at h
          · exact opsP_good os _ _ _ h
          · exact .inr ⟨_, h.symm⟩
        · exact .inr ⟨_, h.symm⟩
theorem opsP_sound (hx : ExtOk P) {ih : Job → Fr → St → Res} (hs : Sound P ih) {nt : Nat} {ops : Array Oper} (hd : dstOk nt ops.toList = true) {c0 : Frame} {rest : List Frame} {t : TypeId} {pv : Value} :
    ∀ (os : List Oper) (i : Nat) (r r' : Bool) (fr fr' : Fr) (σ σ' : St), os = ops.toList.drop i → opsP P ih ops.toList os r fr σ = .nrm r' fr' σ' →
      ∀ (m : Mp) (a : Act) (w : World), FrD m nt fr a → WR P m σ w → wpOpsS P ops (QRS P m σ w nt c0 rest t pv (.nrm r' fr' σ')) (List.range' i os.length) a ({ c0 with mode := modeP t pv r } :: rest) w
  | [], i, r, r', fr, fr', σ, σ', hos, h, m, a, w, hf, hw => by
    unfold opsP at h; cases h
    exact ⟨rfl, m, hf, .refl hw⟩
  | o :: os, i, r, r', fr, fr', σ, σ', hos, h, m, a, w, hf, hw => by
    have ho : ops.toList[i]? = some o := by
      have := congrArg (fun l => l[0]?) hos
      simpa using this.symm
    have hoi : ops[i]? = some o := by rw [← Array.getElem?_toList]; exact ho
    have hos' : os = ops.toList.drop (i + 1) := by
      have := congrArg List.tail hos
      simpa using this
    have hdo := dst_of hd ho
    rw [List.length_cons, List.range'_succ]
    unfold wpOpsS
    simp only [hoi]
    rw [wanted_sound hf.tm]
    unfold opsP at h
    have nextp : ∀ (r1 : Bool) (fr1 : Fr) (σ1 : St) (m1 : Mp) (a1 : Act) (w1 : World), opsP P ih ops.toList os r1 fr1 σ1 = .nrm r' fr' σ' → FrD m1 nt fr1 a1 → Post P m σ w m1 σ1 w1 →
        wpOpsS P ops (QRS P m σ w nt c0 rest t pv (.nrm r' fr' σ')) (List.range' (i + 1) os.length) a1 ({ c0 with mode := modeP t pv r1 } :: rest) w1 := by
      intro r1 fr1 σ1 m1 a1 w1 h1 hf1 hp1
      have := opsP_sound hx hs hd (c0 := c0) (rest := rest) (t := t) (pv := pv) os (i + 1) r1 r' fr1 fr' σ1 σ' hos' h1 m1 a1 w1 hf1 hp1.wr
      exact wpOpsS_mono (fun e a cs w hq => QRS.trans hp1 hq) this
    split at h
    · rename_i hwn
      rw [hwn]
      simp only [Bool.false_eq_true, if_false]
      exact nextp _ _ _ _ _ _ h (hf.put .undef hdo) (.refl hw)
    · rename_i hwn
      rw [hwn]
      simp only [if_true]
      split at h
      · rename_i hrec
        split at h
        case h_2 => cases h
        have hrun : (execOp a.eval o).run P w = .ok .recover w := by
          obtain ⟨dst, op, type, pos, after, guard⟩ := o
          simp only at hrec
          unfold isRec at hrec
          split at hrec
          · rename_i c
            split at hrec
            · rename_i hc
              show (do let d ← resolve a.eval c type; invoke d.target d.args : Sem Next).run P w = _
              simp only [resolve, hc, Sem.run_bind, Sem.run_pure, Result.andThen_ok, invoke]
              rfl
            · cases hrec
          · cases hrec
        rw [hrun]
        simp only []
        have hrd : recoverD ({ c0 with mode := modeP t pv false } :: rest) = some (.iface t pv, { c0 with mode := modeP t pv true } :: rest) := rfl
        rw [hrd]
        exact nextp true _ σ m _ w h (hf.put .anyI hdo) (.refl hw)
      · split at h
        · rename_i v σ1 hop
          obtain ⟨m1, w1, nx', hrun, hnx, hp⟩ := op_sound hx hw hf.tm hop
          rw [hrun]
          cases hnx with
          | val hv => exact nextp _ _ _ _ _ _ h ((hf.mono hp.ext.le).put hv hdo) hp
          | skip => exact nextp _ _ _ _ _ _ h ((hf.mono hp.ext.le).put .undef hdo) hp
        · rename_i f args σ1 hop
          obtain ⟨m1, w1, nx', hrun, hnx, hp⟩ := op_sound hx hw hf.tm hop
          rw [hrun]
          cases hnx with
          | enter hl =>
            split at h
            · rename_i v σ2 hcall
              show Calls P _ _ w1 _
              refine (hs.call _ _ _ _ _ _ hcall m1 _ w1 hl hp.wr).mono fun e w2 he => ?_
              obtain ⟨m2, v', rfl, hv, hp2⟩ := he
              exact nextp _ _ _ _ _ _ h ((hf.mono (hp.trans hp2).ext.le).put hv hdo) (hp.trans hp2)
            · cases h
        · cases h
theorem codeP_sound (hx : ExtOk P) (hmo : P.follows .mixedOrders = true) {ih : Job → Fr → St → Res} (hs : Sound P ih) {nt : Nat} {c0 : Frame} {rest : List Frame} {t : TypeId} {pv : Value} :
    ∀ (c : Code) (r : Bool) (fr : Fr) (σ : St) (x : ResP), codeP P ih c r fr σ = x → x.good → codeOk nt c = true → ∀ (m : Mp) (a : Act) (w : World), FrD m nt fr a → WR P m σ w →
      c.wpS P (QRS P m σ w nt c0 rest t pv x) a ({ c0 with mode := modeP t pv r } :: rest) w
  | .seq p q, r, fr, σ, x, h, hg, hok, m, a, w, hf, hw => by
    simp only [codeOk, Bool.and_eq_true] at hok
    unfold codeP at h
    refine wpS_seq ?_
    split at h
    · rename_i r1 fr1 σ1 hp
      refine wpS_mono (codeP_sound hx hmo hs p r fr σ _ hp trivial hok.1 m a w hf hw) fun e a1 cs1 w1 hq => ?_
      cases e with
      | normal =>
        obtain ⟨hcs, m1, h1, h2⟩ := hq
        subst hcs
        exact wpS_mono (codeP_sound hx hmo hs q r1 fr1 σ1 x h hg hok.2 m1 a1 w1 h1 h2.wr) fun e a2 cs2 w2 hq2 => QRS.trans h2 hq2
      | _ => exact hq.elim
    · rename_i hne
      subst h
      refine wpS_mono (codeP_sound hx hmo hs p r fr σ _ rfl hg hok.1 m a w hf hw) fun e a1 cs1 w1 hq => ?_
      cases e with
      | normal =>
        cases hx1 : codeP P ih p r fr σ with
        | nrm r1 fr1 σ1 => exact (hne _ _ _ hx1).elim
        | ret r1 fr1 σ1 => rw [hx1] at hq; exact hq.elim
        | bad s => rw [hx1] at hq; exact hq.elim
      | _ => exact hq
  | .cond y p q, r, fr, σ, x, h, hg, hok, m, a, w, hf, hw => by
    simp only [codeOk, Bool.and_eq_true] at hok
    unfold codeP at h
    split at h
    · rename_i hv
      have hr := ev_sound hw hf.tm hv
      generalize hre : a.eval y = rv at hr
      cases hr
      exact wpS_cond (t := true) hre (codeP_sound hx hmo hs p r fr σ x h hg hok.1 m a w hf hw)
    · rename_i hv
      have hr := ev_sound hw hf.tm hv
      generalize hre : a.eval y = rv at hr
      cases hr
      exact wpS_cond (t := false) hre (codeP_sound hx hmo hs q r fr σ x h hg hok.2 m a w hf hw)
    · subst h; exact hg.elim
  | .region id ops draw, r, fr, σ, x, h, hg, hok, m, a, w, hf, hw => by
    unfold codeP at h
    simp only [codeOk] at hok
    cases draw with
    | false =>
      simp only at h
      rcases opsP_good _ _ _ _ h with ⟨r', fr', σ', rfl⟩ | ⟨s, rfl⟩
      · refine wpS_region ?_
        have := opsP_sound hx hs hok (c0 := c0) (rest := rest) (t := t) (pv := pv) ops.toList 0 r r' fr fr' σ σ' (by simp) h m a w hf hw
        rwa [Array.length_toList, ← List.range_eq_range'] at this
      · exact hg.elim
    | true =>
      simp only at h
      split at h
      · rename_i fr1 σ1 hr
        subst h
        refine wpS_of_wp ?_
        have := hs.code nt (.region id ops true) fr σ (by rw [hr]; trivial) (by simp only [codeOk]; exact hok) m a w hf hw
        rw [hr] at this
        refine wp_mono this fun e a1 w1 hq => ?_
        cases e with
        | normal => exact ⟨rfl, hq⟩
        | _ => exact hq.elim
      · subst h; exact hg.elim
  | .skip, r, fr, σ, x, h, hg, hok, m, a, w, hf, hw => by
    unfold codeP at h
    subst h
    exact wpS_of_wp (wp_skip ⟨rfl, m, hf, .refl hw⟩)
  | .ret, r, fr, σ, x, h, hg, hok, m, a, w, hf, hw => by
    unfold codeP at h
    subst h
    exact wpS_of_wp (wp_ret ⟨rfl, m, hf, .refl hw⟩)
  | .block _ _, r, fr, σ, x, h, hg, hok, m, a, w, hf, hw => by unfold codeP at h; subst h; exact hg.elim
  | .loop _, r, fr, σ, x, h, hg, hok, m, a, w, hf, hw => by unfold codeP at h; subst h; exact hg.elim
  | .rangeFunc _ _ _ _, r, fr, σ, x, h, hg, hok, m, a, w, hf, hw => by unfold codeP at h; subst h; exact hg.elim
  | .exit _, r, fr, σ, x, h, hg, hok, m, a, w, hf, hw => by unfold codeP at h; subst h; exact hg.elim
  | .scope _, r, fr, σ, x, h, hg, hok, m, a, w, hf, hw => by unfold codeP at h; subst h; exact hg.elim
  | .label _, r, fr, σ, x, h, hg, hok, m, a, w, hf, hw => by unfold codeP at h; subst h; exact hg.elim
  | .goto _, r, fr, σ, x, h, hg, hok, m, a, w, hf, hw => by unfold codeP at h; subst h; exact hg.elim
  | .refuse _, r, fr, σ, x, h, hg, hok, m, a, w, hf, hw => by unfold codeP at h; subst h; exact hg.elim
theorem step_sound (hx : ExtOk P) (hmo : P.follows .mixedOrders = true) {ih : Job → Fr → St → Res} (hs : Sound P ih) : Sound P (step P ih) := by
  have seqlike : ∀ {nt : Nat} {c : Code} {K : Act → World → Prop} {fr : Fr} {σ : St} {m : Mp} {a : Act} {w : World} {r1 r : Res}, c.wp P (QR P m σ w nt r1) a w →
      (∀ fr1 σ1, r1 = .nrm fr1 σ1 → ∀ m1 a1 w1, FrD m1 nt fr1 a1 → Post P m σ w m1 σ1 w1 → K a1 w1) → (∀ e a1 w1, e ≠ .normal → QR P m σ w nt r1 e a1 w1 → QR P m σ w nt r e a1 w1) → c.wp P (Exit.then K (QR P m σ w nt r)) a w := by
    intro nt c K fr σ m a w r1 r h hn he
    refine wp_mono h fun e a1 w1 hq => ?_
    cases e with
    | normal =>
      unfold QR at hq
      split at hq
      · rename_i fr1 σ1 _
        obtain ⟨m1, h1, h2⟩ := hq
        exact hn _ _ rfl m1 a1 w1 h1 h2
      · rename_i hbad; cases hbad
      · rename_i hbad; cases hbad
      · rename_i hbad; cases hbad
      · exact hq.elim
    | exit id => exact he _ _ _ (by simp) hq
    | goto l => exact he _ _ _ (by simp) hq
    | ret => exact he _ _ _ (by simp) hq
    | panic c => exact he _ _ _ (by simp) hq
    | outgrown => exact he _ _ _ (by simp) hq
  refine ⟨?_, ?_, ?_, ?_, ?_, ?_⟩
  · intro nt c fr σ hg hok m a w hf hw
    cases c with
    | skip => exact wp_skip ⟨m, hf, .refl hw⟩
    | label l => exact wp_label ⟨m, hf, .refl hw⟩
    | exit id => exact wp_exit ⟨rfl, m, hf, .refl hw⟩
    | ret => exact wp_ret ⟨m, hf, .refl hw⟩
    | seq x y =>
      simp only [codeOk, Bool.and_eq_true] at hok
      refine wp_seq ?_
      have hgx : (ih (.code x) fr σ).good := by
        simp only [step] at hg
        split at hg
        · rename_i he; rw [he]; trivial
        · exact hg
      refine seqlike (hs.code nt x fr σ hgx hok.1 m a w hf hw) (fr := fr) ?_ ?_
      · intro fr1 σ1 he m1 a1 w1 hf1 hp1
        have hstep : step P ih (.code (.seq x y)) fr σ = ih (.code y) fr1 σ1 := by simp only [step, he]
        rw [hstep] at hg ⊢
        exact wp_mono (hs.code nt y fr1 σ1 hg hok.2 m1 a1 w1 hf1 hp1.wr) fun e a2 w2 hq => QR.trans hp1 hq
      · intro e a1 w1 hne hq
        simp only [step]
        split
        · rename_i fr1 σ1 he
          rw [he] at hq
          cases e <;> first | exact absurd rfl hne | exact hq.elim
        · exact hq
    | cond x y z =>
      simp only [codeOk, Bool.and_eq_true] at hok
      simp only [step] at hg ⊢
      split at hg
      · rename_i hv
        have hr := ev_sound hw hf.tm hv
        generalize hre : a.eval x = rv at hr
        cases hr
        exact wp_cond_true hre (hs.code nt y fr σ hg hok.1 m a w hf hw)
      · rename_i hv
        have hr := ev_sound hw hf.tm hv
        generalize hre : a.eval x = rv at hr
        cases hr
        exact wp_cond_false hre (hs.code nt z fr σ hg hok.2 m a w hf hw)
      · exact hg.elim
    | block id x =>
      simp only [codeOk] at hok
      refine wp_block ?_
      have hgx : (ih (.code x) fr σ).good := by
        simp only [step] at hg
        split at hg
        · rename_i he; rw [he]; trivial
        · exact hg
      refine wp_mono (hs.code nt x fr σ hgx hok m a w hf hw) fun e a1 w1 hq => ?_
      simp only [step]
      generalize ih (.code x) fr σ = r1 at hq hgx
      cases r1 with
      | nrm fr1 σ1 => cases e <;> first | exact hq | exact hq.elim
      | ret fr1 σ1 => cases e <;> first | exact hq | exact hq.elim
      | done v σ1 => cases e <;> exact hq.elim
      | pan fr1 σ1 => cases e <;> first | exact hq | exact hq.elim
      | bad s => cases e <;> exact hq.elim
      | ext i fr1 σ1 =>
        cases e with
        | exit id' =>
          obtain ⟨rfl, m1, h1, h2⟩ := hq
          show if i = id then _ else _
          simp only []
          cases hb : Nat.beq i id with
          | true =>
            rw [if_pos (Nat.eq_of_beq_eq_true hb)]
            exact ⟨m1, h1, h2⟩
          | false =>
            rw [if_neg (Nat.ne_of_beq_eq_false hb)]
            exact ⟨rfl, m1, h1, h2⟩
        | _ => exact hq.elim
    | loop x => exact loop_of (hs.loop nt x fr σ hg hok m a w hf hw)
    | region id ops draw =>
      simp only [codeOk] at hok
      cases draw with
      | false =>
        simp only [step] at hg ⊢
        generalize hr : runOps P ih ops.toList ops.toList fr σ = r at hg ⊢
        rcases runOps_good _ _ _ hr with ⟨fr1, σ1, rfl⟩ | ⟨fr1, σ1, rfl⟩ | ⟨s, rfl⟩
        · refine wp_region ?_
          have := runOps_sound hx hs.call hok ops.toList 0 fr fr1 σ σ1 (by simp) hr m a w hf hw
          rwa [Array.length_toList, ← List.range_eq_range'] at this
        · refine wp_region ?_
          have := runOps_pan hx hs.call hs.pan hok ops.toList 0 fr fr1 σ σ1 (by simp) hr m a w hf hw
          rwa [Array.length_toList, ← List.range_eq_range'] at this
        · exact hg.elim
      | true =>
        simp only [step] at hg ⊢
        generalize hr : runDrawP P ih ops.toList fr σ = r at hg ⊢
        have sub : ∀ {l : List Oper} {r : Res}, runDraw P ih l fr σ = r → r.good → ∃ fr1 σ1, r = .nrm fr1 σ1 := by
          intro l r hr hg
          unfold runDraw at hr
          split at hr
          · subst hr; exact hg.elim
          · split at hr
            · subst hr; exact hg.elim
            · split at hr
              · exact ⟨_, _, hr.symm⟩
              · subst hr; exact hg.elim
        have : ∃ fr1 σ1, r = .nrm fr1 σ1 := by
          have hr2 := hr
          unfold runDrawP at hr2
          split at hr2
          · exact sub hr2 hg
          · split at hr2
            · exact sub hr2 hg
            · subst hr2; exact hg.elim
        obtain ⟨fr1, σ1, rfl⟩ := this
        exact wp_region_any hmo (runDrawP_sound hx hs.call hok hr hf hw)
    | _ => exact hg.elim
  · intro nt c fr σ hg hok m a w hf hw
    refine loop_round ?_
    have hgx : (ih (.code c) fr σ).good := by
      simp only [step] at hg
      split at hg
      · rename_i he; rw [he]; trivial
      · exact hg
    refine seqlike (hs.code nt c fr σ hgx hok m a w hf hw) (fr := fr) ?_ ?_
    · intro fr1 σ1 he m1 a1 w1 hf1 hp1
      have hstep : step P ih (.loop c) fr σ = ih (.loop c) fr1 σ1 := by simp only [step, he]
      rw [hstep] at hg ⊢
      exact (hs.loop nt c fr1 σ1 hg hok m1 a1 w1 hf1 hp1.wr).mono fun e a2 w2 hq => QR.trans hp1 hq
    · intro e a1 w1 hne hq
      simp only [step]
      split
      · rename_i fr1 σ1 he
        rw [he] at hq
        cases e <;> first | exact absurd rfl hne | exact hq.elim
      · exact hq
  · intro f args fr σ v σ' h m args' w ha hw
    simp only [step] at h
    split at h
    case h_2 => cases h
    rename_i fn hfn
    split at h
    case h_2 => cases h
    rename_i c hb
    split at h
    case h_2 => cases h
    rename_i hok hle
    have hle := Nat.le_of_ble_eq_true hle
    have hfr := args_fr (nt := fn.ntmps) ha hle
    have main : ∀ (r : Res), ih (.code c) ⟨putL args .nil 0, []⟩ σ = r → r.good → (∀ fr1 σ1, (r = .nrm fr1 σ1 ∨ r = .ret fr1 σ1) → leave P ih fn fr1 fr1.df σ1 = .done v σ') → (∀ fr1 σ1, r = .pan fr1 σ1 → leaveP P ih fn fr1 fr1.df σ1 = .done v σ') → (∀ i fr1 σ1, r ≠ .ext i fr1 σ1) → Calls P f args' w (CallOk P m σ w v σ') := by
      intro r hr hg hl hlp hne
      refine calls_of_wp_defers ((fnc_eq P f).symm.trans hfn) hb ?_
      have := hs.code fn.ntmps c ⟨putL args .nil 0, []⟩ σ (by rw [hr]; exact hg) hok m _ w hfr hw
      rw [hr] at this
      refine wp_mono this fun e a1 w1 hq => ?_
      unfold QR at hq
      split at hq
      · obtain ⟨m1, h1, h2⟩ := hq
        exact leave_sound hs (hl _ _ (.inl rfl)) h1.df h1.tm.tm h2
      · obtain ⟨m1, h1, h2⟩ := hq
        exact leave_sound hs (hl _ _ (.inr rfl)) h1.df h1.tm.tm h2
      · exact absurd rfl (hne _ _ _)
      · obtain ⟨m1, t, pv, rfl, h1, h2⟩ := hq
        exact (leaveP_sound hs (t := t) (pv := pv) (hlp _ _ rfl) h1.df h1.tm.tm h2).1 _ _ rfl
      · exact hq.elim
    split at h
    · rename_i fr1 σ1 hr
      exact main _ hr trivial (fun a b e => by rcases e with e | e <;> cases e; exact h) (fun _ _ e => by cases e) (fun _ _ _ e => by cases e)
    · rename_i fr1 σ1 hr
      exact main _ hr trivial (fun a b e => by rcases e with e | e <;> cases e; exact h) (fun _ _ e => by cases e) (fun _ _ _ e => by cases e)
    · rename_i fr1 σ1 hr
      exact main _ hr trivial (fun a b e => by rcases e with e | e <;> cases e) (fun a b e => by cases e; exact h) (fun _ _ _ e => by cases e)
    · cases h
    · cases h
  · intro f args fr σ v σ' h m args' w ha hw
    simp only [step] at h
    split at h
    case h_2 => cases h
    rename_i fn hfn
    split at h
    case h_2 => cases h
    rename_i c hb
    split at h
    case h_2 => cases h
    rename_i hok hle
    have hle := Nat.le_of_ble_eq_true hle
    have hfr := args_fr (nt := fn.ntmps) ha hle
    have main : ∀ (r : Res), ih (.code c) ⟨putL args .nil 0, []⟩ σ = r → r.good → (∀ fr1 σ1, (r = .nrm fr1 σ1 ∨ r = .ret fr1 σ1) → fr1.df = [] ∧ results P fn fr1 σ1 = .done v σ') → (∀ i fr1 σ1, r ≠ .ext i fr1 σ1) → (∀ fr1 σ1, r ≠ .pan fr1 σ1) →
        CallsD P f args' .returning w fun e u' w' => u' = .returning ∧ CallOk P m σ w v σ' e w' := by
      intro r hr hg hl hne hnp
      refine callsD_of_wp ((fnc_eq P f).symm.trans hfn) hb ?_
      have := hs.code fn.ntmps c ⟨putL args .nil 0, []⟩ σ (by rw [hr]; exact hg) hok m _ w hfr hw
      rw [hr] at this
      refine wp_mono this fun e a1 w1 hq => ?_
      have fin : ∀ fr1 σ1, (r = .nrm fr1 σ1 ∨ r = .ret fr1 σ1) → (∃ m1, FrD m1 fn.ntmps fr1 a1 ∧ Post P m σ w m1 σ1 w1) → a1.defers = [] ∧ ∃ v', (Go.results fn a1.tmps).run P w1 = .ok v' w1 ∧ CallOk P m σ w v σ' (.returned v') w1 := by
        intro fr1 σ1 hr1 ⟨m1, h1, h2⟩
        obtain ⟨hdf, hres⟩ := hl fr1 σ1 hr1
        obtain ⟨e, v', h3, h4⟩ := results_sound h2.wr h1.tm.tm hres
        subst e
        have hd := h1.df
        rw [hdf] at hd
        refine ⟨?_, v', h3, m1, v', rfl, h4, h2⟩
        generalize a1.defers = dd at hd
        cases hd; rfl
      unfold QR at hq
      split at hq
      · exact fin _ _ (.inl rfl) hq
      · exact fin _ _ (.inr rfl) hq
      · exact absurd rfl (hne _ _ _)
      · exact absurd rfl (hnp _ _)
      · exact hq.elim
    split at h
    · rename_i fr1 σ1 hr
      split at h
      · rename_i hdf
        exact main _ hr trivial (fun a b e => by rcases e with e | e <;> cases e; exact ⟨hdf, h⟩) (fun _ _ _ e => by cases e) (fun _ _ e => by cases e)
      · cases h
    · rename_i fr1 σ1 hr
      split at h
      · rename_i hdf
        exact main _ hr trivial (fun a b e => by rcases e with e | e <;> cases e; exact ⟨hdf, h⟩) (fun _ _ _ e => by cases e) (fun _ _ e => by cases e)
      · cases h
    · cases h
    · cases h
  · intro f args fr fr' σ σ' h m args' w ha hw
    simp only [step] at h
    split at h
    case h_2 => cases h
    rename_i fn hfn
    split at h
    case h_2 => cases h
    rename_i c hb
    split at h
    case h_2 => cases h
    rename_i hok hle
    have hle := Nat.le_of_ble_eq_true hle
    have hfr := args_fr (nt := fn.ntmps) ha hle
    split at h
    · exact (leave_no_pan h).elim
    · exact (leave_no_pan h).elim
    · rename_i fr1 σ1 hr
      refine calls_of_wp_defers ((fnc_eq P f).symm.trans hfn) hb ?_
      have := hs.code fn.ntmps c ⟨putL args .nil 0, []⟩ σ (by rw [hr]; trivial) hok m _ w hfr hw
      rw [hr] at this
      refine wp_mono this fun e a1 w1 hq => ?_
      cases e <;> first
        | (obtain ⟨m1, t, pv, rfl, h1, h2⟩ := hq
           exact (leaveP_sound hs (t := t) (pv := pv) h h1.df h1.tm.tm h2).2 _ _ rfl)
        | exact hq.elim
    · cases h
    · cases h
  · intro f args fr σ v σ' h m args' w t pv ha hw
    simp only [step] at h
    split at h
    case h_2 => cases h
    rename_i fn hfn
    split at h
    case h_2 => cases h
    rename_i c hb
    split at h
    case h_2 => cases h
    rename_i hok hle
    have hle := Nat.le_of_ble_eq_true hle
    have hfr := args_fr (nt := fn.ntmps) ha hle
    have fin : ∀ (c0 : Frame) (rest : List Frame) (fr1 : Fr) (σ1 : St) (a1 : Act) (w1 : World), fr1.df = [] → results P fn fr1 σ1 = .done v σ' → (∃ m1, FrD m1 fn.ntmps fr1 a1 ∧ Post P m σ w m1 σ1 w1) →
        a1.defers = [] ∧ ∃ u', ({ c0 with mode := modeP t pv true } :: rest : List Frame) = { c0 with mode := u' } :: rest ∧ ∃ v', (Go.results fn a1.tmps).run P w1 = .ok v' w1 ∧ (u' = .panicking [{ v := .iface t pv, recovered := true }] ∧ CallOk P m σ w v σ' (.returned v') w1) := by
      intro c0 rest fr1 σ1 a1 w1 hdf hres ⟨m1, h1, h2⟩
      obtain ⟨e, v', h3, h4⟩ := results_sound h2.wr h1.tm.tm hres
      subst e
      have hd := h1.df
      rw [hdf] at hd
      refine ⟨?_, modeP t pv true, rfl, v', h3, rfl, m1, v', rfl, h4, h2⟩
      generalize a1.defers = dd at hd
      cases hd; rfl
    refine callsD_of_wpS ((fnc_eq P f).symm.trans hfn) hb fun c0 cs hc0 => ?_
    have hc1 : c0 = { c0 with mode := modeP t pv false } := by cases c0; simp only at hc0; subst hc0; rfl
    rw [hc1]
    split at h
    · rename_i fr1 σ1 hr
      split at h
      case h_2 => cases h
      rename_i hdf
      refine wpS_mono (codeP_sound hx hmo hs (c0 := c0) (rest := cs) (t := t) (pv := pv) c false _ σ _ hr trivial hok m _ w hfr hw) fun e a1 cs1 w1 hq => ?_
      cases e with
      | normal =>
        obtain ⟨rfl, hq⟩ := hq
        exact fin c0 cs fr1 σ1 a1 w1 hdf h hq
      | _ => exact hq.elim
    · rename_i fr1 σ1 hr
      split at h
      case h_2 => cases h
      rename_i hdf
      refine wpS_mono (codeP_sound hx hmo hs (c0 := c0) (rest := cs) (t := t) (pv := pv) c false _ σ _ hr trivial hok m _ w hfr hw) fun e a1 cs1 w1 hq => ?_
      cases e with
      | ret =>
        obtain ⟨rfl, hq⟩ := hq
        exact fin c0 cs fr1 σ1 a1 w1 hdf h hq
      | _ => exact hq.elim
    · cases h
    · cases h
theorem run_sound (hx : ExtOk P) (hmo : P.follows .mixedOrders = true) : ∀ n, Sound P (run P n)
  | 0 => ⟨fun _ _ _ _ h => h.elim, fun _ _ _ _ h => h.elim, fun _ _ _ _ _ _ h => (by cases h), fun _ _ _ _ _ _ h => (by cases h), fun _ _ _ _ _ _ h => (by cases h), fun _ _ _ _ _ _ h => (by cases h)⟩
  | n + 1 => step_sound hx hmo (run_sound hx hmo n)
end
end Go.YtjighphlkcedhaaDoorEv
