/- An evaluator for the program's own code: each operation comes to what the machine's comes to. (text 12) -/
import Derived.Test.YtjighphlkcedhaaDoorEv11
set_option linter.unusedVariables false
set_option linter.unusedSimpArgs false
namespace Go.YtjighphlkcedhaaDoorEv
open Go
set_option linter.unusedSectionVars false
variable [Lane]

inductive DR (m : Mp) : SDef → Deferred → Prop
  | mk {fn : Fn} {c a : List SV} {c' a' : Array Value} (hc : VRs m c c'.toList) (ha : VRs m a a'.toList) : DR m ⟨fn, c, a⟩ ⟨.fn fn c', a'⟩
inductive NxR (m : Mp) : Nx → Next → Prop
  | val {v : SV} {v' : Value} (h : VR m v v') : NxR m (.val v) (.value v')
  | skip : NxR m (.val .undef) .skip
  | enter {f : FuncId} {l : List SV} {l' : Array Value} (h : VRs m l l'.toList) : NxR m (.enter f l) (.enter f l')
  | defer {d : SDef} {d' : Deferred} (h : DR m d d') : NxR m (.defer d) (.defer d')
/-- What is known of the functions without a Go body holds in the machine. -/
noncomputable def ExtOk (P : Program) : Prop := (∀ (f : FuncId) (k : Known) (m : Mp) (σ : St) (w : World) (l : List SV) (l' : Array Value) (v : SV) (σ' : St), bodyful P f = false → known P f = some k → WR P m σ w → VRs m l l'.toList → extM σ k l = some (v, σ') →
  ∃ m' w' v', (callFunc f l').run P w = .ok (.value v') w' ∧ VR m' v v' ∧ Post P m σ w m' σ' w') ∧ ∀ (f : FuncId) (k : Known) (m : Mp) (σ : St) (w : World) (l : List SV) (l' : Array Value) (v : SV), bodyful P f = false → known P f = some k → WR P m σ w → VRs m l l'.toList → extL P σ k l = some v →
  ∃ v', (callFunc f l').run P w = .ok (.value v') w ∧ VR m v v'
noncomputable def OpOk (P : Program) (m : Mp) (σ : St) (w : World) (s : Sem Next) (nx : Nx) (σ' : St) : Prop :=
  ∃ m' w' nx', s.run P w = .ok nx' w' ∧ NxR m' nx nx' ∧ Post P m σ w m' σ' w'

section
variable {P : Program} {m : Mp} {σ : St} {w : World}
theorem OpOk_pure (hw : WR P m σ w) {s : Sem Value} {v : SV} (h : ∃ v', s.run P w = .ok v' w ∧ VR m v v') : OpOk P m σ w (do pure (Next.value (← s)) : Sem Next) (.val v) σ := by
  obtain ⟨v', h1, h2⟩ := h
  exact ⟨m, w, .value v', by simp [h1], .val h2, .refl hw⟩
theorem OpOk_val (hw : WR P m σ w) {s : Sem Value} {r : Option SV} {nx : Nx} {σ' : St} (h : Go.YtjighphlkcedhaaDoorEv.val r σ = some (nx, σ')) (hs : ∀ v, r = some v → ∃ v', s.run P w = .ok v' w ∧ VR m v v') :
    OpOk P m σ w (do pure (Next.value (← s)) : Sem Next) nx σ' := by
  unfold Go.YtjighphlkcedhaaDoorEv.val at h
  cases r with
  | none => cases h
  | some v => cases h; exact OpOk_pure hw (hs v rfl)
theorem OpOk_vst {s : Sem Value} {r : Option (SV × St)} {nx : Nx} {σ' : St} (h : Go.YtjighphlkcedhaaDoorEv.vst r = some (nx, σ')) (hs : ∀ v σ', r = some (v, σ') → ∃ m' w' v', s.run P w = .ok v' w' ∧ VR m' v v' ∧ Post P m σ w m' σ' w') :
    OpOk P m σ w (do pure (Next.value (← s)) : Sem Next) nx σ' := by
  unfold Go.YtjighphlkcedhaaDoorEv.vst at h
  cases r with
  | none => cases h
  | some p =>
    cases h
    obtain ⟨m', w', v', h1, h2, h3⟩ := hs p.1 p.2 rfl
    exact ⟨m', w', .value v', by simp [h1], .val h2, h3⟩
theorem OpOk_stu {s : Sem Unit} {r : Option St} {nx : Nx} {σ' : St} (h : Go.YtjighphlkcedhaaDoorEv.stu r = some (nx, σ')) (hs : ∀ σ', r = some σ' → ∃ w', s.run P w = .ok () w' ∧ Post P m σ w m σ' w') :
    OpOk P m σ w (do s; pure Next.skip : Sem Next) nx σ' := by
  unfold Go.YtjighphlkcedhaaDoorEv.stu at h
  cases r with
  | none => cases h
  | some p =>
    cases h
    obtain ⟨w', h1, h3⟩ := hs _ rfl
    exact ⟨m, w', .skip, by simp [h1], .skip, h3⟩
theorem lacks_no {want : Array (String × TypeId)} {got : Array Method} (h : lacks want got = false) : Instr.missingMethod want got = none := by
  unfold lacks at h
  unfold Instr.missingMethod
  split at h
  · rename_i e
    simp only [e]
    rfl
  · cases h
theorem lacks_yes {want : Array (String × TypeId)} {got : Array Method} (h : lacks want got = true) : ∃ s, Instr.missingMethod want got = some s := by
  unfold lacks at h
  unfold Instr.missingMethod
  split at h
  · cases h
  · rename_i x l e
    simp only [e]
    have hne : ∀ l : List String, l ≠ [] → ∃ s, Instr.least l = some s := fun l hl => by
      cases l with
      | nil => exact absurd rfl hl
      | cons a l => exact ⟨_, rfl⟩
    rw [List.partition_eq_filter_filter]
    cases h2 : (List.map (fun x => x.1) (x :: l)).filter (not ∘ fun x => x.contains '.') with
    | cons a k => exact ⟨_, by simp [Instr.least]; rfl⟩
    | nil =>
      cases h1 : (List.map (fun x => x.1) (x :: l)).filter (fun x => x.contains '.') with
      | cons a k => exact ⟨_, by simp [Instr.least]; rfl⟩
      | nil =>
        exfalso
        have hx : x.1 ∈ List.map (fun x => x.1) (x :: l) := by simp
        cases hc : x.1.contains '.' with
        | true =>
          have : x.1 ∈ (List.map (fun x => x.1) (x :: l)).filter (fun x => x.contains '.') := List.mem_filter.2 ⟨hx, hc⟩
          rw [h1] at this; cases this
        | false =>
          have : x.1 ∈ (List.map (fun x => x.1) (x :: l)).filter (not ∘ fun x => x.contains '.') := List.mem_filter.2 ⟨hx, by show (!(x.1.contains '.')) = true; rw [hc]; rfl⟩
          rw [h2] at this; cases this
theorem assertS_sound {t xt : TypeId} {x v : SV} {x' : Value} {ok : Bool} (hx : VR m x x') (h : assertS P x t ok = some v) : ∃ v', (Instr.typeAssert x' xt t ok).run P w = .ok v' w ∧ VR m v v' := by
  have fails : ∀ {u : SV} (a b : Option TypeId) (s : String), failV P t ok = some u →
      ∃ v', (if ok then (do pure (.tuple #[← zeroValue t, .bool false])) else runtimePanic (.typeAssertion a b t s) : Sem Value).run P w = .ok v' w ∧ VR m u v' := by
    intro u a b s hu
    unfold failV at hu
    cases ok with
    | false => cases hu
    | true =>
      cases hz : zeroV P t with
      | none => simp [hz] at hu
      | some z =>
        simp [hz] at hu
        subst hu
        obtain ⟨i, z', _, _, hv, hrun⟩ := zeroV_sound (m := m) (w := w) hz
        exact ⟨.tuple #[z', .bool false], by simp [hrun], .tuple (.cons hv (.cons (.bool _) .nil))⟩
  have holds : ∀ {u v : SV} {u' : Value}, VR m u u' → some (okV ok u) = some v →
      ∃ v', (pure (if ok then .tuple #[u', .bool true] else u') : Sem Value).run P w = .ok v' w ∧ VR m v v' := by
    intro u v u' hu hv
    unfold okV at hv
    cases ok with
    | false => cases hv; exact ⟨u', rfl, hu⟩
    | true => cases hv; exact ⟨_, rfl, .tuple (.cons hu (.cons (.bool _) .nil))⟩
  unfold assertS at h
  try simp only [und_eq, inf_eq, fnc_eq] at h
  unfold Instr.typeAssert
  split at h
  · rename_i hu
    cases hx
    simp only [Sem.run_bind, run_underlying' hu, Result.andThen_ok]
    exact fails _ _ _ h
  · rename_i want u y hu
    cases hx
    rename_i y' hy
    split at h
    · rename_i i hi
      split at h
      · rename_i hm
        have hm := lacks_no hm
        obtain ⟨v', h1, h2⟩ := holds (.iface hy) h
        exact ⟨v', by simp only [Sem.run_bind, run_underlying' hu, Result.andThen_ok, typeInfo, run_program, hi, Sem.run_pure, hm]; exact h1, h2⟩
      · rename_i hm
        obtain ⟨s, hm⟩ := lacks_yes hm
        obtain ⟨v', h1, h2⟩ := fails none (some u) s h
        exact ⟨v', by simp only [Sem.run_bind, run_underlying' hu, Result.andThen_ok, typeInfo, run_program, hi, Sem.run_pure, hm]; exact h1, h2⟩
    · cases h
  · rename_i d hne hu
    cases hx
    obtain ⟨v', h1, h2⟩ := fails (some xt) none "" h
    refine ⟨v', ?_, h2⟩
    simp only [Sem.run_bind, run_underlying' hu, Result.andThen_ok]
    cases d <;> first | exact h1 | exact (hne _ hu).elim
  · rename_i d u y hne hu
    cases hx
    rename_i y' hy
    split at h
    · rename_i he
      have he := Nat.eq_of_beq_eq_true he
      obtain ⟨v', h1, h2⟩ := holds hy h
      refine ⟨v', ?_, h2⟩
      simp only [Sem.run_bind, run_underlying' hu, Result.andThen_ok]
      cases d <;> first
        | exact (hne _ hu).elim
        | (show (if u = t then _ else _ : Sem Value).run P w = _; rw [if_pos he]; exact h1)
    · rename_i he
      have he := Nat.ne_of_beq_eq_false he
      obtain ⟨v', h1, h2⟩ := fails (some xt) (some u) "" h
      refine ⟨v', ?_, h2⟩
      simp only [Sem.run_bind, run_underlying' hu, Result.andThen_ok]
      cases d <;> first
        | exact (hne _ hu).elim
        | (show (if u = t then _ else _ : Sem Value).run P w = _; rw [if_neg he]; exact h1)
  · cases h
theorem bodyful_run {f : FuncId} {args : Array Value} (h : bodyful P f = true) : (callFunc f args).run P w = .ok (.enter f args) w := by
  unfold bodyful at h
  try simp only [und_eq, inf_eq, fnc_eq] at h
  split at h
  · rename_i fn hf
    simp only [Bool.and_eq_true, Bool.not_eq_true'] at h
    unfold callFunc
    simp only [Sem.run_bind, run_program, Result.andThen_ok, hf]
    rw [Sem.run_ite, if_neg (by simp only [h.2, Bool.false_eq_true, not_false_eq_true]), Sem.run_ite, if_neg (by
      cases hb : fn.body with
      | none => rw [hb] at h; cases h.1
      | some c => simp)]
    rfl
  · cases h
theorem callS_sound (hx : ExtOk P) (hw : WR P m σ w) {f : FuncId} {args : List SV} {args' : Array Value} {nx : Nx} {σ' : St} (ha : VRs m args args'.toList) (h : callS P σ f args = some (nx, σ')) :
    OpOk P m σ w (callFunc f args') nx σ' := by
  unfold callS at h
  split at h
  · rename_i hb
    cases h
    exact ⟨m, w, _, bodyful_run hb, .enter ha, .refl hw⟩
  · rename_i hb
    split at h
    · rename_i k hk
      split at h
      · rename_i p he
        obtain ⟨v, σ1⟩ := p
        cases h
        obtain ⟨m', w', v', h1, h2, h3⟩ := hx.1 f k m σ w args args' v _ hb hk hw ha he
        exact ⟨m', w', _, h1, .val h2, h3⟩
      cases he : extL P σ k args with
      | none => rw [he] at h; cases h
      | some v =>
        rw [he] at h; cases h
        obtain ⟨v', h1, h2⟩ := hx.2 f k m σ w args args' v hb hk hw ha he
        exact ⟨m, w, _, h1, .val h2, .refl hw⟩
    · cases h
theorem wrapchk_run {a : Array TypeId} {t : TypeId} {x : Addr} {s n : ByteArray} : (Builtin.ssaWrapNilChk_ a t #[.pointer (some x), .string s, .string n]).run P w = .ok (.pointer (some x)) w := rfl
theorem methodS_sound (hw : WR P m σ w) {t : TypeId} {v r : SV} {v' : Value} {name : String} {f : FuncId} {n : Nat} (hv : VR m v v') (h : methodS P σ t v name = some (f, r)) :
    ∃ r', (method (n + 1) t v' name).run P w = .ok (f, r') w ∧ VR m r r' := by
  unfold methodS at h
  try simp only [und_eq, inf_eq, fnc_eq] at h
  split at h
  case h_2 => cases h
  rename_i i hi
  split at h
  case h_2 => cases h
  rename_i mm hm
  have hti : (typeInfo t).run P w = .ok i w := by simp [typeInfo, hi]
  split at h
  · rename_i f0 e hp hfn hu
    cases h
    have hp := List.isEmpty_iff.1 hp
    refine ⟨v', ?_, hv⟩
    unfold method
    simp only [Sem.run_bind, hti, Result.andThen_ok, hm, hp, follow, Sem.run_pure, hfn, receiverAt, run_underlying' hu, Place.get]
  · rename_i f0 e hp hfn hu
    have hp := List.isEmpty_iff.1 hp
    have hpe : mm.path.isEmpty = true := by
      rw [Array.isEmpty_iff]; exact Array.toList_eq_nil_iff.1 hp
    split at h
    · rename_i b o
      cases hl : loadV P σ e b o with
      | none => rw [hl] at h; cases h
      | some x =>
        rw [hl] at h; cases h
        obtain ⟨im, rfl, hm0⟩ : ∃ im, v' = .pointer (some ⟨im.blk, im.base + o, none⟩) ∧ m b = some im := by
          cases hv with
          | ptr h => exact ⟨_, rfl, h⟩
        obtain ⟨x', h1, h2⟩ := loadV_sound hw hl hm0
        refine ⟨x', ?_, h1⟩
        unfold method
        simp only [Sem.run_bind, hti, Result.andThen_ok, hm, hp, follow, Sem.run_pure, hfn, receiverAt, run_underlying' hu, Place.get, hpe, if_true, strVal, wrapchk_run, asAddr, h2]
    · cases h
  · rename_i f0 d hne hp hfn hu
    cases h
    have hp := List.isEmpty_iff.1 hp
    refine ⟨v', ?_, hv⟩
    unfold method
    simp only [Sem.run_bind, hti, Result.andThen_ok, hm, hp, follow, Sem.run_pure, hfn, receiverAt, run_underlying' hu, Place.get]
    try (cases d <;> first
      | rfl
      | exact (hne _ hu).elim)
  · cases h
theorem followV_sound {xs : List FieldStep} : ∀ {t : TypeId} {v : SV} {v' : Value} {u : TypeId} {x : SV}, VR m v v' → followV P xs t v = some (u, x) → ∃ x', (follow xs t (.val v')).run P w = .ok (u, .val x') w ∧ VR m x x' := by
  induction xs with
  | nil =>
    intro t v v' u x hv h
    unfold followV at h; cases h
    exact ⟨v', rfl, hv⟩
  | cons s r ih =>
    intro t v v' u x hv h
    unfold followV at h
    try simp only [und_eq] at h
    split at h
    · cases h
    rename_i hd
    split at h
    case h_2 => cases h
    rename_i fs hu
    split at h
    case h_2 => cases h
    rename_i f hf
    split at h
    case h_2 => cases h
    rename_i y hy
    split at h
    case h_2 => cases h
    rename_i hag
    cases hv <;> first | (simp [SV.isAgg] at hag; done) | skip
    rename_i hl
    obtain ⟨y', h1, h2⟩ := partS_sound (w := w) hl hy
    obtain ⟨x', h3, h4⟩ := ih h2 h
    refine ⟨x', ?_, h4⟩
    rw [Array.getElem?_toList] at hf
    unfold follow
    simp only [Sem.run_bind, run_underlying' hu, Result.andThen_ok, hf, hd, Bool.false_eq_true, if_false, h1, h3]
theorem methodP_sound {t : TypeId} {v r : SV} {v' : Value} {name : String} {f : FuncId} {n : Nat} (hv : VR m v v') (h : methodP P t v name = some (f, r)) :
    ∃ r', (method (n + 1) t v' name).run P w = .ok (f, r') w ∧ VR m r r' := by
  unfold methodP at h
  try simp only [und_eq, inf_eq, fnc_eq] at h
  split at h
  case h_2 => cases h
  rename_i i hi
  split at h
  case h_2 => cases h
  rename_i mm hm
  have hti : (typeInfo t).run P w = .ok i w := by simp [typeInfo, hi]
  split at h
  case h_2 => cases h
  rename_i u x hfo
  split at h
  case h_2 => cases h
  rename_i f0 bb hfn
  split at h
  · cases h
  split at h
  · cases h
  · rename_i d hne hu
    cases h
    obtain ⟨x', h1, h2⟩ := followV_sound (w := w) hv hfo
    refine ⟨x', ?_, h2⟩
    unfold method
    simp only [Sem.run_bind, hti, Result.andThen_ok, hm, h1, Sem.run_pure, hfn, receiverAt, run_underlying' hu, Place.get]
  · cases h
theorem methodA_sound (hw : WR P m σ w) {t : TypeId} {v r : SV} {v' : Value} {name : String} {f : FuncId} {n : Nat} (hv : VR m v v') (h : methodA P σ t v name = some (f, r)) :
    ∃ r', (method (n + 1) t v' name).run P w = .ok (f, r') w ∧ VR m r r' := by
  unfold methodA at h
  split at h
  · rename_i q hq
    cases h
    exact methodS_sound hw hv hq
  · exact methodP_sound hv h
theorem nilAhead_sound {t : TypeId} {v r : SV} {v' : Value} {name : String} {f : FuncId} {n : Nat} (hv : VR m v v') (h : methodS P σ t v name = some (f, r)) :
    (nilAhead (n + 1) t v' name).run P w = .ok (some false) w := by
  unfold methodS at h
  try simp only [und_eq, inf_eq, fnc_eq] at h
  split at h
  case h_2 => cases h
  rename_i i hi
  split at h
  case h_2 => cases h
  rename_i mm hm
  have hti : (typeInfo t).run P w = .ok i w := by simp [typeInfo, hi]
  split at h
  · rename_i f0 e hp hfn hu
    have hp := List.isEmpty_iff.1 hp
    unfold nilAhead
    simp only [Sem.run_bind, hti, Result.andThen_ok, hm, hp, followBlind, Sem.run_pure, hfn]
  · rename_i f0 e hp hfn hu
    have hp := List.isEmpty_iff.1 hp
    split at h
    · rename_i b o
      obtain ⟨im, rfl, hm0⟩ : ∃ im, v' = .pointer (some ⟨im.blk, im.base + o, none⟩) ∧ m b = some im := by
        cases hv with
        | ptr h => exact ⟨_, rfl, h⟩
      unfold nilAhead
      simp only [Sem.run_bind, hti, Result.andThen_ok, hm, hp, followBlind, Sem.run_pure, hfn, run_underlying' hu]
    · cases h
  · rename_i f0 d hne hp hfn hu
    have hp := List.isEmpty_iff.1 hp
    unfold nilAhead
    simp only [Sem.run_bind, hti, Result.andThen_ok, hm, hp, followBlind, Sem.run_pure, hfn, run_underlying' hu]
    cases d <;> first
      | rfl
      | exact (hne _ rfl).elim
  · cases h
theorem arr1 {α : Type} {a : Array α} {x : α} {l : List α} (h : a.toList = x :: l) : a[0]? = some x := by rw [← Array.getElem?_toList, h]; rfl
theorem arr2 {α : Type} {a : Array α} {x y : α} (h : a.toList = [x, y]) : a = #[x, y] := by apply Array.ext'; simpa using h
theorem builtinS_sound (hw : WR P m σ w) {b : Builtin} {ats : Array TypeId} {ty : TypeId} {consts : Array Bool} {args : List SV} {args' : Array Value} {v : SV} {σ' : St} (ha : VRs m args args'.toList)
    (h : builtinS P σ b ats.toList args = some (v, σ')) : ∃ m' w' v', (builtin b ats ty consts args').run P w = .ok (.value v') w' ∧ VR m' v v' ∧ Post P m σ w m' σ' w' := by
  unfold builtinS at h
  try simp only [und_eq, inf_eq, fnc_eq] at h
  split at h
  · rename_i t ts x xs hats
    have h0 := arr1 hats
    obtain ⟨x', hx', hxr⟩ := ha.get 0 x rfl
    rw [Array.getElem?_toList] at hx'
    have main : ∀ n : Int, v = .int .i64 n → σ' = σ → (Builtin.len_ ats ty args').run P w = .ok (.int .i64 n) w → ∃ m' w' v', (builtin .len ats ty consts args').run P w = .ok (.value v') w' ∧ VR m' v v' ∧ Post P m σ w m' σ' w' := by
      intro n e1 e2 hrun
      subst e1 e2
      exact ⟨m, w, _, by simp [builtin, hrun], .int .., .refl hw⟩
    split at h
    · rename_i n p hu
      cases h; cases hxr
      rename_i hn hp
      exact main _ rfl rfl (by unfold Builtin.len_; simp [h0, hx', run_underlying' hu, goInt, hn])
    · rename_i l0 hu
      cases hl : lanes lenF [.lan l0] with
      | none => rw [hl] at h; cases h
      | some r =>
        rw [hl] at h
        cases h
        obtain ⟨kk, u0, hk, hf, hwd, -⟩ := lanes_ok hl (.cons hxr .nil)
        obtain ⟨a, rfl, ha⟩ := hk.one_inv
        unfold lenF at hf
        split at hf
        case h_2 => cases hf
        rename_i n1 p1 e
        cases e
        cases hf
        cases ha with
        | str hn hp =>
          rename_i s0
          have hrun : (Builtin.len_ ats ty args').run P w = .ok (.int .i64 (Int.ofNat n1)) w := by unfold Builtin.len_; simp [h0, hx', run_underlying' hu, goInt, hn]
          exact ⟨m, w, _, by simp [builtin, hrun], hwd _ _ (.int ..), .refl hw⟩
    · rename_i hu
      cases h; cases hxr
      exact main _ rfl rfl (by unfold Builtin.len_; simp [h0, hx', run_underlying' hu, goInt])
    · rename_i b o n c hu
      cases h
      cases c with
      | ex c => obtain ⟨im, a, rfl, _⟩ := hxr.ex_inv; exact main _ rfl rfl (by unfold Builtin.len_; simp [h0, hx', run_underlying' hu, goInt])
      | op sz => obtain ⟨im, a, c, rfl, _⟩ := hxr.op_inv; exact main _ rfl rfl (by unfold Builtin.len_; simp [h0, hx', run_underlying' hu, goInt])
    · rename_i n e hu
      cases h
      exact main _ rfl rfl (by unfold Builtin.len_; simp [h0, hx', run_underlying' hu, goInt])
    · rename_i hu
      cases h; cases hxr
      exact main _ rfl rfl (by unfold Builtin.len_; simp [h0, hx', run_underlying' hu, goInt])
    · rename_i b hu
      split at h
      · rename_i es clk hb
        cases h
        cases hxr with
        | map hm =>
          obtain ⟨ES, h1, h2, h3⟩ := mapB hw hb hm
          have hgo := run_getObj_map (P := P) h1
          exact main _ rfl rfl (by unfold Builtin.len_; simp [h0, hx', run_underlying' hu, goInt, hgo, h2])
      · cases h
    · cases h
  · rename_i t u s x hats
    have hats := arr2 hats
    subst hats
    cases hl : args' with
    | mk l =>
      subst hl
      cases ha with
      | cons hs hr =>
        cases hr with
        | cons hx hn =>
          cases hn
          obtain ⟨m', w', v', h1, h2, h3⟩ := appendX_sound (ty := ty) hw hs hx h
          exact ⟨m', w', v', by simp [builtin]; rw [h1]; rfl, h2, h3⟩
  · rename_i t ts d s hats
    have h0 := arr1 hats
    cases hl : args' with
    | mk l =>
      subst hl
      cases ha with
      | cons hs hr =>
        cases hr with
        | cons hx hn =>
          cases hn
          obtain ⟨m', w', v', h1, h2, h3⟩ := copyS_sound (xT := 0) (ty := ty) hw h0 hs hx h
          exact ⟨m', w', v', by simp [builtin]; rw [h1]; rfl, h2, h3⟩
  · rename_i t ts mm k hats
    have h0 := arr1 hats
    cases hl : args' with
    | mk l =>
      subst hl
      cases ha with
      | cons hs hr =>
        cases hr with
        | cons hx hn =>
          cases hn
          cases hd : deleteS P σ t mm k with
          | none => rw [hd] at h; cases h
          | some σ1 =>
            rw [hd] at h; cases h
            obtain ⟨w', h1, h2⟩ := deleteS_sound (ty := ty) hw h0 hs hx hd
            exact ⟨m, w', .tuple #[], by simp [builtin]; rw [h1]; rfl, .undef, h2⟩
  · rename_i t ts x hats
    have h0 := arr1 hats
    cases hl : args' with
    | mk l =>
      subst hl
      cases ha with
      | cons hs hr =>
        cases hr
        cases hd : clearS P σ t x with
        | none => rw [hd] at h; cases h
        | some σ1 =>
          rw [hd] at h; cases h
          obtain ⟨w', h1, h2⟩ := clearS_sound (ty := ty) hw h0 hs hd
          exact ⟨m, w', .tuple #[], by simp [builtin]; rw [h1]; rfl, .undef, h2⟩
  · rename_i k a k' b
    cases h
    cases hl : args' with
    | mk l =>
      subst hl
      cases ha with
      | cons hs hr =>
        cases hr with
        | cons hx hn =>
          cases hn; cases hs; cases hx
          refine ⟨m, w, .int k (if b < a then b else a), by simp [builtin, Builtin.min_, Builtin.min2], ?_, .refl hw⟩
          have hle := iLe_eq a b
          cases hc : iLe a b with
          | true =>
            rw [hc] at hle
            have : a ≤ b := of_decide_eq_true hle.symm
            rw [if_neg (by omega)]; exact .int ..
          | false =>
            rw [hc] at hle
            have : ¬ a ≤ b := of_decide_eq_false hle.symm
            rw [if_pos (by omega)]; exact .int ..
  · rename_i k a k' b
    cases h
    cases hl : args' with
    | mk l =>
      subst hl
      cases ha with
      | cons hs hr =>
        cases hr with
        | cons hx hn =>
          cases hn; cases hs; cases hx
          refine ⟨m, w, .int k (if b > a then b else a), by simp [builtin, Builtin.max_, Builtin.max2], ?_, .refl hw⟩
          have hle := iLe_eq b a
          cases hc : iLe b a with
          | true =>
            rw [hc] at hle
            have : b ≤ a := of_decide_eq_true hle.symm
            rw [if_neg (by omega)]; exact .int ..
          | false =>
            rw [hc] at hle
            have : ¬ b ≤ a := of_decide_eq_false hle.symm
            rw [if_pos (by omega)]; exact .int ..
  · rename_i x0 y0 _
    cases hrm : rngMin x0 y0 with
    | some r0 =>
      rw [hrm] at h
      cases h
      unfold rngMin at hrm
      split at hrm
      case h_1 => cases hrm
      rename_i hr
      obtain ⟨x1, y1, e1, hx1, hy1⟩ : ∃ x1 y1, args'.toList = [x1, y1] ∧ VR m x0 x1 ∧ VR m y0 y1 := by
        generalize args'.toList = l at ha
        cases ha with | cons h1 h2 => cases h2 with | cons h3 h4 => cases h4; exact ⟨_, _, rfl, h1, h3⟩
      have hn := rngN_ok hx1 hy1 hr
      split at hrm
      case h_2 => cases hrm
      rename_i l k hl hk
      obtain ⟨a, p, rfl, lp, p1, p2⟩ := rngOf_ok hx1 hn hl
      obtain ⟨b, q, rfl, kq, q1, q2⟩ := rngOf_ok hy1 hn hk
      cases hz : zipR minR l k with
      | none => rw [hz] at hrm; cases hrm
      | some r =>
        rw [hz] at hrm
        cases hrm
        obtain ⟨c, hc, hrc⟩ := zipR_ok hz lp kq
        cases hc
        obtain rfl : args' = #[.int .i64 a, .int .i64 b] := by apply Array.ext'; simpa using e1
        refine ⟨m, w, .int .i64 (if b < a then b else a), by simp [builtin, Builtin.min_, Builtin.min2], .rng hrc ?_ ?_, .refl hw⟩
        · show minI p.1 q.1 ≤ _
          rw [minI_eq]; split <;> split <;> omega
        · show _ ≤ minI p.2 q.2
          rw [minI_eq]; split <;> split <;> omega
    | none =>
    rw [hrm] at h
    dsimp only at h
    cases hls : lanes minF [x0, y0] with
    | none => rw [hls] at h; cases h
    | some r =>
    rw [hls] at h
    cases h
    obtain ⟨kk, u0, hk, hf, hwd, -⟩ := lanes_ok hls ha
    unfold minF at hf
    split at hf
    case h_2 => cases hf
    rename_i k a k' b
    cases hf
    cases hl : args' with
    | mk l =>
      subst hl
      cases hk with
      | cons hs hr =>
        cases hr with
        | cons hx hn =>
          cases hn; cases hs; cases hx
          refine ⟨m, w, .int k (if b < a then b else a), by simp [builtin, Builtin.min_, Builtin.min2], hwd _ _ ?_, .refl hw⟩
          have hle := iLe_eq a b
          cases hc : iLe a b with
          | true =>
            rw [hc] at hle
            have : a ≤ b := of_decide_eq_true hle.symm
            rw [if_neg (by omega)]; exact .int ..
          | false =>
            rw [hc] at hle
            have : ¬ a ≤ b := of_decide_eq_false hle.symm
            rw [if_pos (by omega)]; exact .int ..
  · rename_i x0 y0 _
    cases hls : lanes maxF [x0, y0] with
    | none => rw [hls] at h; cases h
    | some r =>
    rw [hls] at h
    cases h
    obtain ⟨kk, u0, hk, hf, hwd, -⟩ := lanes_ok hls ha
    unfold maxF at hf
    split at hf
    case h_2 => cases hf
    rename_i k a k' b
    cases hf
    cases hl : args' with
    | mk l =>
      subst hl
      cases hk with
      | cons hs hr =>
        cases hr with
        | cons hx hn =>
          cases hn; cases hs; cases hx
          refine ⟨m, w, .int k (if b > a then b else a), by simp [builtin, Builtin.max_, Builtin.max2], hwd _ _ ?_, .refl hw⟩
          have hle := iLe_eq b a
          cases hc : iLe b a with
          | true =>
            rw [hc] at hle
            have : b ≤ a := of_decide_eq_true hle.symm
            rw [if_neg (by omega)]; exact .int ..
          | false =>
            rw [hc] at hle
            have : ¬ b ≤ a := of_decide_eq_false hle.symm
            rw [if_pos (by omega)]; exact .int ..
  · rename_i b0 o0 n0 c0 hats0
    split at h
    case h_2 => cases h
    rename_i e0 ht0
    cases h
    cases hl : args' with
    | mk l =>
      subst hl
      cases ha with
      | cons hs hr =>
        cases hr
        obtain ⟨im, a, rfl, h2⟩ := hs.ex_inv
        have hat := (Array.getElem?_toList (xs := ats) (i := 0)).symm
        rw [hats0] at hat
        have hat : ats[0]? = some _ := hat
        exact ⟨m, w, .int .i64 (c0 : Int), by simp [builtin, Builtin.cap_, goInt, hat, run_underlying' ht0], .int .., .refl hw⟩
  · cases h
end
end Go.YtjighphlkcedhaaDoorEv
