/- An evaluator for the program's own code: heads of a loop in the run's own numbers, told by what changes; a chain of them. (text 28) -/
import Derived.Test.YtghdjomjcododaaGreatDoorEv27
set_option linter.unusedVariables false
set_option linter.unusedSimpArgs false
namespace Go.YtghdjomjcododaaGreatDoorEv
open Go Go.RowKit
set_option linter.unusedSectionVars false

noncomputable def emitD : List (Nat × Option LB) → List (Nat × LB)
  | [] => []
  | d :: l => match d.2 with
    | some y => (d.1, y) :: emitD l
    | none => emitD l
/-- A memory behind a change (both in the order of their numbers). -/
noncomputable def mrg : List (Nat × LB) → List (Nat × Option LB) → List (Nat × LB)
  | [], ds => emitD ds
  | x :: l, ds => match ds with
    | [] => x :: l
    | d :: ds => match Nat.beq d.1 x.1 with
      | true => match d.2 with
        | some y => (d.1, y) :: mrg l ds
        | none => mrg l ds
      | false => x :: mrg l (d :: ds)
noncomputable def ovr : List SV → Nat → List (Nat × SV) → List SV
  | [], _, _ => []
  | v :: l, i, ds => match ds with
    | [] => v :: l
    | d :: ds => match Nat.beq d.1 i with
      | true => d.2 :: ovr l (i + 1) ds
      | false => v :: ovr l (i + 1) (d :: ds)
abbrev hol (j : Nat) : SV := .opq ⟨j, 999, none⟩
abbrev n6 (n : Nat) : SV := .int .i64 (.ofNat n)
abbrev n8 (n : Nat) : SV := .int .u8 (.ofNat n)
abbrev bF : SV := .bool false
abbrev bT : SV := .bool true
abbrev uU : SV := .tuple []
noncomputable def subV (f : Nat → SV) : SV → SV
  | .opq ⟨j, o, none⟩ => match Nat.beq o 999 with
    | true => f j
    | false => .opq ⟨j, o, none⟩
  | v => v
noncomputable def subL (f : Nat → SV) : List SV → List SV
  | [] => []
  | v :: l => subV f v :: subL f l
/-- A row of numbers. -/
noncomputable def lanF (f : Nat → Nat) : Nat → Nat → List SV
  | 0, _ => []
  | n + 1, x => n6 (f x) :: lanF f n (x + 1)
/-- x + 1 in lane x, but i + 1 at the least. -/
noncomputable def LY (N i : Nat) : SV := .lan (lanF (fun x => Nat.add (Nat.succ i) (Nat.sub (Nat.succ x) (Nat.succ i))) N 0)
noncomputable def atHeadI (nt : Nat) (p1 : List Nat) (T1 : List SV) (L1 : LMem) : Sx → Bool
  | .head p fr σ => numsEq p p1 && Nat.beq T1.length nt && fr.df.isEmpty && cellsEq T1 fr.tm 0 && L1.inn σ
  | _ => false
theorem lanF_get {f : Nat → Nat} : ∀ {n x i : Nat}, i < n → (lanF f n x)[i]? = some (n6 (f (x + i)))
  | 0, x, i, h => by omega
  | n + 1, x, 0, h => rfl
  | n + 1, x, i + 1, h => by
    show (lanF f n (x + 1))[i]? = _
    rw [lanF_get (by omega), show x + 1 + i = x + (i + 1) by omega]
theorem subL_length (f : Nat → SV) : ∀ l, (subL f l).length = l.length
  | [] => rfl
  | v :: l => by show (subL f l).length + 1 = _; rw [subL_length f l]; rfl
theorem subL_get (f : Nat → SV) : ∀ (l : List SV) (i : Nat), (subL f l)[i]? = (l[i]?).map (subV f)
  | [], i => rfl
  | v :: l, 0 => rfl
  | v :: l, i + 1 => subL_get f l i
theorem subV_cases (x : SV) : (∃ j, ∀ f, subV f x = f j) ∨ ∀ f, subV f x = x := by
  by_cases hx : ∃ j o, x = .opq ⟨j, o, none⟩
  · obtain ⟨j, o, rfl⟩ := hx
    cases h : Nat.beq o 999 with
    | true => exact .inl ⟨j, fun f => by show (match Nat.beq o 999 with | true => f j | false => _) = _; rw [h]⟩
    | false => exact .inr fun f => by show (match Nat.beq o 999 with | true => f j | false => _) = _; rw [h]
  · refine .inr fun f => ?_
    unfold subV
    split
    · rename_i j o; exact absurd ⟨j, o, rfl⟩ hx
    · rfl
section
variable [Lane]
/-- Of this value all is known, in this lane. -/
def Mn (u : SV) (c : Nat) : Prop := ∀ (m : Mp) (v : Value), VR m u v ↔ v = .int .i64 (.ofNat c)
theorem mn_n (c : Nat) : Mn (n6 c) c := fun m v => ⟨fun h => by cases h; rfl, fun h => by subst h; exact .int ..⟩
theorem mn_l {f : Nat → Nat} {c N : Nat} (h : Lane.x < N) (e : f Lane.x = c) : Mn (.lan (lanF f N 0)) c := fun m v => by
  have hg : (lanF f N 0)[Lane.x]? = some (n6 c) := by rw [lanF_get h, Nat.zero_add, e]
  refine ⟨fun hv => ?_, fun hv => by subst hv; exact .lanI hg⟩
  cases hv with
  | lanI h1 => rw [hg] at h1; cases h1; rfl
  | lanS h1 => rw [hg] at h1; cases h1
theorem mn_LY {N i : Nat} (h : Lane.x < N) (hi : i ≤ Lane.x) : Mn (LY N i) (Lane.x + 1) := mn_l h (by
  show (i + 1) + ((Lane.x + 1) - (i + 1)) = Lane.x + 1
  omega)
variable {P : Program} {Q : Exit → Act → World → Prop} {nt : Nat} {bd : Code} {gh : Option (World × Gl)} {w0 : World} {p : List Nat} {L : LMem}
theorem Hd.sub {l : List SV} {f g : Nat → SV} (h : ∀ j m v, VR m (f j) v → VR m (g j) v) (hd : Hd P Q nt bd gh w0 p (subL g l) L) : Hd P Q nt bd gh w0 p (subL f l) L := by
  refine Hd.put (by rw [subL_length, subL_length]) (fun m i v u u' h1 h2 hv => ?_) hd
  rw [subL_get] at h1 h2
  cases e : l[i]? with
  | none => rw [e] at h1; cases h1
  | some x =>
    rw [e] at h1 h2
    cases h1; cases h2
    rcases subV_cases x with ⟨j, hj⟩ | hj
    · rw [hj] at hv ⊢; exact h _ _ _ hv
    · rw [hj] at hv ⊢; exact hv
theorem nx_headI {m : Mp} {σ : St} {w : World} {p1 : List Nat} {T1 : List SV} {L1 : LMem} {x : Sx} (h : atHeadI nt p1 T1 L1 x = true) (hg : σ.gh = gh) (hb : P.globals.size ≤ σ.next)
    (hi : In0 P.globals.size w0 m w) (hd : Hd P Q nt bd gh w0 p1 T1 L1) : SxOk P Q nt bd m σ w x := by
  unfold atHeadI at h
  split at h
  case h_2 => cases h
  rename_i p fr σ1
  simp only [Bool.and_eq_true] at h
  obtain ⟨⟨⟨⟨h1, h3⟩, h4⟩, h5⟩, h6⟩ := h
  obtain rfl := numsEq_sound h1
  have h3 := Nat.eq_of_beq_eq_true h3
  intro b ks hn m' a' w' hf hp
  have wr := hp.wr.lit h6
  rw [hp.gh, hg] at wr
  refine hd b ks hn m' a' w' ⟨⟨fun t => ?_⟩, ?_, hf.sz⟩ wr (hi.post hb hp)
  · show VR _ ((putL T1 .nil 0).get .undef t) (a'.tmps.getD t undef)
    by_cases h : t < nt
    · obtain ⟨u, hu⟩ : ∃ u, T1[t]? = some u := ⟨_, List.getElem?_eq_getElem (by omega)⟩
      have := putL_in (c := .nil) (i := 0) hu
      rw [Nat.zero_add] at this
      rw [this]
      have hk := cellsEq_sound h5 t u hu
      rw [Nat.zero_add] at hk
      rw [← hk]
      exact hf.tm.tm t
    · rw [putL_out (by omega), Tr.get_nil]
      have : a'.tmps.getD t undef = undef := by
        rw [Array.getD_eq_getD_getElem?, Array.getElem?_eq_none (by rw [hf.sz]; omega)]; rfl
      rw [this]; exact .undef
  · have := hf.df
    rw [List.isEmpty_iff.1 h4] at this
    generalize a'.defers = dd at this
    cases this
    exact .nil
/-- A loop that goes round 'n' times, from 1 to N: its heads one behind the other. -/
theorem chain {ih : Job → Fr → St → Res} (hs : Sound P ih) {fn : Func} (hok : codeOk fn.ntmps bd = true) {D : HdP} {n N : Nat} (hx : Lane.x < N) {t : Nat → List SV} {M : Nat → LMem}
    (ho : ∀ i, i < N → atHeadI fn.ntmps p (subL (fun _ => LY N i) (t (i + 1))) (M (i + 1)) (segFrom P ih D n bd gh p (subL (fun _ => LY N i) (t i)) (M i)) = true)
    (hf : ∀ i, i < N → isFin P fn (segFrom P ih D n bd gh p (subL (fun _ => n6 (i + 1)) (t (i + 1))) (M (i + 1))) = true) :
    Hd P (bodyPostD P fn (Fin0 w0)) fn.ntmps bd gh w0 p (subL (fun _ => LY N 0) (t 0)) (M 0) := by
  have all : ∀ j, j ≤ Lane.x + 1 → ∀ y, Mn y (Lane.x + 1) → Hd P (bodyPostD P fn (Fin0 w0)) fn.ntmps bd gh w0 p (subL (fun _ => y) (t (Lane.x + 1 - j))) (M (Lane.x + 1 - j)) := by
    intro j
    induction j with
    | zero =>
      intro _ y hy
      refine Hd.sub (g := fun _ => n6 (Lane.x + 1)) (fun _ m v hv => (mn_n _ m v).2 ((hy m v).1 hv)) ?_
      exact seg_sound hs hok fun m w hi hw => nx_fin (hf Lane.x hx) hw.big hi
    | succ j ih =>
      intro hj y hy
      have hlt : Lane.x + 1 - (j + 1) < N := by omega
      have hy1 : Mn (LY N (Lane.x + 1 - (j + 1))) (Lane.x + 1) := mn_LY hx (by omega)
      refine Hd.sub (g := fun _ => LY N (Lane.x + 1 - (j + 1))) (fun _ m v hv => (hy1 m v).2 ((hy m v).1 hv)) ?_
      have h1 := ih (by omega) _ hy1
      have e : Lane.x + 1 - j = Lane.x + 1 - (j + 1) + 1 := by omega
      rw [e] at h1
      exact seg_sound hs hok fun m w hi hw => nx_headI (ho _ hlt) rfl hw.big hi h1
  have := all (Lane.x + 1) (Nat.le_refl _) (LY N 0) (mn_LY hx (Nat.zero_le _))
  rwa [Nat.sub_self] at this
theorem seg_topI {ih : Job → Fr → St → Res} (hs : Sound P ih) {f : FuncId} {fn : Func} (hfn : fnc P f = some fn) (hbd : fn.body = some bd) (hok : codeOk fn.ntmps bd = true) {D : HdP} {n : Nat} {args : List SV} {args' : Array Value}
    {p1 : List Nat} {T1 : List SV} {L1 : LMem} (hle : args.length ≤ fn.ntmps) (ha : VRs (fun _ => none) args args'.toList) (hw : WR P (fun _ => none) ⟨P.globals.size, .nil, gh⟩ w0)
    (h : atHeadI fn.ntmps p1 T1 L1 (sgo P ih D n bd [] [] ⟨putL args .nil 0, []⟩ ⟨P.globals.size, .nil, gh⟩) = true) (hd : Hd P (bodyPostD P fn (Fin0 w0)) fn.ntmps bd gh w0 p1 T1 L1) :
    Calls P f args' w0 (Fin0 w0) :=
  calls_of_wp_defers ((fnc_eq P f).symm.trans hfn) hbd (sgo_sound (ks := []) hs hok n rfl (args_fr ha hle) hw (nx_headI h rfl (Nat.le_refl _) .start hd))
/-- A run without pieces, of the whole function. -/
noncomputable def okT : Res → Bool
  | .done (.bool true) _ => true
  | _ => false
theorem okT_done {r : Res} (h : okT r = true) : ∃ σ, r = .done (.bool true) σ := by
  unfold okT at h
  split at h
  · exact ⟨_, rfl⟩
  · cases h
theorem whole {ih : Job → Fr → St → Res} (hs : Sound P ih) {f : FuncId} {args : List SV} {args' : Array Value} {fr : Fr} (ha : VRs (fun _ => none) args args'.toList) (hw : WR P (fun _ => none) ⟨P.globals.size, .nil, gh⟩ w0)
    (h : okT (ih (.call f args) fr ⟨P.globals.size, .nil, gh⟩) = true) : Calls P f args' w0 (Fin0 w0) := by
  obtain ⟨σ, hσ⟩ := okT_done h
  refine (hs.call f _ _ _ _ _ hσ _ args' w0 ha hw).mono fun e W' he => ?_
  obtain ⟨m', v', rfl, hv, hp⟩ := he
  cases hv
  exact ⟨rfl, hp.kp.os, hp.kp.tape, hp.kp.output, hp.kp.size, fun k hk => hp.kp.block k hk fun i im h _ => by cases h⟩
end
end Go.YtghdjomjcododaaGreatDoorEv
