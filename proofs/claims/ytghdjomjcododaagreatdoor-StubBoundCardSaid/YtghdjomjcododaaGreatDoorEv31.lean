/- An evaluator for the program's own code: heads of loops whose blocks keep their numbers where they had one (text 31): matching from a number on. -/
import Derived.Test.YtghdjomjcododaaGreatDoorEv30
set_option linter.unusedVariables false
set_option linter.unusedSimpArgs false
namespace Go.YtghdjomjcododaaGreatDoorEv
open Go Go.RowKit
set_option linter.unusedSectionVars false

/-- As atHead, but what is below H keeps its number. -/
noncomputable def atHeadH (G H nt : Nat) (p1 : List Nat) (T1 : List SV) (L1 : LMem) : Sx → Bool
  | .head p fr σ => numsEq p p1 && Nat.ble G H && Nat.ble H L1.next && Nat.beq T1.length nt && fr.df.isEmpty && (match mtC H L1.next T1 fr.tm 0 .nil with
    | some ρ0 => match mtBs H L1.next σ L1.blks ρ0 .nil with
      | some _ => true
      | none => false
    | none => false)
  | _ => false
section
variable [Lane]
variable {P : Program} {Q : Exit → Act → World → Prop} {nt : Nat} {body : Code}
theorem recanonH {H : Nat} {fr : Fr} {a : Act} {m : Mp} {σ : St} {w w0 : World} {T : List SV} {L : LMem} {ρ0 ρ : Rn} (hGH : P.globals.size ≤ H) (hG : H ≤ L.next) (hT : T.length = nt) (hdf : fr.df = [])
    (h1 : mtC H L.next T fr.tm 0 .nil = some ρ0) (h2 : mtBs H L.next σ L.blks ρ0 .nil = some ρ) (hf : FrD m nt fr a) (hw : WR P m σ w) (hi : In0 P.globals.size w0 m w) :
    ∃ m0, FrD m0 nt ⟨putL T .nil 0, []⟩ a ∧ WR P m0 (L.st σ.gh) w ∧ In0 P.globals.size w0 m0 w := by
  obtain ⟨a1, a2, a3⟩ := mtC_ok h1
  obtain ⟨b1, b2, b3⟩ := mtBs_ok h2
  have hD0 : InD H L.next .nil := fun a k ha => by
    unfold lk at ha
    split at ha
    · rename_i e; have : a < H := Nat.le_of_ble_eq_true e; omega
    · rw [Tr.get_nil] at ha; cases ha
  have hD := b2 (a2 hD0)
  obtain ⟨hx, hpw⟩ := b3 ρ .refl hD
  have img : ∀ b y, fnd b L.blks = some y → ∃ k, lk H ρ b = some k ∧ b < L.next ∧ XR H L.next ρ y (σ.get k) := fun b y h => by
    obtain ⟨k, e1, e2, -, e4⟩ := hx _ (fnd_mem h); exact ⟨k, e1, e2, e4⟩
  have inj : ∀ b b' y y', fnd b L.blks = some y → fnd b' L.blks = some y' → lk H ρ b = lk H ρ b' → b = b' := fun b b' y y' h1 h2 e =>
    congrArg Prod.fst (pw_inj hpw _ (fnd_mem h1) _ (fnd_mem h2) e)
  have hAget : ∀ i, (L.st σ.gh).get i = match fnd i L.blks with | some x => x.blk | none => .dead := fun i => heapOf_fnd
  have hAlive : ∀ i, (L.st σ.gh).get i ≠ .dead → ∃ y, fnd i L.blks = some y := fun i hi => by
    rw [hAget] at hi
    cases hy : fnd i L.blks with
    | none => rw [hy] at hi; exact absurd rfl hi
    | some y => exact ⟨y, rfl⟩
  have hlkg : ∀ g, g < H → lk H ρ g = some g := fun g hg => by
    have : Nat.blt g H = true := Nat.ble_eq_true_of_le hg
    simp only [lk, this]
  refine ⟨m0of H L.next ρ m, ⟨⟨fun t => ?_⟩, ?_, hf.sz⟩, ?_, ?_⟩
  · show VR _ ((putL T .nil 0).get .undef t) (a.tmps.getD t undef)
    by_cases h : t < nt
    · obtain ⟨u, hu⟩ : ∃ u, T[t]? = some u := ⟨_, List.getElem?_eq_getElem (by omega)⟩
      have := putL_in (c := .nil) (i := 0) hu
      rw [Nat.zero_add] at this
      rw [this]
      have hk := (a3 ρ b1 hD t u hu).1 m (a.tmps.getD t undef)
      rw [Nat.zero_add] at hk
      exact hk (hf.tm.tm t)
    · rw [putL_out (by omega), Tr.get_nil]
      have : a.tmps.getD t undef = undef := by
        rw [Array.getD_eq_getD_getElem?, Array.getElem?_eq_none (by rw [hf.sz]; omega)]; rfl
      rw [this]; exact .undef
  · have := hf.df
    rw [hdf] at this
    generalize a.defers = dd at this
    cases this
    exact .nil
  · refine ⟨fun i im hi => ?_, fun i im hi => ?_, fun i j im jm hi hj di dj e => ?_, fun i hi => ?_, fun g im hg hi => ?_, by show P.globals.size ≤ L.next; omega, fun W0 L0 hW => ?_⟩
    · obtain ⟨h1, k, h2, h3⟩ := m0of_inv hi; exact ⟨h1, (hw.dom _ _ h3).2⟩
    · obtain ⟨h1, k, h2, h3⟩ := m0of_inv hi
      rw [hAget]
      cases hy : fnd i L.blks with
      | none => exact .dead
      | some y =>
        obtain ⟨k', e1, e2, e3⟩ := img i y hy
        rw [h2] at e1; cases e1
        exact e3.2.1 m im _ (hw.blk _ _ h3)
    · obtain ⟨y, hy⟩ := hAlive i di
      obtain ⟨z, hz⟩ := hAlive j dj
      obtain ⟨-, k, h2, h3⟩ := m0of_inv hi
      obtain ⟨-, k', h2', h3'⟩ := m0of_inv hj
      obtain ⟨_, e1, _, e3⟩ := img i y hy
      rw [h2] at e1; cases e1
      obtain ⟨_, e1', _, e3'⟩ := img j z hz
      rw [h2'] at e1'; cases e1'
      have := hw.inj k k' im jm h3 h3' e3.1 e3'.1 e
      subst this
      exact inj i j y z hy hz (h2.trans h2'.symm)
    · obtain ⟨y, hy⟩ := hAlive i hi
      obtain ⟨k, e1, e2, e3⟩ := img i y hy
      obtain ⟨im, him⟩ := hw.live k e3.1
      exact ⟨im, m0of_some e2 e1 him⟩
    · obtain ⟨_, k, h2, h3⟩ := m0of_inv hi
      rw [hlkg g (by omega)] at h2; cases h2
      exact hw.glob _ _ hg h3
    · obtain ⟨i1, i2, i3, i4⟩ := hw.inv W0 L0 hW
      refine ⟨i1, i2, fun i im hi => ?_, i4⟩
      obtain ⟨_, k, _, h3⟩ := m0of_inv hi
      exact i3 _ _ h3
  · refine ⟨hi.os, hi.tape, hi.output, hi.size, hi.block, fun i im hm => ?_⟩
    obtain ⟨_, k, h2, h3⟩ := m0of_inv hm
    refine ⟨(hi.img _ _ h3).1, ?_⟩
    rcases Nat.lt_or_ge i H with h | h
    · rw [hlkg i h] at h2; cases h2
      exact (hi.img _ _ h3).2
    · omega
theorem nx_headH {H : Nat} {w0 : World} {gh : Option (World × Gl)} {m : Mp} {σ : St} {w : World} {p1 : List Nat} {T1 : List SV} {L1 : LMem} {x : Sx} (h : atHeadH P.globals.size H nt p1 T1 L1 x = true) (hg : σ.gh = gh) (hb : P.globals.size ≤ σ.next)
    (hi : In0 P.globals.size w0 m w) (hd : Hd P Q nt body gh w0 p1 T1 L1) : SxOk P Q nt body m σ w x := by
  unfold atHeadH at h
  split at h
  case h_2 => cases h
  rename_i p fr σ1
  simp only [Bool.and_eq_true] at h
  obtain ⟨⟨⟨⟨⟨h1, h2⟩, h2'⟩, h3⟩, h4⟩, h5⟩ := h
  obtain rfl := numsEq_sound h1
  split at h5
  case h_2 => cases h5
  rename_i ρ0 e0
  split at h5
  case h_2 => cases h5
  rename_i ρ e1
  intro b ks hn m' a' w' hf hp
  obtain ⟨m0, f0, wr0, i0⟩ := recanonH (Nat.le_of_ble_eq_true h2) (Nat.le_of_ble_eq_true h2') (Nat.eq_of_beq_eq_true h3) (List.isEmpty_iff.1 h4) e0 e1 hf hp.wr (hi.post hb hp)
  rw [hp.gh, hg] at wr0
  exact hd b ks hn m0 a' w' f0 wr0 i0
/-- A number or a text that hangs on the lane: (a t + g) - (b d + h), or a text's bytes as such a number. -/
structure Aff where
  k : Option IntKind
  n : Nat
  a : Nat
  g : Nat
  b : Nat
  h : Nat
noncomputable def Aff.at (A : Aff) (t d : Nat) : SV :=
  match A.k with
  | some k => .int k (.ofNat (Nat.sub (Nat.add (Nat.mul A.a t) A.g) (Nat.add (Nat.mul A.b d) A.h)))
  | none => .str A.n (Nat.sub (Nat.add (Nat.mul A.a t) A.g) (Nat.add (Nat.mul A.b d) A.h))
noncomputable def rowA (A : Aff) (t d : Nat → Nat) : Nat → Nat → List SV
  | 0, _ => []
  | n + 1, x => A.at (t x) (d x) :: rowA A t d n (x + 1)
theorem rowA_get {A : Aff} {t d : Nat → Nat} : ∀ {n x i : Nat}, i < n → (rowA A t d n x)[i]? = some (A.at (t (x + i)) (d (x + i)))
  | 0, x, i, h => by omega
  | n + 1, x, 0, h => rfl
  | n + 1, x, i + 1, h => by
    show (rowA A t d n (x + 1))[i]? = _
    rw [rowA_get (by omega), show x + 1 + i = x + (i + 1) by omega]
/-- A row, or the one value of all its lanes. -/
noncomputable def pkA (l : List SV) : SV :=
  match packL l with
  | some v => v
  | none => .lan l
/-- The holes' rows: N lanes. -/
noncomputable def rowsA (l : List Aff) (N : Nat) (t d : Nat → Nat) (j : Nat) : SV :=
  match l[j]? with
  | some A => pkA (rowA A t d N 0)
  | none => .nilPtr
theorem Aff.lit (A : Aff) (t d : Nat) : (A.at t d).lit = true := by
  unfold Aff.at
  split <;> rfl
theorem pkA_get {r : List SV} {u : SV} {m : Mp} {v : Value} (hu : r[Lane.x]? = some u) (hl : u.lit = true) : VR m (pkA r) v ↔ VR m u v := by
  have fromLan : VR m (.lan r) v → VR m u v := fun h => by
    obtain ⟨a, e1, e2, _⟩ := h.lan_inv
    rw [hu] at e1; cases e1; exact e2
  have toLan : VR m u v → VR m (.lan r) v := fun h => by
    cases h <;> first | exact .lanI hu | exact .lanS hu ‹_› ‹_› | (simp [SV.lit] at hl; done)
  unfold pkA
  cases hp : packL r with
  | none => exact ⟨fromLan, toLan⟩
  | some w =>
    refine ⟨fun h => ?_, fun h => packL_ok hp hu _ _ h⟩
    cases r with
    | nil => cases hp
    | cons a l =>
      have hp : (match l.all (SV.same a) with | true => some a | false => match a.lit && l.all SV.lit with | true => some (.lan (a :: l)) | false => none) = some w := hp
      split at hp
      · rename_i hs
        have ew : a = w := Option.some.inj hp
        rw [← ew] at h
        have e : a = u := by
          cases hx : Lane.x with
          | zero => rw [hx] at hu; simpa using hu
          | succ n =>
            rw [hx, List.getElem?_cons_succ] at hu
            exact SV.same_eq (List.all_eq_true.1 hs u (List.mem_of_getElem? hu))
        rw [← e]; exact h
      · split at hp
        · cases hp; exact fromLan h
        · cases hp
theorem rowsA_says {l : List Aff} {N : Nat} {t d t' d' : Nat → Nat} (hx : Lane.x < N) (ht : t Lane.x = t' Lane.x) (hd : d Lane.x = d' Lane.x) : Says (rowsA l N t d) (rowsA l N t' d') := by
  intro j m v hv
  unfold rowsA at hv ⊢
  cases hj : l[j]? with
  | none => rw [hj] at hv; exact hv
  | some A =>
    rw [hj] at hv
    have e1 : (rowA A t d N 0)[Lane.x]? = some (A.at (t Lane.x) (d Lane.x)) := by rw [rowA_get hx, Nat.zero_add]
    have e2 : (rowA A t' d' N 0)[Lane.x]? = some (A.at (t Lane.x) (d Lane.x)) := by rw [rowA_get hx, Nat.zero_add, ← ht, ← hd]
    exact (pkA_get e2 (A.lit _ _)).2 ((pkA_get e1 (A.lit _ _)).1 hv)
theorem rowA_lit {A : Aff} {t d : Nat → Nat} : ∀ {n x : Nat}, ∀ u ∈ rowA A t d n x, u.lit = true
  | n + 1, x, u, h => by
    unfold rowA at h
    rcases List.mem_cons.1 h with e | h
    · rw [e]; exact A.lit _ _
    · exact rowA_lit u h
theorem rowsA_plain {l : List Aff} {N : Nat} {t d : Nat → Nat} : Plain1 (rowsA l N t d) := fun j => by
  unfold rowsA
  split
  · rename_i A _
    intro e
    unfold pkA at e
    have hl := rowA_lit (A := A) (t := t) (d := d) (n := N) (x := 0)
    generalize rowA A t d N 0 = r at e hl
    cases r with
    | nil => cases e
    | cons a l' =>
      have ha := hl a (List.mem_cons_self ..)
      cases hp : packL (a :: l') with
      | none => rw [hp] at e; cases e
      | some w =>
        rw [hp] at e
        have hp : (match l'.all (SV.same a) with | true => some a | false => match a.lit && l'.all SV.lit with | true => some (.lan (a :: l')) | false => none) = some w := hp
        split at hp
        · cases hp; rw [show a = .unk from e] at ha; cases ha
        · split at hp
          · cases hp; cases e
          · cases hp
  · intro e; cases e
end
end Go.YtghdjomjcododaaGreatDoorEv
