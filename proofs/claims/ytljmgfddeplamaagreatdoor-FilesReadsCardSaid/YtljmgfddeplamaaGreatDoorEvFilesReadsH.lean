/- FilesReads: from each head on it comes to true. -/
import Derived.Test.YtljmgfddeplamaaGreatDoorEvFilesReadsR0
import Derived.Test.YtljmgfddeplamaaGreatDoorEvFilesReadsR1
import Derived.Test.YtljmgfddeplamaaGreatDoorEvFilesReadsR2
import Derived.Test.YtljmgfddeplamaaGreatDoorEvFilesReadsR3
import Derived.Test.YtljmgfddeplamaaGreatDoorEvFilesReadsR4
import Derived.Test.YtljmgfddeplamaaGreatDoorEvFilesReadsR5
import Derived.Test.YtljmgfddeplamaaGreatDoorEvFilesReadsR6
import Derived.KernelRfl
namespace Go.Proofs.YtljmgfddeplamaaGreatDoor.filesReads
open Go Go.RowKit Go.YtljmgfddeplamaaGreatDoorEv
set_option linter.unusedVariables false
set_option linter.unusedSectionVars false
set_option maxRecDepth 100000

theorem lanF_get {f : Nat → Nat} : ∀ {n x i : Nat}, i < n → (lanF f n x)[i]? = some (n6 (f (x + i)))
  | 0, x, i, h => by omega
  | n + 1, x, 0, h => rfl
  | n + 1, x, i + 1, h => by
    show (lanF f n (x + 1))[i]? = _
    rw [lanF_get (by omega), show x + 1 + i = x + (i + 1) by omega]
theorem subL_length (f : Nat → SV) : ∀ l, (subL f l).length = l.length
  | [] => rfl
  | v :: l => by show (subL f l).length + 1 = _; rw [subL_length f l]; rfl
theorem subL_get (f : Nat → SV) : ∀ (l : List SV) (i : Nat), (subL f l)[i]? = (l[i]?).map (subV f)
  | [], i => rfl
  | v :: l, 0 => rfl
  | v :: l, i + 1 => subL_get f l i
theorem subV_cases (x : SV) : (∃ j, ∀ f, subV f x = f j) ∨ ∀ f, subV f x = x := by
  by_cases hx : ∃ j o, x = .opq ⟨j, o, none⟩
  · obtain ⟨j, o, rfl⟩ := hx
    cases h : Nat.beq o 999 with
    | true => exact .inl ⟨j, fun f => by show (match Nat.beq o 999 with | true => f j | false => _) = _; rw [h]⟩
    | false => exact .inr fun f => by show (match Nat.beq o 999 with | true => f j | false => _) = _; rw [h]
  · refine .inr fun f => ?_
    unfold subV
    split
    · rename_i j o; exact absurd ⟨j, o, rfl⟩ hx
    · rfl
section
variable [Lane]
/-- Of this value all is known, in this lane. -/
def Mn (u : SV) (c : Nat) : Prop := ∀ (m : Mp) (v : Value), VR m u v ↔ v = .int .i64 (.ofNat c)
theorem mn_n (c : Nat) : Mn (n6 c) c := fun m v => ⟨fun h => by cases h; rfl, fun h => by subst h; exact .int ..⟩
theorem mn_l {f : Nat → Nat} {c : Nat} (h : Lane.x < 400) (e : f Lane.x = c) : Mn (.lan (lanF f 400 0)) c := fun m v => by
  have hg : (lanF f 400 0)[Lane.x]? = some (n6 c) := by rw [lanF_get h, Nat.zero_add, e]
  refine ⟨fun hv => ?_, fun hv => by subst hv; exact .lanI hg⟩
  cases hv with
  | lanI h1 => rw [hg] at h1; cases h1; rfl
  | lanS h1 => rw [hg] at h1; cases h1
variable {P : Program} {Q : Exit → Act → World → Prop} {nt : Nat} {bd : Code} {gh : Option (World × Gl)} {w0 : World} {p : List Nat} {L : LMem}
theorem Hd.sub {l : List SV} {f g : Nat → SV} (h : ∀ j m v, VR m (f j) v → VR m (g j) v) (hd : Hd P Q nt bd gh w0 p (subL g l) L) : Hd P Q nt bd gh w0 p (subL f l) L := by
  refine Hd.put (by rw [subL_length, subL_length]) (fun m i v u u' h1 h2 hv => ?_) hd
  rw [subL_get] at h1 h2
  cases e : l[i]? with
  | none => rw [e] at h1; cases h1
  | some x =>
    rw [e] at h1 h2
    cases h1; cases h2
    rcases subV_cases x with ⟨j, hj⟩ | hj
    · rw [hj] at hv ⊢; exact h _ _ _ hv
    · rw [hj] at hv ⊢; exact hv
/-- With whatever words for the same numbers. -/
def HdM (P : Program) (Q : Exit → Act → World → Prop) (nt : Nat) (bd : Code) (w0 : World) (a q : Nat) (p : List Nat) (t : List SV) (k : Nat) (L : LMem) : Prop :=
  ∀ x y c d, Mn x (a + 1) → Mn y (q + 1) → Mn c (a + 1) → Mn d a → Hd P Q nt bd none w0 p (subL (slot x y c d k) t) L
theorem HdM.mk {t : List SV} {k a q : Nat} {x y c d : SV} (hx : Mn x (a + 1)) (hy : Mn y (q + 1)) (hc : Mn c (a + 1)) (hd : Mn d a) (h : Hd P Q nt bd none w0 p (subL (slot x y c d k) t) L) : HdM P Q nt bd w0 a q p t k L := by
  intro x' y' c' d' hx' hy' hc' hd'
  refine Hd.sub (fun j m v hv => ?_) h
  match j with
  | 0 => exact (hx m v).2 ((hx' m v).1 hv)
  | 1 => exact (hy m v).2 ((hy' m v).1 hv)
  | 2 => exact (hc m v).2 ((hc' m v).1 hv)
  | 3 => exact (hd m v).2 ((hd' m v).1 hv)
  | 4 => exact hv
  | j + 5 => exact hv
end
/-- A head whose template knows nothing of the inner loop's end. -/
theorem dead_slots {x y c d c' d' : SV} {k : Nat} : ∀ {t : List SV}, (t.all fun v => match v with | .opq ⟨j, o, none⟩ => !(Nat.beq j 2 || Nat.beq j 3) | _ => true) = true → subL (slot x y c d k) t = subL (slot x y c' d' k) t
  | [], _ => rfl
  | v :: t, h => by
    rw [List.all_cons, Bool.and_eq_true] at h
    show subV _ v :: subL _ t = subV _ v :: subL _ t
    rw [dead_slots h.2]
    congr 1
    have h1 := h.1
    unfold subV
    split
    · split
      · rename_i j o _ _
        match j with
        | 0 => rfl
        | 1 => rfl
        | 2 => cases h1
        | 3 => cases h1
        | 4 => rfl
        | j + 5 => rfl
      · rfl
    · rfl
section
variable (a q : Nat) (ha : a < 20) (hq : q < 20) (w0 : World)
abbrev ln (a q : Nat) : Lane := ⟨q * 20 + a⟩
abbrev Q0 (w0 : World) := bodyPostD Tryz.prog Tryz.f3 (Fin0 w0)
abbrev HM (w0 : World) (a q : Nat) := @HdM (ln a q) Tryz.prog (Q0 w0) Tryz.f3.ntmps body w0 a q
theorem okB : codeOk Tryz.f3.ntmps body = true := by kernel_rfl
theorem snd [Lane] : Sound Tryz.prog ih := runQ_sound (extOk _) (by kernel_rfl) (OrcOk.none _) 1000000
theorem lx (ha : a < 20) (hq : q < 20) (k : Nat) (hk : k ≤ a) : @Mn (ln a q) (LX k) (a + 1) := by
  letI : Lane := ln a q
  refine mn_l (show q * 20 + a < 400 by omega) ?_
  show (k + 1) + (((q * 20 + a) % 20 + 1) - (k + 1)) = a + 1
  omega
theorem lm (ha : a < 20) (hq : q < 20) : @Mn (ln a q) LM a := by
  letI : Lane := ln a q
  refine mn_l (show q * 20 + a < 400 by omega) ?_
  show (q * 20 + a) % 20 = a
  omega
theorem ly (ha : a < 20) (hq : q < 20) (i : Nat) (hi : i ≤ q) : @Mn (ln a q) (LY i) (q + 1) := by
  letI : Lane := ln a q
  refine mn_l (show q * 20 + a < 400 by omega) ?_
  show (i + 1) + (((q * 20 + a) / 20 + 1) - (i + 1)) = q + 1
  omega
end
section
variable {a q : Nat} {w0 : World}
theorem in19 (ha : a < 20) (hq : q < 20) (hi : 19 ≤ q) (nx : HM w0 a q pO to20 0 lo20) : ∀ j, j ≤ a → HM w0 a q pI ti19 (a - j + 1) li19
  | 0, _ => by
    letI : Lane := ln a q
    exact HdM.mk (mn_n _) (ly a q ha hq 19 hi) (lx a q ha hq 0 (Nat.zero_le _)) (lm a q ha hq) (by
      have e := allK_of (k := a) e19 ha
      refine (dead_slots (c' := uU) (d' := uU) (by kernel_rfl)).symm ▸ ?_
      exact seg_to snd okB e (nx _ _ _ _ (mn_n _) (ly a q ha hq 19 hi) (mn_n _) (mn_n _)))
  | j + 1, hj => by
    letI : Lane := ln a q
    have ih := in19 ha hq hi nx j (by omega)
    have hk : a - (j + 1) + 1 < 20 := by omega
    have e := allK_of (k := a - (j + 1) + 1) s19 hk
    have hkk : a - (j + 1) + 1 + 1 = a - j + 1 := by omega
    refine HdM.mk (lx a q ha hq (a - (j + 1) + 1) (by omega)) (ly a q ha hq 19 hi) (lx a q ha hq 0 (Nat.zero_le _)) (lm a q ha hq) (seg_to snd okB e ?_)
    rw [← hkk] at ih
    exact ih _ _ _ _ (lx a q ha hq (a - (j + 1) + 1) (by omega)) (ly a q ha hq 19 hi) (lx a q ha hq 0 (Nat.zero_le _)) (lm a q ha hq)
theorem ou19 (ha : a < 20) (hq : q < 20) (hi : 19 ≤ q) (nx : HM w0 a q pO to20 0 lo20) : HM w0 a q pO to19 0 lo19 := by
  letI : Lane := ln a q
  have h1 := in19 ha hq hi nx a (Nat.le_refl _)
  rw [Nat.sub_self] at h1
  have h0 : HM w0 a q pI ta19 0 la19 :=
    HdM.mk (lx a q ha hq 0 (Nat.zero_le _)) (ly a q ha hq 19 hi) (lx a q ha hq 0 (Nat.zero_le _)) (lm a q ha hq) (seg_to snd okB (allK_of (k := 0) s19 (by omega)) (h1 _ _ _ _ (lx a q ha hq 0 (Nat.zero_le _)) (ly a q ha hq 19 hi) (lx a q ha hq 0 (Nat.zero_le _)) (lm a q ha hq)))
  exact HdM.mk (lx a q ha hq 0 (Nat.zero_le _)) (ly a q ha hq 19 hi) (lx a q ha hq 0 (Nat.zero_le _)) (lm a q ha hq) (seg_to snd okB o19 (h0 _ _ _ _ (lx a q ha hq 0 (Nat.zero_le _)) (ly a q ha hq 19 hi) (lx a q ha hq 0 (Nat.zero_le _)) (lm a q ha hq)))
theorem in18 (ha : a < 20) (hq : q < 20) (hi : 18 ≤ q) (nx : HM w0 a q pO to19 0 lo19) : ∀ j, j ≤ a → HM w0 a q pI ti18 (a - j + 1) li18
  | 0, _ => by
    letI : Lane := ln a q
    exact HdM.mk (mn_n _) (ly a q ha hq 18 hi) (lx a q ha hq 0 (Nat.zero_le _)) (lm a q ha hq) (by
      have e := allK_of (k := a) e18 ha
      refine (dead_slots (c' := uU) (d' := uU) (by kernel_rfl)).symm ▸ ?_
      exact seg_to snd okB e (nx _ _ _ _ (mn_n _) (ly a q ha hq 18 hi) (mn_n _) (mn_n _)))
  | j + 1, hj => by
    letI : Lane := ln a q
    have ih := in18 ha hq hi nx j (by omega)
    have hk : a - (j + 1) + 1 < 20 := by omega
    have e := allK_of (k := a - (j + 1) + 1) s18 hk
    have hkk : a - (j + 1) + 1 + 1 = a - j + 1 := by omega
    refine HdM.mk (lx a q ha hq (a - (j + 1) + 1) (by omega)) (ly a q ha hq 18 hi) (lx a q ha hq 0 (Nat.zero_le _)) (lm a q ha hq) (seg_to snd okB e ?_)
    rw [← hkk] at ih
    exact ih _ _ _ _ (lx a q ha hq (a - (j + 1) + 1) (by omega)) (ly a q ha hq 18 hi) (lx a q ha hq 0 (Nat.zero_le _)) (lm a q ha hq)
theorem ou18 (ha : a < 20) (hq : q < 20) (hi : 18 ≤ q) (nx : HM w0 a q pO to19 0 lo19) : HM w0 a q pO to18 0 lo18 := by
  letI : Lane := ln a q
  have h1 := in18 ha hq hi nx a (Nat.le_refl _)
  rw [Nat.sub_self] at h1
  have h0 : HM w0 a q pI ta18 0 la18 :=
    HdM.mk (lx a q ha hq 0 (Nat.zero_le _)) (ly a q ha hq 18 hi) (lx a q ha hq 0 (Nat.zero_le _)) (lm a q ha hq) (seg_to snd okB (allK_of (k := 0) s18 (by omega)) (h1 _ _ _ _ (lx a q ha hq 0 (Nat.zero_le _)) (ly a q ha hq 18 hi) (lx a q ha hq 0 (Nat.zero_le _)) (lm a q ha hq)))
  exact HdM.mk (lx a q ha hq 0 (Nat.zero_le _)) (ly a q ha hq 18 hi) (lx a q ha hq 0 (Nat.zero_le _)) (lm a q ha hq) (seg_to snd okB o18 (h0 _ _ _ _ (lx a q ha hq 0 (Nat.zero_le _)) (ly a q ha hq 18 hi) (lx a q ha hq 0 (Nat.zero_le _)) (lm a q ha hq)))
theorem in17 (ha : a < 20) (hq : q < 20) (hi : 17 ≤ q) (nx : HM w0 a q pO to18 0 lo18) : ∀ j, j ≤ a → HM w0 a q pI ti17 (a - j + 1) li17
  | 0, _ => by
    letI : Lane := ln a q
    exact HdM.mk (mn_n _) (ly a q ha hq 17 hi) (lx a q ha hq 0 (Nat.zero_le _)) (lm a q ha hq) (by
      have e := allK_of (k := a) e17 ha
      refine (dead_slots (c' := uU) (d' := uU) (by kernel_rfl)).symm ▸ ?_
      exact seg_to snd okB e (nx _ _ _ _ (mn_n _) (ly a q ha hq 17 hi) (mn_n _) (mn_n _)))
  | j + 1, hj => by
    letI : Lane := ln a q
    have ih := in17 ha hq hi nx j (by omega)
    have hk : a - (j + 1) + 1 < 20 := by omega
    have e := allK_of (k := a - (j + 1) + 1) s17 hk
    have hkk : a - (j + 1) + 1 + 1 = a - j + 1 := by omega
    refine HdM.mk (lx a q ha hq (a - (j + 1) + 1) (by omega)) (ly a q ha hq 17 hi) (lx a q ha hq 0 (Nat.zero_le _)) (lm a q ha hq) (seg_to snd okB e ?_)
    rw [← hkk] at ih
    exact ih _ _ _ _ (lx a q ha hq (a - (j + 1) + 1) (by omega)) (ly a q ha hq 17 hi) (lx a q ha hq 0 (Nat.zero_le _)) (lm a q ha hq)
theorem ou17 (ha : a < 20) (hq : q < 20) (hi : 17 ≤ q) (nx : HM w0 a q pO to18 0 lo18) : HM w0 a q pO to17 0 lo17 := by
  letI : Lane := ln a q
  have h1 := in17 ha hq hi nx a (Nat.le_refl _)
  rw [Nat.sub_self] at h1
  have h0 : HM w0 a q pI ta17 0 la17 :=
    HdM.mk (lx a q ha hq 0 (Nat.zero_le _)) (ly a q ha hq 17 hi) (lx a q ha hq 0 (Nat.zero_le _)) (lm a q ha hq) (seg_to snd okB (allK_of (k := 0) s17 (by omega)) (h1 _ _ _ _ (lx a q ha hq 0 (Nat.zero_le _)) (ly a q ha hq 17 hi) (lx a q ha hq 0 (Nat.zero_le _)) (lm a q ha hq)))
  exact HdM.mk (lx a q ha hq 0 (Nat.zero_le _)) (ly a q ha hq 17 hi) (lx a q ha hq 0 (Nat.zero_le _)) (lm a q ha hq) (seg_to snd okB o17 (h0 _ _ _ _ (lx a q ha hq 0 (Nat.zero_le _)) (ly a q ha hq 17 hi) (lx a q ha hq 0 (Nat.zero_le _)) (lm a q ha hq)))
theorem in16 (ha : a < 20) (hq : q < 20) (hi : 16 ≤ q) (nx : HM w0 a q pO to17 0 lo17) : ∀ j, j ≤ a → HM w0 a q pI ti16 (a - j + 1) li16
  | 0, _ => by
    letI : Lane := ln a q
    exact HdM.mk (mn_n _) (ly a q ha hq 16 hi) (lx a q ha hq 0 (Nat.zero_le _)) (lm a q ha hq) (by
      have e := allK_of (k := a) e16 ha
      refine (dead_slots (c' := uU) (d' := uU) (by kernel_rfl)).symm ▸ ?_
      exact seg_to snd okB e (nx _ _ _ _ (mn_n _) (ly a q ha hq 16 hi) (mn_n _) (mn_n _)))
  | j + 1, hj => by
    letI : Lane := ln a q
    have ih := in16 ha hq hi nx j (by omega)
    have hk : a - (j + 1) + 1 < 20 := by omega
    have e := allK_of (k := a - (j + 1) + 1) s16 hk
    have hkk : a - (j + 1) + 1 + 1 = a - j + 1 := by omega
    refine HdM.mk (lx a q ha hq (a - (j + 1) + 1) (by omega)) (ly a q ha hq 16 hi) (lx a q ha hq 0 (Nat.zero_le _)) (lm a q ha hq) (seg_to snd okB e ?_)
    rw [← hkk] at ih
    exact ih _ _ _ _ (lx a q ha hq (a - (j + 1) + 1) (by omega)) (ly a q ha hq 16 hi) (lx a q ha hq 0 (Nat.zero_le _)) (lm a q ha hq)
theorem ou16 (ha : a < 20) (hq : q < 20) (hi : 16 ≤ q) (nx : HM w0 a q pO to17 0 lo17) : HM w0 a q pO to16 0 lo16 := by
  letI : Lane := ln a q
  have h1 := in16 ha hq hi nx a (Nat.le_refl _)
  rw [Nat.sub_self] at h1
  have h0 : HM w0 a q pI ta16 0 la16 :=
    HdM.mk (lx a q ha hq 0 (Nat.zero_le _)) (ly a q ha hq 16 hi) (lx a q ha hq 0 (Nat.zero_le _)) (lm a q ha hq) (seg_to snd okB (allK_of (k := 0) s16 (by omega)) (h1 _ _ _ _ (lx a q ha hq 0 (Nat.zero_le _)) (ly a q ha hq 16 hi) (lx a q ha hq 0 (Nat.zero_le _)) (lm a q ha hq)))
  exact HdM.mk (lx a q ha hq 0 (Nat.zero_le _)) (ly a q ha hq 16 hi) (lx a q ha hq 0 (Nat.zero_le _)) (lm a q ha hq) (seg_to snd okB o16 (h0 _ _ _ _ (lx a q ha hq 0 (Nat.zero_le _)) (ly a q ha hq 16 hi) (lx a q ha hq 0 (Nat.zero_le _)) (lm a q ha hq)))
theorem in15 (ha : a < 20) (hq : q < 20) (hi : 15 ≤ q) (nx : HM w0 a q pO to16 0 lo16) : ∀ j, j ≤ a → HM w0 a q pI ti15 (a - j + 1) li15
  | 0, _ => by
    letI : Lane := ln a q
    exact HdM.mk (mn_n _) (ly a q ha hq 15 hi) (lx a q ha hq 0 (Nat.zero_le _)) (lm a q ha hq) (by
      have e := allK_of (k := a) e15 ha
      refine (dead_slots (c' := uU) (d' := uU) (by kernel_rfl)).symm ▸ ?_
      exact seg_to snd okB e (nx _ _ _ _ (mn_n _) (ly a q ha hq 15 hi) (mn_n _) (mn_n _)))
  | j + 1, hj => by
    letI : Lane := ln a q
    have ih := in15 ha hq hi nx j (by omega)
    have hk : a - (j + 1) + 1 < 20 := by omega
    have e := allK_of (k := a - (j + 1) + 1) s15 hk
    have hkk : a - (j + 1) + 1 + 1 = a - j + 1 := by omega
    refine HdM.mk (lx a q ha hq (a - (j + 1) + 1) (by omega)) (ly a q ha hq 15 hi) (lx a q ha hq 0 (Nat.zero_le _)) (lm a q ha hq) (seg_to snd okB e ?_)
    rw [← hkk] at ih
    exact ih _ _ _ _ (lx a q ha hq (a - (j + 1) + 1) (by omega)) (ly a q ha hq 15 hi) (lx a q ha hq 0 (Nat.zero_le _)) (lm a q ha hq)
theorem ou15 (ha : a < 20) (hq : q < 20) (hi : 15 ≤ q) (nx : HM w0 a q pO to16 0 lo16) : HM w0 a q pO to15 0 lo15 := by
  letI : Lane := ln a q
  have h1 := in15 ha hq hi nx a (Nat.le_refl _)
  rw [Nat.sub_self] at h1
  have h0 : HM w0 a q pI ta15 0 la15 :=
    HdM.mk (lx a q ha hq 0 (Nat.zero_le _)) (ly a q ha hq 15 hi) (lx a q ha hq 0 (Nat.zero_le _)) (lm a q ha hq) (seg_to snd okB (allK_of (k := 0) s15 (by omega)) (h1 _ _ _ _ (lx a q ha hq 0 (Nat.zero_le _)) (ly a q ha hq 15 hi) (lx a q ha hq 0 (Nat.zero_le _)) (lm a q ha hq)))
  exact HdM.mk (lx a q ha hq 0 (Nat.zero_le _)) (ly a q ha hq 15 hi) (lx a q ha hq 0 (Nat.zero_le _)) (lm a q ha hq) (seg_to snd okB o15 (h0 _ _ _ _ (lx a q ha hq 0 (Nat.zero_le _)) (ly a q ha hq 15 hi) (lx a q ha hq 0 (Nat.zero_le _)) (lm a q ha hq)))
theorem in14 (ha : a < 20) (hq : q < 20) (hi : 14 ≤ q) (nx : HM w0 a q pO to15 0 lo15) : ∀ j, j ≤ a → HM w0 a q pI ti14 (a - j + 1) li14
  | 0, _ => by
    letI : Lane := ln a q
    exact HdM.mk (mn_n _) (ly a q ha hq 14 hi) (lx a q ha hq 0 (Nat.zero_le _)) (lm a q ha hq) (by
      have e := allK_of (k := a) e14 ha
      refine (dead_slots (c' := uU) (d' := uU) (by kernel_rfl)).symm ▸ ?_
      exact seg_to snd okB e (nx _ _ _ _ (mn_n _) (ly a q ha hq 14 hi) (mn_n _) (mn_n _)))
  | j + 1, hj => by
    letI : Lane := ln a q
    have ih := in14 ha hq hi nx j (by omega)
    have hk : a - (j + 1) + 1 < 20 := by omega
    have e := allK_of (k := a - (j + 1) + 1) s14 hk
    have hkk : a - (j + 1) + 1 + 1 = a - j + 1 := by omega
    refine HdM.mk (lx a q ha hq (a - (j + 1) + 1) (by omega)) (ly a q ha hq 14 hi) (lx a q ha hq 0 (Nat.zero_le _)) (lm a q ha hq) (seg_to snd okB e ?_)
    rw [← hkk] at ih
    exact ih _ _ _ _ (lx a q ha hq (a - (j + 1) + 1) (by omega)) (ly a q ha hq 14 hi) (lx a q ha hq 0 (Nat.zero_le _)) (lm a q ha hq)
theorem ou14 (ha : a < 20) (hq : q < 20) (hi : 14 ≤ q) (nx : HM w0 a q pO to15 0 lo15) : HM w0 a q pO to14 0 lo14 := by
  letI : Lane := ln a q
  have h1 := in14 ha hq hi nx a (Nat.le_refl _)
  rw [Nat.sub_self] at h1
  have h0 : HM w0 a q pI ta14 0 la14 :=
    HdM.mk (lx a q ha hq 0 (Nat.zero_le _)) (ly a q ha hq 14 hi) (lx a q ha hq 0 (Nat.zero_le _)) (lm a q ha hq) (seg_to snd okB (allK_of (k := 0) s14 (by omega)) (h1 _ _ _ _ (lx a q ha hq 0 (Nat.zero_le _)) (ly a q ha hq 14 hi) (lx a q ha hq 0 (Nat.zero_le _)) (lm a q ha hq)))
  exact HdM.mk (lx a q ha hq 0 (Nat.zero_le _)) (ly a q ha hq 14 hi) (lx a q ha hq 0 (Nat.zero_le _)) (lm a q ha hq) (seg_to snd okB o14 (h0 _ _ _ _ (lx a q ha hq 0 (Nat.zero_le _)) (ly a q ha hq 14 hi) (lx a q ha hq 0 (Nat.zero_le _)) (lm a q ha hq)))
theorem in13 (ha : a < 20) (hq : q < 20) (hi : 13 ≤ q) (nx : HM w0 a q pO to14 0 lo14) : ∀ j, j ≤ a → HM w0 a q pI ti13 (a - j + 1) li13
  | 0, _ => by
    letI : Lane := ln a q
    exact HdM.mk (mn_n _) (ly a q ha hq 13 hi) (lx a q ha hq 0 (Nat.zero_le _)) (lm a q ha hq) (by
      have e := allK_of (k := a) e13 ha
      refine (dead_slots (c' := uU) (d' := uU) (by kernel_rfl)).symm ▸ ?_
      exact seg_to snd okB e (nx _ _ _ _ (mn_n _) (ly a q ha hq 13 hi) (mn_n _) (mn_n _)))
  | j + 1, hj => by
    letI : Lane := ln a q
    have ih := in13 ha hq hi nx j (by omega)
    have hk : a - (j + 1) + 1 < 20 := by omega
    have e := allK_of (k := a - (j + 1) + 1) s13 hk
    have hkk : a - (j + 1) + 1 + 1 = a - j + 1 := by omega
    refine HdM.mk (lx a q ha hq (a - (j + 1) + 1) (by omega)) (ly a q ha hq 13 hi) (lx a q ha hq 0 (Nat.zero_le _)) (lm a q ha hq) (seg_to snd okB e ?_)
    rw [← hkk] at ih
    exact ih _ _ _ _ (lx a q ha hq (a - (j + 1) + 1) (by omega)) (ly a q ha hq 13 hi) (lx a q ha hq 0 (Nat.zero_le _)) (lm a q ha hq)
theorem ou13 (ha : a < 20) (hq : q < 20) (hi : 13 ≤ q) (nx : HM w0 a q pO to14 0 lo14) : HM w0 a q pO to13 0 lo13 := by
  letI : Lane := ln a q
  have h1 := in13 ha hq hi nx a (Nat.le_refl _)
  rw [Nat.sub_self] at h1
  have h0 : HM w0 a q pI ta13 0 la13 :=
    HdM.mk (lx a q ha hq 0 (Nat.zero_le _)) (ly a q ha hq 13 hi) (lx a q ha hq 0 (Nat.zero_le _)) (lm a q ha hq) (seg_to snd okB (allK_of (k := 0) s13 (by omega)) (h1 _ _ _ _ (lx a q ha hq 0 (Nat.zero_le _)) (ly a q ha hq 13 hi) (lx a q ha hq 0 (Nat.zero_le _)) (lm a q ha hq)))
  exact HdM.mk (lx a q ha hq 0 (Nat.zero_le _)) (ly a q ha hq 13 hi) (lx a q ha hq 0 (Nat.zero_le _)) (lm a q ha hq) (seg_to snd okB o13 (h0 _ _ _ _ (lx a q ha hq 0 (Nat.zero_le _)) (ly a q ha hq 13 hi) (lx a q ha hq 0 (Nat.zero_le _)) (lm a q ha hq)))
theorem in12 (ha : a < 20) (hq : q < 20) (hi : 12 ≤ q) (nx : HM w0 a q pO to13 0 lo13) : ∀ j, j ≤ a → HM w0 a q pI ti12 (a - j + 1) li12
  | 0, _ => by
    letI : Lane := ln a q
    exact HdM.mk (mn_n _) (ly a q ha hq 12 hi) (lx a q ha hq 0 (Nat.zero_le _)) (lm a q ha hq) (by
      have e := allK_of (k := a) e12 ha
      refine (dead_slots (c' := uU) (d' := uU) (by kernel_rfl)).symm ▸ ?_
      exact seg_to snd okB e (nx _ _ _ _ (mn_n _) (ly a q ha hq 12 hi) (mn_n _) (mn_n _)))
  | j + 1, hj => by
    letI : Lane := ln a q
    have ih := in12 ha hq hi nx j (by omega)
    have hk : a - (j + 1) + 1 < 20 := by omega
    have e := allK_of (k := a - (j + 1) + 1) s12 hk
    have hkk : a - (j + 1) + 1 + 1 = a - j + 1 := by omega
    refine HdM.mk (lx a q ha hq (a - (j + 1) + 1) (by omega)) (ly a q ha hq 12 hi) (lx a q ha hq 0 (Nat.zero_le _)) (lm a q ha hq) (seg_to snd okB e ?_)
    rw [← hkk] at ih
    exact ih _ _ _ _ (lx a q ha hq (a - (j + 1) + 1) (by omega)) (ly a q ha hq 12 hi) (lx a q ha hq 0 (Nat.zero_le _)) (lm a q ha hq)
theorem ou12 (ha : a < 20) (hq : q < 20) (hi : 12 ≤ q) (nx : HM w0 a q pO to13 0 lo13) : HM w0 a q pO to12 0 lo12 := by
  letI : Lane := ln a q
  have h1 := in12 ha hq hi nx a (Nat.le_refl _)
  rw [Nat.sub_self] at h1
  have h0 : HM w0 a q pI ta12 0 la12 :=
    HdM.mk (lx a q ha hq 0 (Nat.zero_le _)) (ly a q ha hq 12 hi) (lx a q ha hq 0 (Nat.zero_le _)) (lm a q ha hq) (seg_to snd okB (allK_of (k := 0) s12 (by omega)) (h1 _ _ _ _ (lx a q ha hq 0 (Nat.zero_le _)) (ly a q ha hq 12 hi) (lx a q ha hq 0 (Nat.zero_le _)) (lm a q ha hq)))
  exact HdM.mk (lx a q ha hq 0 (Nat.zero_le _)) (ly a q ha hq 12 hi) (lx a q ha hq 0 (Nat.zero_le _)) (lm a q ha hq) (seg_to snd okB o12 (h0 _ _ _ _ (lx a q ha hq 0 (Nat.zero_le _)) (ly a q ha hq 12 hi) (lx a q ha hq 0 (Nat.zero_le _)) (lm a q ha hq)))
theorem in11 (ha : a < 20) (hq : q < 20) (hi : 11 ≤ q) (nx : HM w0 a q pO to12 0 lo12) : ∀ j, j ≤ a → HM w0 a q pI ti11 (a - j + 1) li11
  | 0, _ => by
    letI : Lane := ln a q
    exact HdM.mk (mn_n _) (ly a q ha hq 11 hi) (lx a q ha hq 0 (Nat.zero_le _)) (lm a q ha hq) (by
      have e := allK_of (k := a) e11 ha
      refine (dead_slots (c' := uU) (d' := uU) (by kernel_rfl)).symm ▸ ?_
      exact seg_to snd okB e (nx _ _ _ _ (mn_n _) (ly a q ha hq 11 hi) (mn_n _) (mn_n _)))
  | j + 1, hj => by
    letI : Lane := ln a q
    have ih := in11 ha hq hi nx j (by omega)
    have hk : a - (j + 1) + 1 < 20 := by omega
    have e := allK_of (k := a - (j + 1) + 1) s11 hk
    have hkk : a - (j + 1) + 1 + 1 = a - j + 1 := by omega
    refine HdM.mk (lx a q ha hq (a - (j + 1) + 1) (by omega)) (ly a q ha hq 11 hi) (lx a q ha hq 0 (Nat.zero_le _)) (lm a q ha hq) (seg_to snd okB e ?_)
    rw [← hkk] at ih
    exact ih _ _ _ _ (lx a q ha hq (a - (j + 1) + 1) (by omega)) (ly a q ha hq 11 hi) (lx a q ha hq 0 (Nat.zero_le _)) (lm a q ha hq)
theorem ou11 (ha : a < 20) (hq : q < 20) (hi : 11 ≤ q) (nx : HM w0 a q pO to12 0 lo12) : HM w0 a q pO to11 0 lo11 := by
  letI : Lane := ln a q
  have h1 := in11 ha hq hi nx a (Nat.le_refl _)
  rw [Nat.sub_self] at h1
  have h0 : HM w0 a q pI ta11 0 la11 :=
    HdM.mk (lx a q ha hq 0 (Nat.zero_le _)) (ly a q ha hq 11 hi) (lx a q ha hq 0 (Nat.zero_le _)) (lm a q ha hq) (seg_to snd okB (allK_of (k := 0) s11 (by omega)) (h1 _ _ _ _ (lx a q ha hq 0 (Nat.zero_le _)) (ly a q ha hq 11 hi) (lx a q ha hq 0 (Nat.zero_le _)) (lm a q ha hq)))
  exact HdM.mk (lx a q ha hq 0 (Nat.zero_le _)) (ly a q ha hq 11 hi) (lx a q ha hq 0 (Nat.zero_le _)) (lm a q ha hq) (seg_to snd okB o11 (h0 _ _ _ _ (lx a q ha hq 0 (Nat.zero_le _)) (ly a q ha hq 11 hi) (lx a q ha hq 0 (Nat.zero_le _)) (lm a q ha hq)))
theorem in10 (ha : a < 20) (hq : q < 20) (hi : 10 ≤ q) (nx : HM w0 a q pO to11 0 lo11) : ∀ j, j ≤ a → HM w0 a q pI ti10 (a - j + 1) li10
  | 0, _ => by
    letI : Lane := ln a q
    exact HdM.mk (mn_n _) (ly a q ha hq 10 hi) (lx a q ha hq 0 (Nat.zero_le _)) (lm a q ha hq) (by
      have e := allK_of (k := a) e10 ha
      refine (dead_slots (c' := uU) (d' := uU) (by kernel_rfl)).symm ▸ ?_
      exact seg_to snd okB e (nx _ _ _ _ (mn_n _) (ly a q ha hq 10 hi) (mn_n _) (mn_n _)))
  | j + 1, hj => by
    letI : Lane := ln a q
    have ih := in10 ha hq hi nx j (by omega)
    have hk : a - (j + 1) + 1 < 20 := by omega
    have e := allK_of (k := a - (j + 1) + 1) s10 hk
    have hkk : a - (j + 1) + 1 + 1 = a - j + 1 := by omega
    refine HdM.mk (lx a q ha hq (a - (j + 1) + 1) (by omega)) (ly a q ha hq 10 hi) (lx a q ha hq 0 (Nat.zero_le _)) (lm a q ha hq) (seg_to snd okB e ?_)
    rw [← hkk] at ih
    exact ih _ _ _ _ (lx a q ha hq (a - (j + 1) + 1) (by omega)) (ly a q ha hq 10 hi) (lx a q ha hq 0 (Nat.zero_le _)) (lm a q ha hq)
theorem ou10 (ha : a < 20) (hq : q < 20) (hi : 10 ≤ q) (nx : HM w0 a q pO to11 0 lo11) : HM w0 a q pO to10 0 lo10 := by
  letI : Lane := ln a q
  have h1 := in10 ha hq hi nx a (Nat.le_refl _)
  rw [Nat.sub_self] at h1
  have h0 : HM w0 a q pI ta10 0 la10 :=
    HdM.mk (lx a q ha hq 0 (Nat.zero_le _)) (ly a q ha hq 10 hi) (lx a q ha hq 0 (Nat.zero_le _)) (lm a q ha hq) (seg_to snd okB (allK_of (k := 0) s10 (by omega)) (h1 _ _ _ _ (lx a q ha hq 0 (Nat.zero_le _)) (ly a q ha hq 10 hi) (lx a q ha hq 0 (Nat.zero_le _)) (lm a q ha hq)))
  exact HdM.mk (lx a q ha hq 0 (Nat.zero_le _)) (ly a q ha hq 10 hi) (lx a q ha hq 0 (Nat.zero_le _)) (lm a q ha hq) (seg_to snd okB o10 (h0 _ _ _ _ (lx a q ha hq 0 (Nat.zero_le _)) (ly a q ha hq 10 hi) (lx a q ha hq 0 (Nat.zero_le _)) (lm a q ha hq)))
theorem in9 (ha : a < 20) (hq : q < 20) (hi : 9 ≤ q) (nx : HM w0 a q pO to10 0 lo10) : ∀ j, j ≤ a → HM w0 a q pI ti9 (a - j + 1) li9
  | 0, _ => by
    letI : Lane := ln a q
    exact HdM.mk (mn_n _) (ly a q ha hq 9 hi) (lx a q ha hq 0 (Nat.zero_le _)) (lm a q ha hq) (by
      have e := allK_of (k := a) e9 ha
      refine (dead_slots (c' := uU) (d' := uU) (by kernel_rfl)).symm ▸ ?_
      exact seg_to snd okB e (nx _ _ _ _ (mn_n _) (ly a q ha hq 9 hi) (mn_n _) (mn_n _)))
  | j + 1, hj => by
    letI : Lane := ln a q
    have ih := in9 ha hq hi nx j (by omega)
    have hk : a - (j + 1) + 1 < 20 := by omega
    have e := allK_of (k := a - (j + 1) + 1) s9 hk
    have hkk : a - (j + 1) + 1 + 1 = a - j + 1 := by omega
    refine HdM.mk (lx a q ha hq (a - (j + 1) + 1) (by omega)) (ly a q ha hq 9 hi) (lx a q ha hq 0 (Nat.zero_le _)) (lm a q ha hq) (seg_to snd okB e ?_)
    rw [← hkk] at ih
    exact ih _ _ _ _ (lx a q ha hq (a - (j + 1) + 1) (by omega)) (ly a q ha hq 9 hi) (lx a q ha hq 0 (Nat.zero_le _)) (lm a q ha hq)
theorem ou9 (ha : a < 20) (hq : q < 20) (hi : 9 ≤ q) (nx : HM w0 a q pO to10 0 lo10) : HM w0 a q pO to9 0 lo9 := by
  letI : Lane := ln a q
  have h1 := in9 ha hq hi nx a (Nat.le_refl _)
  rw [Nat.sub_self] at h1
  have h0 : HM w0 a q pI ta9 0 la9 :=
    HdM.mk (lx a q ha hq 0 (Nat.zero_le _)) (ly a q ha hq 9 hi) (lx a q ha hq 0 (Nat.zero_le _)) (lm a q ha hq) (seg_to snd okB (allK_of (k := 0) s9 (by omega)) (h1 _ _ _ _ (lx a q ha hq 0 (Nat.zero_le _)) (ly a q ha hq 9 hi) (lx a q ha hq 0 (Nat.zero_le _)) (lm a q ha hq)))
  exact HdM.mk (lx a q ha hq 0 (Nat.zero_le _)) (ly a q ha hq 9 hi) (lx a q ha hq 0 (Nat.zero_le _)) (lm a q ha hq) (seg_to snd okB o9 (h0 _ _ _ _ (lx a q ha hq 0 (Nat.zero_le _)) (ly a q ha hq 9 hi) (lx a q ha hq 0 (Nat.zero_le _)) (lm a q ha hq)))
theorem in8 (ha : a < 20) (hq : q < 20) (hi : 8 ≤ q) (nx : HM w0 a q pO to9 0 lo9) : ∀ j, j ≤ a → HM w0 a q pI ti8 (a - j + 1) li8
  | 0, _ => by
    letI : Lane := ln a q
    exact HdM.mk (mn_n _) (ly a q ha hq 8 hi) (lx a q ha hq 0 (Nat.zero_le _)) (lm a q ha hq) (by
      have e := allK_of (k := a) e8 ha
      refine (dead_slots (c' := uU) (d' := uU) (by kernel_rfl)).symm ▸ ?_
      exact seg_to snd okB e (nx _ _ _ _ (mn_n _) (ly a q ha hq 8 hi) (mn_n _) (mn_n _)))
  | j + 1, hj => by
    letI : Lane := ln a q
    have ih := in8 ha hq hi nx j (by omega)
    have hk : a - (j + 1) + 1 < 20 := by omega
    have e := allK_of (k := a - (j + 1) + 1) s8 hk
    have hkk : a - (j + 1) + 1 + 1 = a - j + 1 := by omega
    refine HdM.mk (lx a q ha hq (a - (j + 1) + 1) (by omega)) (ly a q ha hq 8 hi) (lx a q ha hq 0 (Nat.zero_le _)) (lm a q ha hq) (seg_to snd okB e ?_)
    rw [← hkk] at ih
    exact ih _ _ _ _ (lx a q ha hq (a - (j + 1) + 1) (by omega)) (ly a q ha hq 8 hi) (lx a q ha hq 0 (Nat.zero_le _)) (lm a q ha hq)
theorem ou8 (ha : a < 20) (hq : q < 20) (hi : 8 ≤ q) (nx : HM w0 a q pO to9 0 lo9) : HM w0 a q pO to8 0 lo8 := by
  letI : Lane := ln a q
  have h1 := in8 ha hq hi nx a (Nat.le_refl _)
  rw [Nat.sub_self] at h1
  have h0 : HM w0 a q pI ta8 0 la8 :=
    HdM.mk (lx a q ha hq 0 (Nat.zero_le _)) (ly a q ha hq 8 hi) (lx a q ha hq 0 (Nat.zero_le _)) (lm a q ha hq) (seg_to snd okB (allK_of (k := 0) s8 (by omega)) (h1 _ _ _ _ (lx a q ha hq 0 (Nat.zero_le _)) (ly a q ha hq 8 hi) (lx a q ha hq 0 (Nat.zero_le _)) (lm a q ha hq)))
  exact HdM.mk (lx a q ha hq 0 (Nat.zero_le _)) (ly a q ha hq 8 hi) (lx a q ha hq 0 (Nat.zero_le _)) (lm a q ha hq) (seg_to snd okB o8 (h0 _ _ _ _ (lx a q ha hq 0 (Nat.zero_le _)) (ly a q ha hq 8 hi) (lx a q ha hq 0 (Nat.zero_le _)) (lm a q ha hq)))
theorem in7 (ha : a < 20) (hq : q < 20) (hi : 7 ≤ q) (nx : HM w0 a q pO to8 0 lo8) : ∀ j, j ≤ a → HM w0 a q pI ti7 (a - j + 1) li7
  | 0, _ => by
    letI : Lane := ln a q
    exact HdM.mk (mn_n _) (ly a q ha hq 7 hi) (lx a q ha hq 0 (Nat.zero_le _)) (lm a q ha hq) (by
      have e := allK_of (k := a) e7 ha
      refine (dead_slots (c' := uU) (d' := uU) (by kernel_rfl)).symm ▸ ?_
      exact seg_to snd okB e (nx _ _ _ _ (mn_n _) (ly a q ha hq 7 hi) (mn_n _) (mn_n _)))
  | j + 1, hj => by
    letI : Lane := ln a q
    have ih := in7 ha hq hi nx j (by omega)
    have hk : a - (j + 1) + 1 < 20 := by omega
    have e := allK_of (k := a - (j + 1) + 1) s7 hk
    have hkk : a - (j + 1) + 1 + 1 = a - j + 1 := by omega
    refine HdM.mk (lx a q ha hq (a - (j + 1) + 1) (by omega)) (ly a q ha hq 7 hi) (lx a q ha hq 0 (Nat.zero_le _)) (lm a q ha hq) (seg_to snd okB e ?_)
    rw [← hkk] at ih
    exact ih _ _ _ _ (lx a q ha hq (a - (j + 1) + 1) (by omega)) (ly a q ha hq 7 hi) (lx a q ha hq 0 (Nat.zero_le _)) (lm a q ha hq)
theorem ou7 (ha : a < 20) (hq : q < 20) (hi : 7 ≤ q) (nx : HM w0 a q pO to8 0 lo8) : HM w0 a q pO to7 0 lo7 := by
  letI : Lane := ln a q
  have h1 := in7 ha hq hi nx a (Nat.le_refl _)
  rw [Nat.sub_self] at h1
  have h0 : HM w0 a q pI ta7 0 la7 :=
    HdM.mk (lx a q ha hq 0 (Nat.zero_le _)) (ly a q ha hq 7 hi) (lx a q ha hq 0 (Nat.zero_le _)) (lm a q ha hq) (seg_to snd okB (allK_of (k := 0) s7 (by omega)) (h1 _ _ _ _ (lx a q ha hq 0 (Nat.zero_le _)) (ly a q ha hq 7 hi) (lx a q ha hq 0 (Nat.zero_le _)) (lm a q ha hq)))
  exact HdM.mk (lx a q ha hq 0 (Nat.zero_le _)) (ly a q ha hq 7 hi) (lx a q ha hq 0 (Nat.zero_le _)) (lm a q ha hq) (seg_to snd okB o7 (h0 _ _ _ _ (lx a q ha hq 0 (Nat.zero_le _)) (ly a q ha hq 7 hi) (lx a q ha hq 0 (Nat.zero_le _)) (lm a q ha hq)))
theorem in6 (ha : a < 20) (hq : q < 20) (hi : 6 ≤ q) (nx : HM w0 a q pO to7 0 lo7) : ∀ j, j ≤ a → HM w0 a q pI ti6 (a - j + 1) li6
  | 0, _ => by
    letI : Lane := ln a q
    exact HdM.mk (mn_n _) (ly a q ha hq 6 hi) (lx a q ha hq 0 (Nat.zero_le _)) (lm a q ha hq) (by
      have e := allK_of (k := a) e6 ha
      refine (dead_slots (c' := uU) (d' := uU) (by kernel_rfl)).symm ▸ ?_
      exact seg_to snd okB e (nx _ _ _ _ (mn_n _) (ly a q ha hq 6 hi) (mn_n _) (mn_n _)))
  | j + 1, hj => by
    letI : Lane := ln a q
    have ih := in6 ha hq hi nx j (by omega)
    have hk : a - (j + 1) + 1 < 20 := by omega
    have e := allK_of (k := a - (j + 1) + 1) s6 hk
    have hkk : a - (j + 1) + 1 + 1 = a - j + 1 := by omega
    refine HdM.mk (lx a q ha hq (a - (j + 1) + 1) (by omega)) (ly a q ha hq 6 hi) (lx a q ha hq 0 (Nat.zero_le _)) (lm a q ha hq) (seg_to snd okB e ?_)
    rw [← hkk] at ih
    exact ih _ _ _ _ (lx a q ha hq (a - (j + 1) + 1) (by omega)) (ly a q ha hq 6 hi) (lx a q ha hq 0 (Nat.zero_le _)) (lm a q ha hq)
theorem ou6 (ha : a < 20) (hq : q < 20) (hi : 6 ≤ q) (nx : HM w0 a q pO to7 0 lo7) : HM w0 a q pO to6 0 lo6 := by
  letI : Lane := ln a q
  have h1 := in6 ha hq hi nx a (Nat.le_refl _)
  rw [Nat.sub_self] at h1
  have h0 : HM w0 a q pI ta6 0 la6 :=
    HdM.mk (lx a q ha hq 0 (Nat.zero_le _)) (ly a q ha hq 6 hi) (lx a q ha hq 0 (Nat.zero_le _)) (lm a q ha hq) (seg_to snd okB (allK_of (k := 0) s6 (by omega)) (h1 _ _ _ _ (lx a q ha hq 0 (Nat.zero_le _)) (ly a q ha hq 6 hi) (lx a q ha hq 0 (Nat.zero_le _)) (lm a q ha hq)))
  exact HdM.mk (lx a q ha hq 0 (Nat.zero_le _)) (ly a q ha hq 6 hi) (lx a q ha hq 0 (Nat.zero_le _)) (lm a q ha hq) (seg_to snd okB o6 (h0 _ _ _ _ (lx a q ha hq 0 (Nat.zero_le _)) (ly a q ha hq 6 hi) (lx a q ha hq 0 (Nat.zero_le _)) (lm a q ha hq)))
theorem in5 (ha : a < 20) (hq : q < 20) (hi : 5 ≤ q) (nx : HM w0 a q pO to6 0 lo6) : ∀ j, j ≤ a → HM w0 a q pI ti5 (a - j + 1) li5
  | 0, _ => by
    letI : Lane := ln a q
    exact HdM.mk (mn_n _) (ly a q ha hq 5 hi) (lx a q ha hq 0 (Nat.zero_le _)) (lm a q ha hq) (by
      have e := allK_of (k := a) e5 ha
      refine (dead_slots (c' := uU) (d' := uU) (by kernel_rfl)).symm ▸ ?_
      exact seg_to snd okB e (nx _ _ _ _ (mn_n _) (ly a q ha hq 5 hi) (mn_n _) (mn_n _)))
  | j + 1, hj => by
    letI : Lane := ln a q
    have ih := in5 ha hq hi nx j (by omega)
    have hk : a - (j + 1) + 1 < 20 := by omega
    have e := allK_of (k := a - (j + 1) + 1) s5 hk
    have hkk : a - (j + 1) + 1 + 1 = a - j + 1 := by omega
    refine HdM.mk (lx a q ha hq (a - (j + 1) + 1) (by omega)) (ly a q ha hq 5 hi) (lx a q ha hq 0 (Nat.zero_le _)) (lm a q ha hq) (seg_to snd okB e ?_)
    rw [← hkk] at ih
    exact ih _ _ _ _ (lx a q ha hq (a - (j + 1) + 1) (by omega)) (ly a q ha hq 5 hi) (lx a q ha hq 0 (Nat.zero_le _)) (lm a q ha hq)
theorem ou5 (ha : a < 20) (hq : q < 20) (hi : 5 ≤ q) (nx : HM w0 a q pO to6 0 lo6) : HM w0 a q pO to5 0 lo5 := by
  letI : Lane := ln a q
  have h1 := in5 ha hq hi nx a (Nat.le_refl _)
  rw [Nat.sub_self] at h1
  have h0 : HM w0 a q pI ta5 0 la5 :=
    HdM.mk (lx a q ha hq 0 (Nat.zero_le _)) (ly a q ha hq 5 hi) (lx a q ha hq 0 (Nat.zero_le _)) (lm a q ha hq) (seg_to snd okB (allK_of (k := 0) s5 (by omega)) (h1 _ _ _ _ (lx a q ha hq 0 (Nat.zero_le _)) (ly a q ha hq 5 hi) (lx a q ha hq 0 (Nat.zero_le _)) (lm a q ha hq)))
  exact HdM.mk (lx a q ha hq 0 (Nat.zero_le _)) (ly a q ha hq 5 hi) (lx a q ha hq 0 (Nat.zero_le _)) (lm a q ha hq) (seg_to snd okB o5 (h0 _ _ _ _ (lx a q ha hq 0 (Nat.zero_le _)) (ly a q ha hq 5 hi) (lx a q ha hq 0 (Nat.zero_le _)) (lm a q ha hq)))
theorem in4 (ha : a < 20) (hq : q < 20) (hi : 4 ≤ q) (nx : HM w0 a q pO to5 0 lo5) : ∀ j, j ≤ a → HM w0 a q pI ti4 (a - j + 1) li4
  | 0, _ => by
    letI : Lane := ln a q
    exact HdM.mk (mn_n _) (ly a q ha hq 4 hi) (lx a q ha hq 0 (Nat.zero_le _)) (lm a q ha hq) (by
      have e := allK_of (k := a) e4 ha
      refine (dead_slots (c' := uU) (d' := uU) (by kernel_rfl)).symm ▸ ?_
      exact seg_to snd okB e (nx _ _ _ _ (mn_n _) (ly a q ha hq 4 hi) (mn_n _) (mn_n _)))
  | j + 1, hj => by
    letI : Lane := ln a q
    have ih := in4 ha hq hi nx j (by omega)
    have hk : a - (j + 1) + 1 < 20 := by omega
    have e := allK_of (k := a - (j + 1) + 1) s4 hk
    have hkk : a - (j + 1) + 1 + 1 = a - j + 1 := by omega
    refine HdM.mk (lx a q ha hq (a - (j + 1) + 1) (by omega)) (ly a q ha hq 4 hi) (lx a q ha hq 0 (Nat.zero_le _)) (lm a q ha hq) (seg_to snd okB e ?_)
    rw [← hkk] at ih
    exact ih _ _ _ _ (lx a q ha hq (a - (j + 1) + 1) (by omega)) (ly a q ha hq 4 hi) (lx a q ha hq 0 (Nat.zero_le _)) (lm a q ha hq)
theorem ou4 (ha : a < 20) (hq : q < 20) (hi : 4 ≤ q) (nx : HM w0 a q pO to5 0 lo5) : HM w0 a q pO to4 0 lo4 := by
  letI : Lane := ln a q
  have h1 := in4 ha hq hi nx a (Nat.le_refl _)
  rw [Nat.sub_self] at h1
  have h0 : HM w0 a q pI ta4 0 la4 :=
    HdM.mk (lx a q ha hq 0 (Nat.zero_le _)) (ly a q ha hq 4 hi) (lx a q ha hq 0 (Nat.zero_le _)) (lm a q ha hq) (seg_to snd okB (allK_of (k := 0) s4 (by omega)) (h1 _ _ _ _ (lx a q ha hq 0 (Nat.zero_le _)) (ly a q ha hq 4 hi) (lx a q ha hq 0 (Nat.zero_le _)) (lm a q ha hq)))
  exact HdM.mk (lx a q ha hq 0 (Nat.zero_le _)) (ly a q ha hq 4 hi) (lx a q ha hq 0 (Nat.zero_le _)) (lm a q ha hq) (seg_to snd okB o4 (h0 _ _ _ _ (lx a q ha hq 0 (Nat.zero_le _)) (ly a q ha hq 4 hi) (lx a q ha hq 0 (Nat.zero_le _)) (lm a q ha hq)))
theorem in3 (ha : a < 20) (hq : q < 20) (hi : 3 ≤ q) (nx : HM w0 a q pO to4 0 lo4) : ∀ j, j ≤ a → HM w0 a q pI ti3 (a - j + 1) li3
  | 0, _ => by
    letI : Lane := ln a q
    exact HdM.mk (mn_n _) (ly a q ha hq 3 hi) (lx a q ha hq 0 (Nat.zero_le _)) (lm a q ha hq) (by
      have e := allK_of (k := a) e3 ha
      refine (dead_slots (c' := uU) (d' := uU) (by kernel_rfl)).symm ▸ ?_
      exact seg_to snd okB e (nx _ _ _ _ (mn_n _) (ly a q ha hq 3 hi) (mn_n _) (mn_n _)))
  | j + 1, hj => by
    letI : Lane := ln a q
    have ih := in3 ha hq hi nx j (by omega)
    have hk : a - (j + 1) + 1 < 20 := by omega
    have e := allK_of (k := a - (j + 1) + 1) s3 hk
    have hkk : a - (j + 1) + 1 + 1 = a - j + 1 := by omega
    refine HdM.mk (lx a q ha hq (a - (j + 1) + 1) (by omega)) (ly a q ha hq 3 hi) (lx a q ha hq 0 (Nat.zero_le _)) (lm a q ha hq) (seg_to snd okB e ?_)
    rw [← hkk] at ih
    exact ih _ _ _ _ (lx a q ha hq (a - (j + 1) + 1) (by omega)) (ly a q ha hq 3 hi) (lx a q ha hq 0 (Nat.zero_le _)) (lm a q ha hq)
theorem ou3 (ha : a < 20) (hq : q < 20) (hi : 3 ≤ q) (nx : HM w0 a q pO to4 0 lo4) : HM w0 a q pO to3 0 lo3 := by
  letI : Lane := ln a q
  have h1 := in3 ha hq hi nx a (Nat.le_refl _)
  rw [Nat.sub_self] at h1
  have h0 : HM w0 a q pI ta3 0 la3 :=
    HdM.mk (lx a q ha hq 0 (Nat.zero_le _)) (ly a q ha hq 3 hi) (lx a q ha hq 0 (Nat.zero_le _)) (lm a q ha hq) (seg_to snd okB (allK_of (k := 0) s3 (by omega)) (h1 _ _ _ _ (lx a q ha hq 0 (Nat.zero_le _)) (ly a q ha hq 3 hi) (lx a q ha hq 0 (Nat.zero_le _)) (lm a q ha hq)))
  exact HdM.mk (lx a q ha hq 0 (Nat.zero_le _)) (ly a q ha hq 3 hi) (lx a q ha hq 0 (Nat.zero_le _)) (lm a q ha hq) (seg_to snd okB o3 (h0 _ _ _ _ (lx a q ha hq 0 (Nat.zero_le _)) (ly a q ha hq 3 hi) (lx a q ha hq 0 (Nat.zero_le _)) (lm a q ha hq)))
theorem in2 (ha : a < 20) (hq : q < 20) (hi : 2 ≤ q) (nx : HM w0 a q pO to3 0 lo3) : ∀ j, j ≤ a → HM w0 a q pI ti2 (a - j + 1) li2
  | 0, _ => by
    letI : Lane := ln a q
    exact HdM.mk (mn_n _) (ly a q ha hq 2 hi) (lx a q ha hq 0 (Nat.zero_le _)) (lm a q ha hq) (by
      have e := allK_of (k := a) e2 ha
      refine (dead_slots (c' := uU) (d' := uU) (by kernel_rfl)).symm ▸ ?_
      exact seg_to snd okB e (nx _ _ _ _ (mn_n _) (ly a q ha hq 2 hi) (mn_n _) (mn_n _)))
  | j + 1, hj => by
    letI : Lane := ln a q
    have ih := in2 ha hq hi nx j (by omega)
    have hk : a - (j + 1) + 1 < 20 := by omega
    have e := allK_of (k := a - (j + 1) + 1) s2 hk
    have hkk : a - (j + 1) + 1 + 1 = a - j + 1 := by omega
    refine HdM.mk (lx a q ha hq (a - (j + 1) + 1) (by omega)) (ly a q ha hq 2 hi) (lx a q ha hq 0 (Nat.zero_le _)) (lm a q ha hq) (seg_to snd okB e ?_)
    rw [← hkk] at ih
    exact ih _ _ _ _ (lx a q ha hq (a - (j + 1) + 1) (by omega)) (ly a q ha hq 2 hi) (lx a q ha hq 0 (Nat.zero_le _)) (lm a q ha hq)
theorem ou2 (ha : a < 20) (hq : q < 20) (hi : 2 ≤ q) (nx : HM w0 a q pO to3 0 lo3) : HM w0 a q pO to2 0 lo2 := by
  letI : Lane := ln a q
  have h1 := in2 ha hq hi nx a (Nat.le_refl _)
  rw [Nat.sub_self] at h1
  have h0 : HM w0 a q pI ta2 0 la2 :=
    HdM.mk (lx a q ha hq 0 (Nat.zero_le _)) (ly a q ha hq 2 hi) (lx a q ha hq 0 (Nat.zero_le _)) (lm a q ha hq) (seg_to snd okB (allK_of (k := 0) s2 (by omega)) (h1 _ _ _ _ (lx a q ha hq 0 (Nat.zero_le _)) (ly a q ha hq 2 hi) (lx a q ha hq 0 (Nat.zero_le _)) (lm a q ha hq)))
  exact HdM.mk (lx a q ha hq 0 (Nat.zero_le _)) (ly a q ha hq 2 hi) (lx a q ha hq 0 (Nat.zero_le _)) (lm a q ha hq) (seg_to snd okB o2 (h0 _ _ _ _ (lx a q ha hq 0 (Nat.zero_le _)) (ly a q ha hq 2 hi) (lx a q ha hq 0 (Nat.zero_le _)) (lm a q ha hq)))
theorem in1 (ha : a < 20) (hq : q < 20) (hi : 1 ≤ q) (nx : HM w0 a q pO to2 0 lo2) : ∀ j, j ≤ a → HM w0 a q pI ti1 (a - j + 1) li1
  | 0, _ => by
    letI : Lane := ln a q
    exact HdM.mk (mn_n _) (ly a q ha hq 1 hi) (lx a q ha hq 0 (Nat.zero_le _)) (lm a q ha hq) (by
      have e := allK_of (k := a) e1 ha
      refine (dead_slots (c' := uU) (d' := uU) (by kernel_rfl)).symm ▸ ?_
      exact seg_to snd okB e (nx _ _ _ _ (mn_n _) (ly a q ha hq 1 hi) (mn_n _) (mn_n _)))
  | j + 1, hj => by
    letI : Lane := ln a q
    have ih := in1 ha hq hi nx j (by omega)
    have hk : a - (j + 1) + 1 < 20 := by omega
    have e := allK_of (k := a - (j + 1) + 1) s1 hk
    have hkk : a - (j + 1) + 1 + 1 = a - j + 1 := by omega
    refine HdM.mk (lx a q ha hq (a - (j + 1) + 1) (by omega)) (ly a q ha hq 1 hi) (lx a q ha hq 0 (Nat.zero_le _)) (lm a q ha hq) (seg_to snd okB e ?_)
    rw [← hkk] at ih
    exact ih _ _ _ _ (lx a q ha hq (a - (j + 1) + 1) (by omega)) (ly a q ha hq 1 hi) (lx a q ha hq 0 (Nat.zero_le _)) (lm a q ha hq)
theorem ou1 (ha : a < 20) (hq : q < 20) (hi : 1 ≤ q) (nx : HM w0 a q pO to2 0 lo2) : HM w0 a q pO to1 0 lo1 := by
  letI : Lane := ln a q
  have h1 := in1 ha hq hi nx a (Nat.le_refl _)
  rw [Nat.sub_self] at h1
  have h0 : HM w0 a q pI ta1 0 la1 :=
    HdM.mk (lx a q ha hq 0 (Nat.zero_le _)) (ly a q ha hq 1 hi) (lx a q ha hq 0 (Nat.zero_le _)) (lm a q ha hq) (seg_to snd okB (allK_of (k := 0) s1 (by omega)) (h1 _ _ _ _ (lx a q ha hq 0 (Nat.zero_le _)) (ly a q ha hq 1 hi) (lx a q ha hq 0 (Nat.zero_le _)) (lm a q ha hq)))
  exact HdM.mk (lx a q ha hq 0 (Nat.zero_le _)) (ly a q ha hq 1 hi) (lx a q ha hq 0 (Nat.zero_le _)) (lm a q ha hq) (seg_to snd okB o1 (h0 _ _ _ _ (lx a q ha hq 0 (Nat.zero_le _)) (ly a q ha hq 1 hi) (lx a q ha hq 0 (Nat.zero_le _)) (lm a q ha hq)))
theorem in0 (ha : a < 20) (hq : q < 20) (hi : 0 ≤ q) (nx : HM w0 a q pO to1 0 lo1) : ∀ j, j ≤ a → HM w0 a q pI ti0 (a - j + 1) li0
  | 0, _ => by
    letI : Lane := ln a q
    exact HdM.mk (mn_n _) (ly a q ha hq 0 hi) (lx a q ha hq 0 (Nat.zero_le _)) (lm a q ha hq) (by
      have e := allK_of (k := a) e0 ha
      refine (dead_slots (c' := uU) (d' := uU) (by kernel_rfl)).symm ▸ ?_
      exact seg_to snd okB e (nx _ _ _ _ (mn_n _) (ly a q ha hq 0 hi) (mn_n _) (mn_n _)))
  | j + 1, hj => by
    letI : Lane := ln a q
    have ih := in0 ha hq hi nx j (by omega)
    have hk : a - (j + 1) + 1 < 20 := by omega
    have e := allK_of (k := a - (j + 1) + 1) s0 hk
    have hkk : a - (j + 1) + 1 + 1 = a - j + 1 := by omega
    refine HdM.mk (lx a q ha hq (a - (j + 1) + 1) (by omega)) (ly a q ha hq 0 hi) (lx a q ha hq 0 (Nat.zero_le _)) (lm a q ha hq) (seg_to snd okB e ?_)
    rw [← hkk] at ih
    exact ih _ _ _ _ (lx a q ha hq (a - (j + 1) + 1) (by omega)) (ly a q ha hq 0 hi) (lx a q ha hq 0 (Nat.zero_le _)) (lm a q ha hq)
theorem ou0 (ha : a < 20) (hq : q < 20) (hi : 0 ≤ q) (nx : HM w0 a q pO to1 0 lo1) : HM w0 a q pO to0 0 lo0 := by
  letI : Lane := ln a q
  have h1 := in0 ha hq hi nx a (Nat.le_refl _)
  rw [Nat.sub_self] at h1
  have h0 : HM w0 a q pI ta0 0 la0 :=
    HdM.mk (lx a q ha hq 0 (Nat.zero_le _)) (ly a q ha hq 0 hi) (lx a q ha hq 0 (Nat.zero_le _)) (lm a q ha hq) (seg_to snd okB (allK_of (k := 0) s0 (by omega)) (h1 _ _ _ _ (lx a q ha hq 0 (Nat.zero_le _)) (ly a q ha hq 0 hi) (lx a q ha hq 0 (Nat.zero_le _)) (lm a q ha hq)))
  exact HdM.mk (lx a q ha hq 0 (Nat.zero_le _)) (ly a q ha hq 0 hi) (lx a q ha hq 0 (Nat.zero_le _)) (lm a q ha hq) (seg_to snd okB o0 (h0 _ _ _ _ (lx a q ha hq 0 (Nat.zero_le _)) (ly a q ha hq 0 hi) (lx a q ha hq 0 (Nat.zero_le _)) (lm a q ha hq)))
theorem en20 (ha : a < 20) (hq : q < 20) (hi : q + 1 = 20) : HM w0 a q pO to20 0 lo20 := by
  letI : Lane := ln a q
  exact HdM.mk (lx a q ha hq 0 (Nat.zero_le _)) (by rw [hi]; exact mn_n _) (lx a q ha hq 0 (Nat.zero_le _)) (lm a q ha hq) (seg_end snd okB f20)
theorem en19 (ha : a < 20) (hq : q < 20) (hi : q + 1 = 19) : HM w0 a q pO to19 0 lo19 := by
  letI : Lane := ln a q
  exact HdM.mk (lx a q ha hq 0 (Nat.zero_le _)) (by rw [hi]; exact mn_n _) (lx a q ha hq 0 (Nat.zero_le _)) (lm a q ha hq) (seg_end snd okB f19)
theorem en18 (ha : a < 20) (hq : q < 20) (hi : q + 1 = 18) : HM w0 a q pO to18 0 lo18 := by
  letI : Lane := ln a q
  exact HdM.mk (lx a q ha hq 0 (Nat.zero_le _)) (by rw [hi]; exact mn_n _) (lx a q ha hq 0 (Nat.zero_le _)) (lm a q ha hq) (seg_end snd okB f18)
theorem en17 (ha : a < 20) (hq : q < 20) (hi : q + 1 = 17) : HM w0 a q pO to17 0 lo17 := by
  letI : Lane := ln a q
  exact HdM.mk (lx a q ha hq 0 (Nat.zero_le _)) (by rw [hi]; exact mn_n _) (lx a q ha hq 0 (Nat.zero_le _)) (lm a q ha hq) (seg_end snd okB f17)
theorem en16 (ha : a < 20) (hq : q < 20) (hi : q + 1 = 16) : HM w0 a q pO to16 0 lo16 := by
  letI : Lane := ln a q
  exact HdM.mk (lx a q ha hq 0 (Nat.zero_le _)) (by rw [hi]; exact mn_n _) (lx a q ha hq 0 (Nat.zero_le _)) (lm a q ha hq) (seg_end snd okB f16)
theorem en15 (ha : a < 20) (hq : q < 20) (hi : q + 1 = 15) : HM w0 a q pO to15 0 lo15 := by
  letI : Lane := ln a q
  exact HdM.mk (lx a q ha hq 0 (Nat.zero_le _)) (by rw [hi]; exact mn_n _) (lx a q ha hq 0 (Nat.zero_le _)) (lm a q ha hq) (seg_end snd okB f15)
theorem en14 (ha : a < 20) (hq : q < 20) (hi : q + 1 = 14) : HM w0 a q pO to14 0 lo14 := by
  letI : Lane := ln a q
  exact HdM.mk (lx a q ha hq 0 (Nat.zero_le _)) (by rw [hi]; exact mn_n _) (lx a q ha hq 0 (Nat.zero_le _)) (lm a q ha hq) (seg_end snd okB f14)
theorem en13 (ha : a < 20) (hq : q < 20) (hi : q + 1 = 13) : HM w0 a q pO to13 0 lo13 := by
  letI : Lane := ln a q
  exact HdM.mk (lx a q ha hq 0 (Nat.zero_le _)) (by rw [hi]; exact mn_n _) (lx a q ha hq 0 (Nat.zero_le _)) (lm a q ha hq) (seg_end snd okB f13)
theorem en12 (ha : a < 20) (hq : q < 20) (hi : q + 1 = 12) : HM w0 a q pO to12 0 lo12 := by
  letI : Lane := ln a q
  exact HdM.mk (lx a q ha hq 0 (Nat.zero_le _)) (by rw [hi]; exact mn_n _) (lx a q ha hq 0 (Nat.zero_le _)) (lm a q ha hq) (seg_end snd okB f12)
theorem en11 (ha : a < 20) (hq : q < 20) (hi : q + 1 = 11) : HM w0 a q pO to11 0 lo11 := by
  letI : Lane := ln a q
  exact HdM.mk (lx a q ha hq 0 (Nat.zero_le _)) (by rw [hi]; exact mn_n _) (lx a q ha hq 0 (Nat.zero_le _)) (lm a q ha hq) (seg_end snd okB f11)
theorem en10 (ha : a < 20) (hq : q < 20) (hi : q + 1 = 10) : HM w0 a q pO to10 0 lo10 := by
  letI : Lane := ln a q
  exact HdM.mk (lx a q ha hq 0 (Nat.zero_le _)) (by rw [hi]; exact mn_n _) (lx a q ha hq 0 (Nat.zero_le _)) (lm a q ha hq) (seg_end snd okB f10)
theorem en9 (ha : a < 20) (hq : q < 20) (hi : q + 1 = 9) : HM w0 a q pO to9 0 lo9 := by
  letI : Lane := ln a q
  exact HdM.mk (lx a q ha hq 0 (Nat.zero_le _)) (by rw [hi]; exact mn_n _) (lx a q ha hq 0 (Nat.zero_le _)) (lm a q ha hq) (seg_end snd okB f9)
theorem en8 (ha : a < 20) (hq : q < 20) (hi : q + 1 = 8) : HM w0 a q pO to8 0 lo8 := by
  letI : Lane := ln a q
  exact HdM.mk (lx a q ha hq 0 (Nat.zero_le _)) (by rw [hi]; exact mn_n _) (lx a q ha hq 0 (Nat.zero_le _)) (lm a q ha hq) (seg_end snd okB f8)
theorem en7 (ha : a < 20) (hq : q < 20) (hi : q + 1 = 7) : HM w0 a q pO to7 0 lo7 := by
  letI : Lane := ln a q
  exact HdM.mk (lx a q ha hq 0 (Nat.zero_le _)) (by rw [hi]; exact mn_n _) (lx a q ha hq 0 (Nat.zero_le _)) (lm a q ha hq) (seg_end snd okB f7)
theorem en6 (ha : a < 20) (hq : q < 20) (hi : q + 1 = 6) : HM w0 a q pO to6 0 lo6 := by
  letI : Lane := ln a q
  exact HdM.mk (lx a q ha hq 0 (Nat.zero_le _)) (by rw [hi]; exact mn_n _) (lx a q ha hq 0 (Nat.zero_le _)) (lm a q ha hq) (seg_end snd okB f6)
theorem en5 (ha : a < 20) (hq : q < 20) (hi : q + 1 = 5) : HM w0 a q pO to5 0 lo5 := by
  letI : Lane := ln a q
  exact HdM.mk (lx a q ha hq 0 (Nat.zero_le _)) (by rw [hi]; exact mn_n _) (lx a q ha hq 0 (Nat.zero_le _)) (lm a q ha hq) (seg_end snd okB f5)
theorem en4 (ha : a < 20) (hq : q < 20) (hi : q + 1 = 4) : HM w0 a q pO to4 0 lo4 := by
  letI : Lane := ln a q
  exact HdM.mk (lx a q ha hq 0 (Nat.zero_le _)) (by rw [hi]; exact mn_n _) (lx a q ha hq 0 (Nat.zero_le _)) (lm a q ha hq) (seg_end snd okB f4)
theorem en3 (ha : a < 20) (hq : q < 20) (hi : q + 1 = 3) : HM w0 a q pO to3 0 lo3 := by
  letI : Lane := ln a q
  exact HdM.mk (lx a q ha hq 0 (Nat.zero_le _)) (by rw [hi]; exact mn_n _) (lx a q ha hq 0 (Nat.zero_le _)) (lm a q ha hq) (seg_end snd okB f3)
theorem en2 (ha : a < 20) (hq : q < 20) (hi : q + 1 = 2) : HM w0 a q pO to2 0 lo2 := by
  letI : Lane := ln a q
  exact HdM.mk (lx a q ha hq 0 (Nat.zero_le _)) (by rw [hi]; exact mn_n _) (lx a q ha hq 0 (Nat.zero_le _)) (lm a q ha hq) (seg_end snd okB f2)
theorem en1 (ha : a < 20) (hq : q < 20) (hi : q + 1 = 1) : HM w0 a q pO to1 0 lo1 := by
  letI : Lane := ln a q
  exact HdM.mk (lx a q ha hq 0 (Nat.zero_le _)) (by rw [hi]; exact mn_n _) (lx a q ha hq 0 (Nat.zero_le _)) (lm a q ha hq) (seg_end snd okB f1)
theorem at20 (ha : a < 20) (hq : q < 20) (hi : 20 ≤ q + 1) : HM w0 a q pO to20 0 lo20 := en20 ha hq (by omega)
theorem at19 (ha : a < 20) (hq : q < 20) (hi : 19 ≤ q + 1) : HM w0 a q pO to19 0 lo19 := by
  by_cases e : q + 1 = 19
  · exact en19 ha hq e
  · exact ou19 ha hq (by omega) (at20 ha hq (by omega))
theorem at18 (ha : a < 20) (hq : q < 20) (hi : 18 ≤ q + 1) : HM w0 a q pO to18 0 lo18 := by
  by_cases e : q + 1 = 18
  · exact en18 ha hq e
  · exact ou18 ha hq (by omega) (at19 ha hq (by omega))
theorem at17 (ha : a < 20) (hq : q < 20) (hi : 17 ≤ q + 1) : HM w0 a q pO to17 0 lo17 := by
  by_cases e : q + 1 = 17
  · exact en17 ha hq e
  · exact ou17 ha hq (by omega) (at18 ha hq (by omega))
theorem at16 (ha : a < 20) (hq : q < 20) (hi : 16 ≤ q + 1) : HM w0 a q pO to16 0 lo16 := by
  by_cases e : q + 1 = 16
  · exact en16 ha hq e
  · exact ou16 ha hq (by omega) (at17 ha hq (by omega))
theorem at15 (ha : a < 20) (hq : q < 20) (hi : 15 ≤ q + 1) : HM w0 a q pO to15 0 lo15 := by
  by_cases e : q + 1 = 15
  · exact en15 ha hq e
  · exact ou15 ha hq (by omega) (at16 ha hq (by omega))
theorem at14 (ha : a < 20) (hq : q < 20) (hi : 14 ≤ q + 1) : HM w0 a q pO to14 0 lo14 := by
  by_cases e : q + 1 = 14
  · exact en14 ha hq e
  · exact ou14 ha hq (by omega) (at15 ha hq (by omega))
theorem at13 (ha : a < 20) (hq : q < 20) (hi : 13 ≤ q + 1) : HM w0 a q pO to13 0 lo13 := by
  by_cases e : q + 1 = 13
  · exact en13 ha hq e
  · exact ou13 ha hq (by omega) (at14 ha hq (by omega))
theorem at12 (ha : a < 20) (hq : q < 20) (hi : 12 ≤ q + 1) : HM w0 a q pO to12 0 lo12 := by
  by_cases e : q + 1 = 12
  · exact en12 ha hq e
  · exact ou12 ha hq (by omega) (at13 ha hq (by omega))
theorem at11 (ha : a < 20) (hq : q < 20) (hi : 11 ≤ q + 1) : HM w0 a q pO to11 0 lo11 := by
  by_cases e : q + 1 = 11
  · exact en11 ha hq e
  · exact ou11 ha hq (by omega) (at12 ha hq (by omega))
theorem at10 (ha : a < 20) (hq : q < 20) (hi : 10 ≤ q + 1) : HM w0 a q pO to10 0 lo10 := by
  by_cases e : q + 1 = 10
  · exact en10 ha hq e
  · exact ou10 ha hq (by omega) (at11 ha hq (by omega))
theorem at9 (ha : a < 20) (hq : q < 20) (hi : 9 ≤ q + 1) : HM w0 a q pO to9 0 lo9 := by
  by_cases e : q + 1 = 9
  · exact en9 ha hq e
  · exact ou9 ha hq (by omega) (at10 ha hq (by omega))
theorem at8 (ha : a < 20) (hq : q < 20) (hi : 8 ≤ q + 1) : HM w0 a q pO to8 0 lo8 := by
  by_cases e : q + 1 = 8
  · exact en8 ha hq e
  · exact ou8 ha hq (by omega) (at9 ha hq (by omega))
theorem at7 (ha : a < 20) (hq : q < 20) (hi : 7 ≤ q + 1) : HM w0 a q pO to7 0 lo7 := by
  by_cases e : q + 1 = 7
  · exact en7 ha hq e
  · exact ou7 ha hq (by omega) (at8 ha hq (by omega))
theorem at6 (ha : a < 20) (hq : q < 20) (hi : 6 ≤ q + 1) : HM w0 a q pO to6 0 lo6 := by
  by_cases e : q + 1 = 6
  · exact en6 ha hq e
  · exact ou6 ha hq (by omega) (at7 ha hq (by omega))
theorem at5 (ha : a < 20) (hq : q < 20) (hi : 5 ≤ q + 1) : HM w0 a q pO to5 0 lo5 := by
  by_cases e : q + 1 = 5
  · exact en5 ha hq e
  · exact ou5 ha hq (by omega) (at6 ha hq (by omega))
theorem at4 (ha : a < 20) (hq : q < 20) (hi : 4 ≤ q + 1) : HM w0 a q pO to4 0 lo4 := by
  by_cases e : q + 1 = 4
  · exact en4 ha hq e
  · exact ou4 ha hq (by omega) (at5 ha hq (by omega))
theorem at3 (ha : a < 20) (hq : q < 20) (hi : 3 ≤ q + 1) : HM w0 a q pO to3 0 lo3 := by
  by_cases e : q + 1 = 3
  · exact en3 ha hq e
  · exact ou3 ha hq (by omega) (at4 ha hq (by omega))
theorem at2 (ha : a < 20) (hq : q < 20) (hi : 2 ≤ q + 1) : HM w0 a q pO to2 0 lo2 := by
  by_cases e : q + 1 = 2
  · exact en2 ha hq e
  · exact ou2 ha hq (by omega) (at3 ha hq (by omega))
theorem at1 (ha : a < 20) (hq : q < 20) (hi : 1 ≤ q + 1) : HM w0 a q pO to1 0 lo1 := by
  by_cases e : q + 1 = 1
  · exact en1 ha hq e
  · exact ou1 ha hq (by omega) (at2 ha hq (by omega))
theorem at0 (ha : a < 20) (hq : q < 20) : HM w0 a q pO to0 0 lo0 := ou0 ha hq (Nat.zero_le _) (at1 ha hq (by omega))
end
theorem top [Lane] : atHead Tryz.prog.globals.size Tryz.f3.ntmps pO (subL (slot (LX 0) (LY 0) (LX 0) LM 0) to0) lo0 (sgo Tryz.prog ih 2 1000 body [] [] ⟨putL [LX 0, LY 0] .nil 0, []⟩ ⟨Tryz.prog.globals.size, .nil, none⟩) = true := by kernel_rfl
theorem callsIn (a q : Nat) (ha : a < 20) (hq : q < 20) (W : World) : Calls Tryz.prog 3 #[.int .i64 (.ofNat (a + 1)), .int .i64 (.ofNat (q + 1))] W (Fin0 W) := by
  letI : Lane := ln a q
  have hw : WR Tryz.prog (fun _ => none) ⟨Tryz.prog.globals.size, .nil, none⟩ W :=
    ⟨fun _ _ h => (by cases h), fun _ _ h => (by cases h), fun _ _ _ _ h => (by cases h), fun i hi => absurd (Tr.get_nil i) hi, fun _ _ _ h => (by cases h), Nat.le_refl _, fun _ _ h => (by cases h)⟩
  exact seg_top snd (body := body) ((fnc_eq _ _).trans Tryz.func3) (by kernel_rfl) okB (of_decide_eq_true (by kernel_rfl)) (.cons ((lx a q ha hq 0 (Nat.zero_le _) _ _).2 rfl) (.cons ((ly a q ha hq 0 (Nat.zero_le _) _ _).2 rfl) .nil)) hw top
    (at0 (w0 := W) ha hq _ _ _ _ (lx a q ha hq 0 (Nat.zero_le _)) (ly a q ha hq 0 (Nat.zero_le _)) (lx a q ha hq 0 (Nat.zero_le _)) (lm a q ha hq))
end Go.Proofs.YtljmgfddeplamaaGreatDoor.filesReads
