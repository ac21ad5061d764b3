/- An evaluator for the program's own code: pieces apart from the rest of the memory and from its numbers: they hold. (text 26) -/
import Derived.Test.YtghdjomjcododaaGreatDoorEv25
set_option linter.unusedVariables false
set_option linter.unusedSimpArgs false
namespace Go.YtghdjomjcododaaGreatDoorEv
open Go Go.RowKit
set_option linter.unusedSectionVars false
variable [Lane]

theorem pw_inj {f : Nat → Option Nat} : ∀ {L : List (Nat × LB)}, L.Pairwise (fun x y => f x.1 ≠ f y.1) → ∀ x ∈ L, ∀ y ∈ L, f x.1 = f y.1 → x = y
  | [], _, x, hx, _, _, _ => by simp at hx
  | a :: L, h, x, hx, y, hy, e => by
    obtain ⟨h1, h2⟩ := List.pairwise_cons.1 h
    rcases List.mem_cons.1 hx with ex | hx <;> rcases List.mem_cons.1 hy with ey | hy
    · rw [ex, ey]
    · exact absurd (by rw [← ex]; exact e) (h1 y hy)
    · exact absurd (by rw [← ey]; exact e.symm) (h1 x hx)
    · exact pw_inj h2 x hx y hy e
theorem LB.blk_live (x : LB) : x.blk ≠ .dead := by cases x <;> (intro e; cases e)
section
variable {P : Program}
/-- A piece, from what is known of the call wherever its memory is a part: whatever that was proved by. -/
theorem orcFr_of {Gh : Option Gl} {f0 : Nat} {args0 : List SV} {F : FD} {v0 : SV} (hF : F.ok P.globals.size = true)
    (hI : ∀ (g : Option (World × Gl)), (∃ W : World, g = Gh.map fun g => (W, g)) → ∃ σ2 : St, F.K.inn σ2 = true ∧ ∀ (m : Mp) (w : World) (args' : Array Value), VRs m args0 args'.toList → WR P m (F.A.st g) w → Calls P f0 args' w (CallOk P m (F.A.st g) w v0 σ2)) :
    OrcOk P (orcFr P.globals.size Gh f0 args0 F v0) := by
  intro m σ w f args args' v1 σ1 hw hl h
  unfold orcFr at h
  split at h
  case h_2 => cases h
  rename_i ρ0 hf hargs
  have hf := Nat.eq_of_beq_eq_true hf
  subst hf
  split at h
  case h_2 => cases h
  rename_i ρ hbs hgh
  have h : some (rnV (rnN P.globals.size F.n0 σ.next ρ) v0, (⟨F.n1 - F.n0 + σ.next, layA (rnN P.globals.size F.n0 σ.next ρ) F.ch (killA (rnN P.globals.size F.n0 σ.next ρ) F.dd σ.heap), σ.gh⟩ : St)) = some (v1, σ1) := h
  obtain ⟨rfl, rfl⟩ := Prod.mk.inj (Option.some.inj h)
  clear h
  obtain ⟨W, hW⟩ : ∃ W, σ.gh = Gh.map fun g => (W, g) := by
    cases Gh with
    | none =>
      cases hg : σ.gh with
      | none => exact ⟨default, rfl⟩
      | some p => rw [hg] at hgh; simp [ghEq] at hgh
    | some g =>
      cases hg : σ.gh with
      | none => rw [hg] at hgh; simp [ghEq] at hgh
      | some p =>
        rw [hg] at hgh
        simp only [ghEq, Bool.and_eq_true] at hgh
        obtain ⟨W0, ⟨i1, t1⟩⟩ := p
        obtain ⟨i2, t2⟩ := g
        have e1 := numsEq_sound hgh.1
        have e2 := tabsEq_sound hgh.2
        simp only at e1 e2
        subst e1 e2
        exact ⟨W0, rfl⟩
  obtain ⟨σ2, hK, hcall⟩ := hI σ.gh ⟨W, hW⟩
  generalize hG : P.globals.size = G at *
  simp only [FD.ok, Bool.and_eq_true, List.all_eq_true, Bool.or_eq_true] at hF
  obtain ⟨⟨hFG, hch⟩, hdd⟩ := hF
  have hFG : G ≤ F.n0 := Nat.le_of_ble_eq_true hFG
  obtain ⟨a1, a2, a3⟩ := mtL_ok hargs
  obtain ⟨b1, b2, b3⟩ := mtBs_ok hbs
  have hD0 : InD G F.n0 .nil := fun a k ha => by
    unfold lk at ha
    split at ha
    · rename_i e; have : a < G := Nat.le_of_ble_eq_true e; omega
    · rw [Tr.get_nil] at ha; cases ha
  have hD := b2 (a2 hD0)
  obtain ⟨hx, hpw⟩ := b3 ρ .refl hD
  have hargs0 := (a3 ρ b1 hD).1 m _ hl
  have img : ∀ b y, fnd b F.L = some y → ∃ k, lk G ρ b = some k ∧ b < F.n0 ∧ XR G F.n0 ρ y (σ.get k) := fun b y h => by
    obtain ⟨k, e1, e2, -, e4⟩ := hx _ (fnd_mem h); exact ⟨k, e1, e2, e4⟩
  have inj : ∀ b b' y y', fnd b F.L = some y → fnd b' F.L = some y' → lk G ρ b = lk G ρ b' → b = b' := fun b b' y y' h1 h2 e => by
    have := pw_inj hpw _ (fnd_mem h1) _ (fnd_mem h2) e
    exact congrArg Prod.fst this
  have hAget : ∀ i, (F.A.st σ.gh).get i = match fnd i F.L with | some x => x.blk | none => .dead := fun i => heapOf_fnd
  have hAlive : ∀ i, (F.A.st σ.gh).get i ≠ .dead → ∃ y, fnd i F.L = some y := fun i hi => by
    rw [hAget] at hi
    cases hy : fnd i F.L with
    | none => rw [hy] at hi; exact absurd rfl hi
    | some y => exact ⟨y, rfl⟩
  have hlkg : ∀ g, g < G → lk G ρ g = some g := fun g hg => by
    have : Nat.blt g G = true := Nat.ble_eq_true_of_le hg
    simp only [lk, this]
  have hw0 : WR P (m0of G F.n0 ρ m) (F.A.st σ.gh) w := by
    refine ⟨fun i im hi => ?_, fun i im hi => ?_, fun i j im jm hi hj di dj e => ?_, fun i hi => ?_, fun g im hg hi => ?_, by rw [hG]; exact hFG, fun W0 L hW => ?_⟩
    · obtain ⟨h1, k, h2, h3⟩ := m0of_inv hi; exact ⟨h1, (hw.dom _ _ h3).2⟩
    · obtain ⟨h1, k, h2, h3⟩ := m0of_inv hi
      rw [hAget]
      cases hy : fnd i F.L with
      | none => exact .dead
      | some y =>
        obtain ⟨k', e1, e2, e3⟩ := img i y hy
        rw [h2] at e1; cases e1
        exact e3.2.1 m im _ (hw.blk _ _ h3)
    · obtain ⟨y, hy⟩ := hAlive i di
      obtain ⟨z, hz⟩ := hAlive j dj
      obtain ⟨-, k, h2, h3⟩ := m0of_inv hi
      obtain ⟨-, k', h2', h3'⟩ := m0of_inv hj
      obtain ⟨_, e1, _, e3⟩ := img i y hy
      rw [h2] at e1; cases e1
      obtain ⟨_, e1', _, e3'⟩ := img j z hz
      rw [h2'] at e1'; cases e1'
      have := hw.inj k k' im jm h3 h3' e3.1 e3'.1 e
      subst this
      exact inj i j y z hy hz (h2.trans h2'.symm)
    · obtain ⟨y, hy⟩ := hAlive i hi
      obtain ⟨k, e1, e2, e3⟩ := img i y hy
      obtain ⟨im, him⟩ := hw.live k e3.1
      exact ⟨im, m0of_some e2 e1 him⟩
    · rw [hG] at hg
      obtain ⟨_, k, h2, h3⟩ := m0of_inv hi
      rw [hlkg g hg] at h2; cases h2
      exact hw.glob _ _ (by rw [hG]; exact hg) h3
    · obtain ⟨i1, i2, i3, i4⟩ := hw.inv W0 L hW
      refine ⟨i1, i2, fun i im hi => ?_, i4⟩
      obtain ⟨_, k, _, h3⟩ := m0of_inv hi
      exact i3 _ _ h3
  refine (hcall _ w args' hargs0 hw0).mono fun e w' he => ?_
  obtain ⟨m1, v', rfl, hv, hp⟩ := he
  have hwK : WR P m1 (F.K.st σ2.gh) w' := hp.wr.lit hK
  have hn1 : F.n1 = σ2.next := LMem.inn_next hK
  have hn01 : F.n0 ≤ F.n1 := by rw [hn1]; exact hp.next
  have hKb : blksIn σ2 F.K.blks = true := by simp only [LMem.inn, Bool.and_eq_true] at hK; exact hK.2
  have hKlive : ∀ i, (F.K.st σ2.gh).get i ≠ .dead → σ2.get i ≠ .dead := fun i hi => by
    rcases heapOf_get hKb i with h | ⟨x, hx, _⟩
    · exact absurd h hi
    · exact lbEq_live hx
  generalize hR : rnN G F.n0 σ.next ρ = R at *
  have R_old : ∀ b k, b < F.n0 → lk G ρ b = some k → R b = k := fun b k h1 h2 => by
    have : Nat.blt b F.n0 = true := Nat.ble_eq_true_of_le h1
    rw [← hR]; simp only [rnN, this, h2]
  have R_new : ∀ b, F.n0 ≤ b → R b = b - F.n0 + σ.next := fun b h1 => by
    have : Nat.blt b F.n0 = false := Bool.eq_false_iff.2 fun h => by have : b < F.n0 := Nat.le_of_ble_eq_true h; omega
    rw [← hR]; simp only [rnN, this]
  obtain ⟨m', hm'⟩ : ∃ m' : Mp, ∀ i, m' i = if i < σ.next then m i else m1 (i - σ.next + F.n0) := ⟨_, fun _ => rfl⟩
  have hT : ∀ b im, m1 b = some im → m' (R b) = some im := fun b im hb => by
    rcases Nat.lt_or_ge b F.n0 with hlt | hge
    · cases h0 : m0of G F.n0 ρ m b with
      | none => have := (hp.ext.new b im hb h0).1; have : F.n0 ≤ b := this; omega
      | some im0 =>
        have h1 := hp.ext.le _ _ h0
        rw [hb] at h1; cases h1
        obtain ⟨_, k, h2, h3⟩ := m0of_inv h0
        rw [R_old b k hlt h2, hm', if_pos (hw.dom _ _ h3).1]
        exact h3
    · rw [R_new b hge, hm', if_neg (by omega)]
      have : b - F.n0 + σ.next - σ.next + F.n0 = b := by omega
      rw [this]; exact hb
  have himg : ∀ b y, fnd b F.L = some y → R b < σ.next ∧ XR G F.n0 ρ y (σ.get (R b)) ∧ ∃ im, m (R b) = some im ∧ m0of G F.n0 ρ m b = some im := fun b y hy => by
    obtain ⟨k, e1, e2, e3⟩ := img b y hy
    obtain ⟨im, him⟩ := hw.live k e3.1
    rw [R_old b k e2 e1]
    exact ⟨(hw.dom _ _ him).1, e3, im, him, m0of_some e2 e1 him⟩
  have Rinj : ∀ b b', (F.n0 ≤ b ∨ ∃ y, fnd b F.L = some y) → (F.n0 ≤ b' ∨ ∃ y, fnd b' F.L = some y) → R b = R b' → b = b' := by
    intro b b' h1 h2 e
    rcases h1 with h1 | ⟨y, hy⟩ <;> rcases h2 with h2 | ⟨z, hz⟩
    · rw [R_new b h1, R_new b' h2] at e; omega
    · have := (himg b' z hz).1; rw [← e, R_new b h1] at this; omega
    · have := (himg b y hy).1; rw [e, R_new b' h2] at this; omega
    · obtain ⟨k, e1, e2, e3⟩ := img b y hy
      obtain ⟨k', e1', e2', e3'⟩ := img b' z hz
      rw [R_old b k e2 e1, R_old b' k' e2' e1'] at e
      exact inj b b' y z hy hz (by rw [e1, e1', e])
  have chD : ∀ x ∈ F.ch, F.n0 ≤ x.1 ∨ ∃ y, fnd x.1 F.L = some y := fun x hx => by
    rcases hch x hx with h | h
    · exact .inl (Nat.le_of_ble_eq_true h)
    · rw [hasK_eq] at h; exact .inr (Option.isSome_iff_exists.1 h)
  have ddD : ∀ b ∈ F.dd, F.n0 ≤ b ∨ ∃ y, fnd b F.L = some y := fun b hb => by
    have h := hdd b hb
    rw [hasK_eq] at h; exact .inr (Option.isSome_iff_exists.1 h)
  generalize hσ1 : (⟨F.n1 - F.n0 + σ.next, layA R F.ch (killA R F.dd σ.heap), σ.gh⟩ : St) = σ1
  have s_next : σ1.next = F.n1 - F.n0 + σ.next := by rw [← hσ1]
  have s_gh : σ1.gh = σ.gh := by rw [← hσ1]
  have s_get : ∀ i, σ1.get i = (layA R F.ch (killA R F.dd σ.heap)).get .dead i := fun i => by rw [← hσ1]; rfl
  have s_new : ∀ i, σ.next ≤ i → σ.get i = .dead := fun i hi => by
    by_cases hd : σ.get i = .dead
    · exact hd
    · obtain ⟨im, him⟩ := hw.live i hd
      have := (hw.dom _ _ him).1; omega
  -- what stands at the piece's numbers
  have cI : ∀ b, (F.n0 ≤ b ∨ ∃ y, fnd b F.L = some y) → (σ1.get (R b) ≠ .dead → (F.K.st σ2.gh).get b ≠ .dead) ∧ ∀ im o, BR m1 im ((F.K.st σ2.gh).get b) o → BR m' im (σ1.get (R b)) o := by
    intro b hb
    have e1 : (F.K.st σ2.gh).get b = match fnd b F.K.blks with | some x => x.blk | none => .dead := heapOf_fnd
    have e2 : fnd b F.K.blks = match fnd b F.ch with | some x => some x | none => if hasK b F.ch || hasN b F.dd then none else fnd b F.L := by
      show fnd b (F.ch ++ keepL F.ch F.dd F.L) = _
      rw [fnd_append, fnd_keep]
      cases fnd b F.ch <;> rfl
    have e3 : σ1.get (R b) = match fnd b F.ch with | some x => rnX R x | none => (killA R F.dd σ.heap).get .dead (R b) := by
      rw [s_get]
      exact layA_fnd fun x hx e => Rinj _ _ (chD x hx) hb e
    rw [e1, e2, e3]
    cases hc : fnd b F.ch with
    | some x => exact ⟨fun _ => x.blk_live, fun im o h => rnX_ok hT h⟩
    | none =>
      have hk : hasK b F.ch = false := by rw [hasK_eq, hc]; rfl
      simp only [hk, Bool.false_or]
      cases hd : hasN b F.dd with
      | true =>
        rw [killA_in hd]
        exact ⟨fun h => absurd rfl h, fun im o _ => .dead⟩
      | false =>
        have e4 : (killA R F.dd σ.heap).get .dead (R b) = σ.get (R b) := killA_other fun b' hb' e => by
          have := Rinj _ _ (ddD b' hb') hb e
          subst this
          rw [hasN_mem hb'] at hd; cases hd
        rw [e4]
        simp only [Bool.false_eq_true, if_false]
        cases hy : fnd b F.L with
        | some y =>
          obtain ⟨-, hxr, -⟩ := himg b y hy
          exact ⟨fun _ => y.blk_live, fun im o h => hxr.2.2 m' im o σ.next (by rw [hR]; exact rnX_ok hT h)⟩
        | none =>
          rcases hb with hb | ⟨y, hy'⟩
          · rw [R_new b hb, s_new _ (by omega)]
            exact ⟨fun h => absurd rfl h, fun im o _ => .dead⟩
          · rw [hy] at hy'; cases hy'
  have cII : ∀ i, (∀ b, (F.n0 ≤ b ∨ ∃ y, fnd b F.L = some y) → R b ≠ i) → σ1.get i = σ.get i := fun i hi => by
    rw [s_get, layA_other fun x hx => hi _ (chD x hx), killA_other fun b hb => hi _ (ddD b hb)]
    rfl
  have hle : Mle m m' := fun i im hi => by rw [hm', if_pos (hw.dom _ _ hi).1]; exact hi
  -- alive at the piece's numbers
  have lI : ∀ b im, (F.n0 ≤ b ∨ ∃ y, fnd b F.L = some y) → m' (R b) = some im → σ1.get (R b) ≠ .dead → (F.K.st σ2.gh).get b ≠ .dead ∧ m1 b = some im := fun b im hb hm hd => by
    have h1 := (cI b hb).1 hd
    obtain ⟨im1, h2⟩ := hwK.live b h1
    have := hT _ _ h2
    rw [hm] at this; cases this
    exact ⟨h1, h2⟩
  have lII : ∀ i im, σ1.get i = σ.get i → m' i = some im → σ1.get i ≠ .dead → σ.get i ≠ .dead ∧ m i = some im := fun i im e hm hd => by
    rw [e] at hd
    obtain ⟨im1, h1⟩ := hw.live i hd
    have := hle _ _ h1
    rw [hm] at this; cases this
    exact ⟨hd, h1⟩
  -- a piece's block and another one are not one
  have apart : ∀ b j im jm, (F.n0 ≤ b ∨ ∃ y, fnd b F.L = some y) → (F.K.st σ2.gh).get b ≠ .dead → m1 b = some im → (∀ b, (F.n0 ≤ b ∨ ∃ y, fnd b F.L = some y) → R b ≠ j) → σ.get j ≠ .dead → m j = some jm → im.blk ≠ jm.blk := by
    intro b j im jm hb hd h1 hj hdj hmj e
    cases h0 : m0of G F.n0 ρ m b with
    | some im0 =>
      have := hp.ext.le _ _ h0
      rw [h1] at this; cases this
      have hdA := hp.live b im h0 (hKlive b hd)
      obtain ⟨y, hy⟩ := hAlive b hdA
      obtain ⟨_, hxr, im2, h2, h3⟩ := himg b y hy
      rw [h0] at h3; cases h3
      exact hj b (.inr ⟨y, hy⟩) (hw.inj _ _ _ _ h2 hmj hxr.1 hdj e)
    | none =>
      rcases (hp.ext.new b im h1 h0).2 with h2 | ⟨jj, jm2, h2, h3, h4⟩
      · have := (hw.dom _ _ hmj).2; omega
      · obtain ⟨y, hy⟩ := hAlive jj h3
        obtain ⟨_, hxr, im2, h5, h6⟩ := himg jj y hy
        rw [h2] at h6; cases h6
        exact hj jj (.inr ⟨y, hy⟩) (hw.inj _ _ _ _ h5 hmj hxr.1 hdj (h4.trans e))
  have cls : ∀ i, (∃ b, (F.n0 ≤ b ∨ ∃ y, fnd b F.L = some y) ∧ R b = i) ∨ ((∀ b, (F.n0 ≤ b ∨ ∃ y, fnd b F.L = some y) → R b ≠ i) ∧ σ1.get i = σ.get i) := fun i => by
    by_cases h : ∃ b, (F.n0 ≤ b ∨ ∃ y, fnd b F.L = some y) ∧ R b = i
    · exact .inl h
    · have h : ∀ b, (F.n0 ≤ b ∨ ∃ y, fnd b F.L = some y) → R b ≠ i := fun b hb e => h ⟨b, hb, e⟩
      exact .inr ⟨h, cII i h⟩
  have split : ∀ i im, m' i = some im → (i < σ.next ∧ m i = some im) ∨ (σ.next ≤ i ∧ m1 (i - σ.next + F.n0) = some im) := fun i im hi => by
    rw [hm'] at hi
    by_cases e : i < σ.next
    · rw [if_pos e] at hi; exact .inl ⟨e, hi⟩
    · rw [if_neg e] at hi; exact .inr ⟨by omega, hi⟩
  have wr : WR P m' σ1 w' := by
    refine ⟨fun i im hi => ?_, fun i im hi => ?_, fun i j im jm hi hj di dj e => ?_, fun i hi => ?_, fun g im hg hi => ?_, ?_, fun W0 L hW => ?_⟩
    · rcases split i im hi with ⟨h1, h2⟩ | ⟨h1, h2⟩
      · have := hw.dom _ _ h2; have := hp.kp.size; exact ⟨by rw [s_next]; omega, by omega⟩
      · have h3 := hwK.dom _ _ h2
        have h4 : i - σ.next + F.n0 < F.n1 := h3.1
        exact ⟨by rw [s_next]; omega, h3.2⟩
    · rcases cls i with ⟨b, hb, rfl⟩ | ⟨hno, hsame⟩
      · by_cases hd : σ1.get (R b) = .dead
        · rw [hd]; exact .dead
        · obtain ⟨h1, h2⟩ := lI b im hb hi hd
          exact (cI b hb).2 im _ (hwK.blk _ _ h2)
      · by_cases hd : σ1.get i = .dead
        · rw [hd]; exact .dead
        · obtain ⟨h1, h2⟩ := lII i im hsame hi hd
          rw [hsame, hp.kp.block im.blk (hw.dom _ _ h2).2 fun j jm hj dj e => by
            obtain ⟨y, hy⟩ := hAlive j dj
            obtain ⟨_, hxr, im2, h5, h6⟩ := himg j y hy
            rw [hj] at h6; cases h6
            exact hno j (.inr ⟨y, hy⟩) (hw.inj _ _ _ _ h5 h2 hxr.1 h1 e)]
          exact (hw.blk _ _ h2).mono hle
    · rcases cls i with ⟨b, hb, rfl⟩ | ⟨hno, hsame⟩ <;> rcases cls j with ⟨b', hb', rfl⟩ | ⟨hno', hsame'⟩
      · obtain ⟨h1, h2⟩ := lI b im hb hi di
        obtain ⟨h1', h2'⟩ := lI b' jm hb' hj dj
        rw [hwK.inj _ _ _ _ h2 h2' h1 h1' e]
      · obtain ⟨h1, h2⟩ := lI b im hb hi di
        obtain ⟨h1', h2'⟩ := lII j jm hsame' hj dj
        exact absurd e (apart b j im jm hb h1 h2 hno' h1' h2')
      · obtain ⟨h1, h2⟩ := lII i im hsame hi di
        obtain ⟨h1', h2'⟩ := lI b' jm hb' hj dj
        exact absurd e.symm (apart b' i jm im hb' h1' h2' hno h1 h2)
      · obtain ⟨h1, h2⟩ := lII i im hsame hi di
        obtain ⟨h1', h2'⟩ := lII j jm hsame' hj dj
        exact hw.inj _ _ _ _ h2 h2' h1 h1' e
    · rcases cls i with ⟨b, hb, rfl⟩ | ⟨hno, hsame⟩
      · obtain ⟨im, h2⟩ := hwK.live b ((cI b hb).1 hi)
        exact ⟨im, hT _ _ h2⟩
      · rw [hsame] at hi
        obtain ⟨im, h2⟩ := hw.live i hi
        exact ⟨im, hle _ _ h2⟩
    · have := hw.big
      rcases split g im hi with ⟨h1, h2⟩ | ⟨h1, h2⟩
      · exact hw.glob _ _ hg h2
      · omega
    · have := hw.big; rw [s_next]; omega
    · rw [s_gh] at hW
      obtain ⟨i1, i2, i3, i4⟩ := hw.inv W0 L hW
      obtain ⟨_, j2, j3, j4⟩ := hwK.inv W0 L (show σ2.gh = _ by rw [hp.gh]; exact hW)
      refine ⟨i1, j2, fun i im hi => ?_, j4⟩
      rcases split i im hi with ⟨h1, h2⟩ | ⟨h1, h2⟩
      · exact i3 _ _ h2
      · exact j3 _ _ h2
  refine ⟨m', v', rfl, rnV_ok hT hv, ⟨hle, fun i im hi h0 => ?_⟩, wr, by rw [s_next]; omega, ⟨hp.kp.os, hp.kp.tape, hp.kp.output, hp.kp.size, fun B hB hno => hp.kp.block B hB fun j jm hj dj => ?_⟩, s_gh, fun i im hi di => ?_⟩
  · rcases split i im hi with ⟨h1, h2⟩ | ⟨h1, h2⟩
    · rw [h0] at h2; cases h2
    · refine ⟨h1, ?_⟩
      have h3 : m0of G F.n0 ρ m (i - σ.next + F.n0) = none := by unfold m0of; rw [if_neg (by omega)]
      refine (hp.ext.new _ _ h2 h3).2.imp id fun ⟨jj, jm, k1, k2, k3⟩ => ?_
      obtain ⟨y, hy⟩ := hAlive jj k2
      obtain ⟨_, hxr, im2, h5, h6⟩ := himg jj y hy
      rw [k1] at h6; cases h6
      exact ⟨R jj, jm, h5, hxr.1, k3⟩
  · obtain ⟨y, hy⟩ := hAlive j dj
    obtain ⟨_, hxr, im2, h5, h6⟩ := himg j y hy
    rw [hj] at h6; cases h6
    exact hno _ _ h5 hxr.1
  · rcases cls i with ⟨b, hb, rfl⟩ | ⟨hno, hsame⟩
    · rcases hb with hb | ⟨y, hy⟩
      · have := (hw.dom _ _ hi).1; rw [R_new b hb] at this; omega
      · exact (himg b y hy).2.1.1
    · rwa [hsame] at di
theorem orcFr_ok (hmo : P.follows .mixedOrders = true) {orc : Orc} (ho : OrcOk P orc) {n : Nat} {Gh : Option Gl} {f0 : Nat} {args0 : List SV} {F : FD} {v0 : SV} {fr : Fr} (hF : F.ok P.globals.size = true)
    (hI : ∀ W : World, pieceOk v0 F.K (runQ P orc n (.call f0 args0) fr (F.A.st (Gh.map fun g => (W, g)))) = true) : OrcOk P (orcFr P.globals.size Gh f0 args0 F v0) := by
  refine orcFr_of hF fun g ⟨W, hg⟩ => ?_
  obtain ⟨σ2, hr, hK⟩ := pieceOk_done (hI W)
  rw [← hg] at hr
  exact ⟨σ2, hK, fun m w args' hl hw => (runQ_sound (extOk _) hmo ho n).call _ _ _ _ _ _ hr _ args' w hl hw⟩
/-- Pieces, found by their function. -/
noncomputable def orcTreeF (t : OT) : Orc := fun σ f args => firstOf (t.find f) σ f args
theorem orcTreeF_ok {t : OT} (h : OT.Oks P t) : OrcOk P (orcTreeF t) :=
  fun m σ w f args args' v σ' hw hl he => firstOf_ok (OT.find_ok h f) m σ w f args args' v σ' hw hl he
end
end Go.YtghdjomjcododaaGreatDoorEv
