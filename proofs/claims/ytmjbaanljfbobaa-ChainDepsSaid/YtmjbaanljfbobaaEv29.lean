/- An evaluator for the program's own code: slices.Insert of one element ahead of the only one, however far the row may grow: in place, or in a new row. (text 29) -/
import Derived.Test.YtmjbaanljfbobaaEv28
set_option linter.unusedVariables false
set_option linter.unusedSimpArgs false
namespace Go.YtmjbaanljfbobaaEv
open Go Go.RowKit
set_option linter.unusedSectionVars false
variable [Lane]

/-- What it looks at: the row, what is inserted. -/
noncomputable def insA (G e : Nat) (X V : List SV) : LMem := ⟨G + 2, [(G, .cells e 0 X), (G + 1, .cells e 0 V)]⟩
noncomputable def insB (G e : Nat) (X V : List SV) : LMem := ⟨G + 2, [(G, .cells e 0 (X ++ [.unk, .unk])), (G + 1, .cells e 0 V)]⟩
noncomputable def insF (G e r n1 : Nat) (X V : List SV) : FD := ⟨G + 2, (insA G e X V).blks, n1, [(r, .cells e 0 (V ++ X))], [G]⟩
noncomputable def insArgs (G : Nat) (c : Cap) : List SV := [.slice G 0 1 c, .int .i64 (.ofNat 0), .slice (G + 1) 0 1 (.ex 1)]
/-- The row, in place: what stands in it then; the result. -/
noncomputable def roomOk (G e : Nat) (X V : List SV) : Res → Bool
  | .done _ σ => blksIn σ [(G, .cells e 0 (V ++ X)), (G + 1, .cells e 0 V)]
  | _ => false
noncomputable def resV1 : Res → Option SV
  | .done v _ => some v
  | _ => none
section
variable {P : Program}
theorem ins_ok {G e r n1 : Nat} {X V : List SV} {f : FuncId} {ih : Job → Fr → St → Res} {fr : Fr} (hs : Sound P ih) (hG : P.globals.size = G) (hX : X.length = 2) (hV : V.length = 2)
    (hfl : ∀ u ∈ V ++ X, ∀ (m m' : Mp) (v' : Value), VR m u v' → VR m' u v') (hr : G + 2 ≤ r) (hn : r < n1) (g : Option (World × Gl))
    (h1 : pieceOk (.slice r 0 2 (.op 2)) (insF G e r n1 X V).K (ih (.call f (insArgs G (.ex 1))) fr ((insA G e X V).st g)) = true)
    (h2 : ∀ k : Nat, roomOk G e X V (ih (.call f (insArgs G (.ex (k + 2)))) fr ((insB G e X V).st g)) = true)
    (h3 : ∀ k : Nat, resV1 (ih (.call f (insArgs G (.ex (k + 2)))) fr ((insB G e X V).st g)) = some (.slice G 0 2 (.ex (k + 2))))
    (hK : (insF G e r n1 X V).K.inn ((insF G e r n1 X V).K.st g) = true) (hA : (insA G e X V).inn ((insA G e X V).st g) = true) :
    ∃ σ2 : St, (insF G e r n1 X V).K.inn σ2 = true ∧ ∀ (m : Mp) (w : World) (args' : Array Value), VRs m (insArgs G (.op 2)) args'.toList → WR P m ((insA G e X V).st g) w →
      Calls P f args' w (CallOk P m ((insA G e X V).st g) w (.slice r 0 2 (.op 2)) σ2) := by
  refine ⟨(insF G e r n1 X V).K.st g, hK, fun m w args' hl hw => ?_⟩
  have hFK : (insF G e r n1 X V).K = ⟨n1, [(r, .cells e 0 (V ++ X)), (G + 1, .cells e 0 V)]⟩ := by
    show (⟨n1, _⟩ : LMem) = _
    congr 1
    have nb : ∀ {a b : Nat}, a ≠ b → Nat.beq a b = false := fun {a b} h => by
      cases hb : Nat.beq a b with
      | false => rfl
      | true => exact absurd (Nat.eq_of_beq_eq_true hb) h
    have e1 : Nat.beq G r = false := nb (by omega)
    have e2 : Nat.beq (G + 1) r = false := nb (by omega)
    have e3 : Nat.beq r G = false := nb (by omega)
    have e4 : Nat.beq r (G + 1) = false := nb (by omega)
    have e5 : Nat.beq G (G + 1) = false := nb (by omega)
    simp [insF, insA, keepL, hasK, hasN, e3, e4, e5, Nat.beq_refl]
  obtain ⟨l0⟩ := args'
  cases hl with | cons v1 hl =>
  cases hl with | cons v2 hl =>
  cases hl with | cons v3 hl =>
  cases hl
  have v1' := v1
  obtain ⟨im, a, C, rfl, hm, ha, hsp, hc, hle, htot, hz⟩ := v1.op_inv
  by_cases hC : C = 1
  · subst hC
    obtain ⟨σ1, hr1, hK1⟩ := pieceOk_done h1
    refine (hs.call f _ _ _ _ _ hr1 m #[.slice (some a) 1 1, _, _] w (.cons (.sliceEx hm ha hsp hc hle) (.cons v2 (.cons v3 .nil))) hw).mono fun e' w' he => ?_
    obtain ⟨m', v', rfl, hv, hp⟩ := he
    exact ⟨m', v', rfl, hv, Post.lit hA hp hK1⟩
  · obtain ⟨k, rfl⟩ : ∃ k, C = k + 2 := ⟨C - 2, by omega⟩
    have gA : ∀ i, ((insA G e X V).st g).get i = if i = G then .cells e 2 0 (fromL X) else if i = G + 1 then .cells e 2 0 (fromL V) else .dead := fun i => by
      show ((Tr.nil.set Blk.dead _ (G + 1)).set Blk.dead _ G).get Blk.dead i = _
      rw [Tr.get_set, Tr.get_set, Tr.get_nil]
      simp only [LB.blk, hX, hV]
    have gB : ∀ i, ((insB G e X V).st g).get i = if i = G then .cells e 4 0 (fromL (X ++ [.unk, .unk])) else if i = G + 1 then .cells e 2 0 (fromL V) else .dead := fun i => by
      show ((Tr.nil.set Blk.dead _ (G + 1)).set Blk.dead _ G).get Blk.dead i = _
      rw [Tr.get_set, Tr.get_set, Tr.get_nil]
      simp only [LB.blk, hV, List.length_append, hX, List.length_cons, List.length_nil]
    have dAB : ∀ i, ((insB G e X V).st g).get i ≠ .dead → ((insA G e X V).st g).get i ≠ .dead := fun i hi => by
      rw [gB] at hi; rw [gA]
      split at hi
      · rename_i e; rw [if_pos e]; intro h; cases h
      · rename_i e; rw [if_neg e]; split at hi
        · rename_i e; rw [if_pos e]; intro h; cases h
        · exact absurd rfl hi
    have hB0 := hw.blk G im hm
    rw [gA, if_pos rfl] at hB0
    have hwB : WR P m ((insB G e X V).st g) w := by
      refine ⟨hw.dom, fun i im' hi => ?_, fun i j im' jm h1 h2 h3 h4 h5 => hw.inj i j im' jm h1 h2 (dAB _ h3) (dAB _ h4) h5, fun i hi => hw.live i (dAB i hi), hw.glob, hw.big, hw.inv⟩
      rw [gB]
      by_cases e1 : i = G
      · rw [if_pos e1]
        subst e1
        rw [hm] at hi; cases hi
        generalize w.heap[im.blk]? = o at hB0
        cases hB0 with
        | cells ht hn hf hv =>
          refine .cells ht (by omega) hf fun q hq => ?_
          by_cases hq2 : q < 2
          · obtain ⟨v, b1, b2, b3⟩ := hv q hq2
            obtain ⟨u, hu⟩ : ∃ u, X[q]? = some u := ⟨_, List.getElem?_eq_getElem (by omega)⟩
            have hu2 : (X ++ [.unk, .unk])[q]? = some u := by rw [List.getElem?_append_left (by omega)]; exact hu
            rw [fromL_get hu] at b2 b3
            exact ⟨v, b1, by rw [fromL_get hu2]; exact b2, by rw [fromL_get hu2]; exact b3⟩
          · have hu2 : (X ++ [.unk, .unk])[q]? = some .unk := by
              rw [List.getElem?_append_right (by omega), hX]
              have : q = 2 ∨ q = 3 := by omega
              rcases this with rfl | rfl <;> rfl
            rename_i lo hi C'
            exact ⟨C'[im.base + q]'(by omega), Array.getElem?_eq_getElem (by omega), by rw [fromL_get hu2]; exact .inr rfl, by rw [fromL_get hu2]; exact .inr rfl⟩
      · rw [if_neg e1]
        have := hw.blk i im' hi
        rw [gA, if_neg e1] at this
        exact this
    cases hr2 : ih (.call f (insArgs G (.ex (k + 2)))) fr ((insB G e X V).st g) with
    | nrm _ _ => have := h3 k; rw [hr2] at this; cases this
    | ext _ _ _ => have := h3 k; rw [hr2] at this; cases this
    | ret _ _ => have := h3 k; rw [hr2] at this; cases this
    | pan _ _ => have := h3 k; rw [hr2] at this; cases this
    | bad _ => have := h3 k; rw [hr2] at this; cases this
    | done v2r σ2 =>
    have e3 := h3 k
    rw [hr2] at e3
    cases e3
    have e2 := h2 k
    rw [hr2] at e2
    have e2 : blksIn σ2 [(G, .cells e 0 (V ++ X)), (G + 1, .cells e 0 V)] = true := e2
    unfold blksIn at e2
    split at e2
    case h_2 => cases e2
    rename_i q1
    unfold blksIn at e2
    split at e2
    case h_2 => cases e2
    rename_i q2
    refine (hs.call f _ _ _ _ _ hr2 m #[.slice (some a) 1 (k + 2), _, _] w (.cons (.sliceEx hm ha hsp hc hle) (.cons v2 (.cons v3 .nil))) hwB).mono fun e' w' he => ?_
    obtain ⟨m2, v', rfl, hv, hp⟩ := he
    obtain ⟨im2, a2, rfl, hm2, ha2, hsp2, hc2, hle2⟩ := hv.ex_inv
    have := hp.ext.le _ _ hm
    rw [hm2] at this; cases this
    have hlt : ∀ i im', m i = some im' → i < G + 2 := fun i im' hi => (hw.dom i im' hi).1
    have hmr : m r = none := by
      cases h : m r with
      | none => rfl
      | some x => have := hlt _ _ h; omega
    obtain ⟨m', hm'⟩ : ∃ m' : Mp, ∀ i, m' i = if i = r then some im else m i := ⟨_, fun _ => rfl⟩
    have hle' : Mle m m' := fun i im' hi => by rw [hm', if_neg (by rintro rfl; rw [hmr] at hi; cases hi)]; exact hi
    have gK : ∀ i, ((insF G e r n1 X V).K.st g).get i = if i = r then .cells e 4 0 (fromL (V ++ X)) else if i = G + 1 then .cells e 2 0 (fromL V) else .dead := fun i => by
      rw [hFK]
      show ((Tr.nil.set Blk.dead _ (G + 1)).set Blk.dead _ r).get Blk.dead i = _
      rw [Tr.get_set, Tr.get_set, Tr.get_nil]
      simp only [LB.blk, hV, List.length_append, hX]
    have flat : ∀ (l : List SV) (n : Nat) (im' : Im) (o : Option Obj), (∀ u ∈ l, u ∈ V ++ X) → l.length = n → BR m2 im' (.cells e n 0 (fromL l)) o → BR m' im' (.cells e n 0 (fromL l)) o := by
      intro l n im' o hsub hln hb
      cases hb with
      | cells ht hn' hf hv =>
        refine .cells ht hn' hf fun q hq => ?_
        obtain ⟨v, b1, b2, b3⟩ := hv q hq
        obtain ⟨u, hu⟩ : ∃ u, l[q]? = some u := ⟨_, List.getElem?_eq_getElem (by omega)⟩
        rw [fromL_get hu] at b2
        exact ⟨v, b1, by rw [fromL_get hu]; exact b2.imp (hfl u (hsub u (List.mem_of_getElem? hu)) _ _ _) id, b3⟩
    have dK : ∀ i, ((insF G e r n1 X V).K.st g).get i ≠ .dead → i = r ∨ i = G + 1 := fun i hi => by
      rw [gK] at hi
      split at hi
      · exact .inl (by assumption)
      · split at hi
        · exact .inr (by assumption)
        · exact absurd rfl hi
    have liveG : ((insA G e X V).st g).get G ≠ .dead := by rw [gA, if_pos rfl]; intro h; cases h
    have liveV : ((insA G e X V).st g).get (G + 1) ≠ .dead := by rw [gA, if_neg (by omega), if_pos rfl]; intro h; cases h
    have hbig : G ≤ G + 2 := by omega
    refine ⟨m', _, rfl, .sliceOp (by rw [hm', if_pos rfl]) ha2 hsp2 hc2 hle2 htot (by omega), ⟨hle', fun i im' hi h0 => ?_⟩, ?_, ?_, ⟨hp.kp.os, hp.kp.tape, hp.kp.output, hp.kp.size, fun B hB hno => hp.kp.block B hB fun i im' hi hd => hno i im' hi (dAB i hd)⟩, rfl, fun i im' hi hd => ?_⟩
    · rw [hm'] at hi
      split at hi
      · rename_i er
        cases hi
        exact ⟨by show G + 2 ≤ i; omega, .inr ⟨G, im, hm, liveG, rfl⟩⟩
      · rw [h0] at hi; cases hi
    · have dm : ∀ i im', m' i = some im' → (i = r ∧ im' = im) ∨ (i ≠ r ∧ m i = some im') := fun i im' hi => by
        rw [hm'] at hi
        split at hi
        · rename_i er; cases hi; exact .inl ⟨er, rfl⟩
        · rename_i er; exact .inr ⟨er, hi⟩
      refine ⟨fun i im' hi => ?_, fun i im' hi => ?_, fun i j im' jm hi hj di dj ee => ?_, fun i hi => ?_, fun g0 im' hg hi => ?_, ?_, fun W0 L0 hW => ?_⟩
      · have hn1 : ((insF G e r n1 X V).K.st g).next = n1 := by rw [hFK]; rfl
        rcases dm i im' hi with ⟨rfl, rfl⟩ | ⟨_, h⟩
        · exact ⟨by rw [hn1]; exact hn, (hp.wr.dom _ _ hm2).2⟩
        · have := hlt _ _ h
          exact ⟨by rw [hn1]; omega, (hp.wr.dom _ _ (hp.ext.le _ _ h)).2⟩
      · rw [gK]
        rcases dm i im' hi with ⟨rfl, rfl⟩ | ⟨hne, h⟩
        · rw [if_pos rfl]
          have this := lbEq_sound q1 (hp.wr.blk _ _ hm2)
          have h4 : (V ++ X).length = 4 := by simp [hV, hX]
          simp only [LB.blk, h4] at this
          exact flat (V ++ X) 4 _ _ (fun u h => h) h4 this
        · rw [if_neg hne]
          by_cases e1 : i = G + 1
          · rw [if_pos e1]
            subst e1
            have := lbEq_sound q2 (hp.wr.blk _ _ (hp.ext.le _ _ h))
            exact flat V 2 _ _ (fun u h => List.mem_append_left _ h) hV (by simpa only [LB.blk, hV] using this)
          · rw [if_neg e1]; exact .dead
      · rcases dm i im' hi with ⟨rfl, rfl⟩ | ⟨h1, h1'⟩ <;> rcases dm j jm hj with ⟨rfl, rfl⟩ | ⟨h2, h2'⟩
        · rfl
        · rcases dK j dj with ej | rfl
          · exact absurd ej h2
          · have := hw.inj _ _ _ _ hm h2' liveG liveV ee; omega
        · rcases dK i di with ej | rfl
          · exact absurd ej h1
          · have := hw.inj _ _ _ _ h1' hm liveV liveG ee; omega
        · rcases dK i di with ej | rfl
          · exact absurd ej h1
          · rcases dK j dj with ej | rfl
            · exact absurd ej h2
            · rfl
      · rcases dK i hi with rfl | rfl
        · exact ⟨im, by rw [hm', if_pos rfl]⟩
        · obtain ⟨x, hx⟩ := hw.live (G + 1) liveV
          exact ⟨x, hle' _ _ hx⟩
      · rcases dm g0 im' hi with ⟨rfl, _⟩ | ⟨_, h⟩
        · rw [hG] at hg; omega
        · exact hw.glob _ _ hg h
      · rw [hFK]; show P.globals.size ≤ n1; omega
      · obtain ⟨i1, i2, i3, i4⟩ := hw.inv W0 L0 hW
        obtain ⟨_, j2, _, j4⟩ := hp.wr.inv W0 L0 (by rw [hp.gh]; exact hW)
        refine ⟨i1, j2, fun i im' hi => ?_, j4⟩
        rcases dm i im' hi with ⟨rfl, rfl⟩ | ⟨_, h⟩
        · exact i3 _ _ hm
        · exact i3 _ _ h
    · rw [hFK]; show G + 2 ≤ n1; omega
    · rcases dK i hd with rfl | rfl
      · rw [hmr] at hi; cases hi
      · exact liveV
end
end Go.YtmjbaanljfbobaaEv
