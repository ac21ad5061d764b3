/- An evaluator for the program's own code: heads of loops with numbers left open in the memory too: told in other words. (text 30) -/
import Derived.Test.YtghdjomjcododaaGreatDoorEv28
set_option linter.unusedVariables false
set_option linter.unusedSimpArgs false
namespace Go.YtghdjomjcododaaGreatDoorEv
open Go Go.RowKit
set_option linter.unusedSectionVars false

mutual
/-- What stands in the holes, at any depth. -/
noncomputable def dpV (f : Nat → SV) : SV → SV
  | .opq a => subV f (.opq a)
  | .agg l => .agg (dpL f l)
  | .tuple l => .tuple (dpL f l)
  | .iface t v => .iface t (dpV f v)
  | v => v
noncomputable def dpL (f : Nat → SV) : List SV → List SV
  | [] => []
  | v :: l => dpV f v :: dpL f l
end
noncomputable def dpX (f : Nat → SV) : LB → LB
  | .cells ty fz l => .cells ty fz (dpL f l)
  | .map es k => .map (es.map fun e => (dpV f e.1, dpV f e.2.1, e.2.2)) k
noncomputable def dpB (f : Nat → SV) (l : List (Nat × LB)) : List (Nat × LB) := l.map fun x => (x.1, dpX f x.2)
noncomputable def dpM (f : Nat → SV) (L : LMem) : LMem := ⟨L.next, dpB f L.blks⟩
theorem dpL_length (f : Nat → SV) : ∀ l, (dpL f l).length = l.length
  | [] => by simp [dpL]
  | v :: l => by simp [dpL, dpL_length f l]
theorem dpL_get (f : Nat → SV) : ∀ (l : List SV) (i : Nat), (dpL f l)[i]? = (l[i]?).map (dpV f)
  | [], i => by simp [dpL]
  | v :: l, 0 => by simp [dpL]
  | v :: l, i + 1 => by simp [dpL, dpL_get f l i]
theorem fnd_dp (f : Nat → SV) (b : Nat) : ∀ l : List (Nat × LB), fnd b (dpB f l) = (fnd b l).map (dpX f)
  | [] => rfl
  | x :: l => by
    show (if x.1 = b then some (dpX f x.2) else fnd b (dpB f l)) = (if x.1 = b then some x.2 else fnd b l).map (dpX f)
    rw [fnd_dp f b l]
    by_cases e : x.1 = b
    · rw [if_pos e, if_pos e]; rfl
    · rw [if_neg e, if_neg e]
section
variable [Lane]
/-- The one says no less than the other. -/
def Says (f g : Nat → SV) : Prop := ∀ (j : Nat) (m : Mp) (v : Value), VR m (f j) v → VR m (g j) v
/-- What stands in a hole is a number or a string. -/
def Plain1 (f : Nat → SV) : Prop := ∀ j, f j ≠ .unk
mutual
theorem dpV_ok {f g : Nat → SV} (h : Says f g) {m : Mp} : ∀ {v : SV} {v' : Value}, VR m (dpV f v) v' → VR m (dpV g v) v'
  | v, v', hv => by
    cases v with
    | opq a =>
      unfold dpV at hv ⊢
      rcases subV_cases (.opq a) with ⟨j, hj⟩ | hj
      · rw [hj] at hv ⊢; exact h _ _ _ hv
      · rw [hj] at hv ⊢; exact hv
    | agg l => unfold dpV at hv ⊢; cases hv with | agg h1 => exact .agg (dpL_ok h h1)
    | tuple l => unfold dpV at hv ⊢; cases hv with | tuple h1 => exact .tuple (dpL_ok h h1)
    | iface t u => unfold dpV at hv ⊢; cases hv with | iface h1 => exact .iface (dpV_ok h h1)
    | _ => unfold dpV at hv ⊢; exact hv
theorem dpL_ok {f g : Nat → SV} (h : Says f g) {m : Mp} : ∀ {l : List SV} {l' : List Value}, VRs m (dpL f l) l' → VRs m (dpL g l) l'
  | [], l', hv => by unfold dpL at hv ⊢; exact hv
  | v :: l, l', hv => by
    unfold dpL at hv ⊢
    cases hv with | cons h1 h2 => exact .cons (dpV_ok h h1) (dpL_ok h h2)
end
theorem dpV_unk {f g : Nat → SV} (hf : Plain1 f) {v : SV} (e : dpV f v = .unk) : dpV g v = .unk := by
  cases v with
  | opq a =>
    unfold dpV at e
    rcases subV_cases (.opq a) with ⟨j, hj⟩ | hj
    · rw [hj] at e; exact absurd e (hf j)
    · rw [hj] at e; cases e
  | agg l => unfold dpV at e; cases e
  | tuple l => unfold dpV at e; cases e
  | iface t u => unfold dpV at e; cases e
  | unk => unfold dpV; rfl
  | _ => (unfold dpV at e; cases e)
theorem dpX_ok {f g : Nat → SV} (h : Says f g) (hf : Plain1 f) {m : Mp} {im : Im} {x : LB} {o : Option Obj} (hb : BR m im (dpX f x).blk o) : BR m im (dpX g x).blk o := by
  cases x with
  | cells ty fz l =>
    cases hb with | cells ht hn hfz hv =>
    rw [dpL_length] at hn hv
    refine .cells ht (by rw [dpL_length]; exact hn) hfz fun k hk => ?_
    rw [dpL_length] at hk
    obtain ⟨v, a1, a2, a3⟩ := hv k hk
    obtain ⟨u, hu⟩ : ∃ u, l[k]? = some u := ⟨_, List.getElem?_eq_getElem hk⟩
    have e1 : (dpL f l)[k]? = some (dpV f u) := by rw [dpL_get, hu]; rfl
    have e2 : (dpL g l)[k]? = some (dpV g u) := by rw [dpL_get, hu]; rfl
    rw [fromL_get e1] at a2 a3
    exact ⟨v, a1, by rw [fromL_get e2]; exact a2.elim (fun a => .inl (dpV_ok h a)) (fun a => .inr (dpV_unk hf a)), by rw [fromL_get e2]; exact a3.imp id fun a => dpV_unk hf a⟩
  | map es k =>
    cases hb with | map hl he =>
    refine .map (by rw [← hl]; simp) fun i x y hx hy => ?_
    rw [List.getElem?_map] at hx
    cases hxe : es[i]? with
    | none => rw [hxe] at hx; cases hx
    | some e =>
      rw [hxe] at hx
      cases hx
      obtain ⟨b1, b2, b3⟩ := he i _ y (by rw [List.getElem?_map, hxe]; rfl) hy
      exact ⟨dpV_ok h b1, dpV_ok h b2, b3⟩
variable {P : Program} {Q : Exit → Act → World → Prop} {nt : Nat} {bd : Code} {gh : Option (World × Gl)} {w0 : World} {p : List Nat}
theorem WR.dp {f g : Nat → SV} (h : Says f g) (hf : Plain1 f) {m : Mp} {L : LMem} {w : World} (hw : WR P m ((dpM f L).st gh) w) : WR P m ((dpM g L).st gh) w := by
  have gf : ∀ (f : Nat → SV) i, ((dpM f L).st gh).get i = match fnd i L.blks with | some x => (dpX f x).blk | none => .dead := fun f i => by
    have : ((dpM f L).st gh).get i = match fnd i (dpB f L.blks) with | some x => x.blk | none => .dead := heapOf_fnd
    rw [this, fnd_dp]
    cases fnd i L.blks <;> rfl
  have live : ∀ i, ((dpM g L).st gh).get i ≠ .dead → ((dpM f L).st gh).get i ≠ .dead := fun i hi => by
    rw [gf] at hi ⊢
    cases hx : fnd i L.blks with
    | none => rw [hx] at hi; exact absurd rfl hi
    | some x => exact LB.blk_live _
  refine ⟨hw.dom, fun i im hi => ?_, fun i j im jm h1 h2 h3 h4 h5 => hw.inj i j im jm h1 h2 (live i h3) (live j h4) h5, fun i hi => hw.live i (live i hi), hw.glob, hw.big, hw.inv⟩
  have hb := hw.blk i im hi
  rw [gf] at hb ⊢
  cases hx : fnd i L.blks with
  | none => exact .dead
  | some x => rw [hx] at hb; exact dpX_ok h hf hb
/-- A head, in other words for its numbers. -/
theorem Hd.dp {f g : Nat → SV} (h : Says f g) (hf : Plain1 f) {T : List SV} {L : LMem} (hd : Hd P Q nt bd gh w0 p (dpL g T) (dpM g L)) : Hd P Q nt bd gh w0 p (dpL f T) (dpM f L) := by
  intro b ks hn m a w hfr hw hi
  have h1 : Hd P Q nt bd gh w0 p (dpL f T) (dpM g L) := Hd.put (by rw [dpL_length, dpL_length]) (fun m i v u u' h1 h2 hv => by
    rw [dpL_get] at h1 h2
    cases e : T[i]? with
    | none => rw [e] at h1; cases h1
    | some x =>
      rw [e] at h1 h2
      cases h1; cases h2
      exact dpV_ok h hv) hd
  exact h1 b ks hn m a w hfr (WR.dp h hf hw) hi
end
end Go.YtghdjomjcododaaGreatDoorEv
