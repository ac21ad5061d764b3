/- An evaluator for the program's own code: a function's own run in pieces, from loop's head to loop's head. (text 27) -/
import Derived.Test.YtghdjomjcododaaGreatDoorEv26
set_option linter.unusedVariables false
set_option linter.unusedSimpArgs false
namespace Go.YtghdjomjcododaaGreatDoorEv
open Go Go.RowKit
set_option linter.unusedSectionVars false
variable [Lane]

/-- What comes behind a piece of code: other code (and where it stands in the function's), a block's end, a loop's next round. -/
inductive KI where
  | seq (b : Code) (p : List Nat)
  | blk (id : Nat)
  | lop (b : Code) (p : List Nat)
inductive Sx where
  | go (c : Code) (p : List Nat) (ks : List KI) (fr : Fr) (σ : St)
  | head (p : List Nat) (fr : Fr) (σ : St)
  | fin (r : Res)
noncomputable def stepD (d : Nat) (p : List Nat) (c : Code) (ks : List KI) : Option (Code × List KI) :=
  match c with
  | .seq a b => match d with
    | 0 => some (a, .seq b (1 :: p) :: ks)
    | _ + 1 => some (b, ks)
  | .cond _ a b => match d with
    | 0 => some (a, ks)
    | _ + 1 => some (b, ks)
  | .block id b => some (b, .blk id :: ks)
  | .loop b => some (b, .lop b p :: ks)
  | _ => none
/-- What stands at a place of the function's code, and what comes behind it. -/
noncomputable def nav (body : Code) : List Nat → Option (Code × List KI)
  | [] => some (body, [])
  | d :: p => match nav body p with
    | some x => stepD d p x.1 x.2
    | none => none
noncomputable def unw : List KI → Res → Sx
  | [], r => .fin r
  | .seq b q :: ks, r => match r with
    | .nrm fr σ => .go b q ks fr σ
    | r => unw ks r
  | .blk id :: ks, r => match r with
    | .ext i fr σ => match Nat.beq i id with
      | true => unw ks (.nrm fr σ)
      | false => unw ks (.ext i fr σ)
    | r => unw ks r
  | .lop b q :: ks, r => match r with
    | .nrm fr σ => .head q fr σ
    | r => unw ks r
noncomputable def deep : List KI → Nat
  | [] => 0
  | .lop _ _ :: ks => deep ks + 1
  | _ :: ks => deep ks
/-- Which loops' heads are told: by the place, and by how many loops stand around. -/
abbrev HdP := List Nat → Nat → Bool
abbrev SgF := Code → List Nat → List KI → Fr → St → Sx
noncomputable def cont (rec : SgF) : Sx → Sx
  | .go c p ks fr σ => rec c p ks fr σ
  | x => x
noncomputable def sgStep (P : Program) (ih : Job → Fr → St → Res) (D : HdP) (rec : SgF) : SgF := fun c p ks fr σ =>
  match c with
  | .seq a b => rec a (0 :: p) (.seq b (1 :: p) :: ks) fr σ
  | .cond x a b => match ev P σ fr x with
    | some (.bool true) => rec a (0 :: p) ks fr σ
    | some (.bool false) => rec b (1 :: p) ks fr σ
    | _ => .fin (.bad "cond")
  | .block id b => rec b (0 :: p) (.blk id :: ks) fr σ
  | .loop b => match D p (deep ks) with
    | true => .head p fr σ
    | false => cont rec (unw ks (ih (.code (.loop b)) fr σ))
  | c => cont rec (unw ks (ih (.code c) fr σ))
/-- To the next head of a loop that is to be told, or to the end. -/
noncomputable def sgo (P : Program) (ih : Job → Fr → St → Res) (D : HdP) (n : Nat) : SgF :=
  Nat.rec (motive := fun _ => SgF) (fun _ _ _ _ _ => .fin (.bad "seg")) (fun _ rec => sgStep P ih D rec) n
/-- A head of a loop: the temporaries, the memory. -/
noncomputable def atHead (G nt : Nat) (p1 : List Nat) (T1 : List SV) (L1 : LMem) : Sx → Bool
  | .head p fr σ => numsEq p p1 && Nat.ble G L1.next && Nat.beq T1.length nt && fr.df.isEmpty && (match mtC G L1.next T1 fr.tm 0 .nil with
    | some ρ0 => match mtBs G L1.next σ L1.blks ρ0 .nil with
      | some _ => true
      | none => false
    | none => false)
  | _ => false
noncomputable def isFin (P : Program) (fn : Func) : Sx → Bool
  | .fin (.nrm fr σ) => fr.df.isEmpty && (match Go.YtghdjomjcododaaGreatDoorEv.results P fn fr σ with
    | .done (.bool true) _ => true
    | _ => false)
  | .fin (.ret fr σ) => fr.df.isEmpty && (match Go.YtghdjomjcododaaGreatDoorEv.results P fn fr σ with
    | .done (.bool true) _ => true
    | _ => false)
  | _ => false
/-- From a head on. -/
noncomputable def segFrom (P : Program) (ih : Job → Fr → St → Res) (D : HdP) (n : Nat) (body : Code) (gh : Option (World × Gl)) (p : List Nat) (T : List SV) (L : LMem) : Sx :=
  match nav body p with
  | some (.loop b, ks) => sgo P ih D n b (0 :: p) (.lop b p :: ks) ⟨putL T .nil 0, []⟩ (L.st gh)
  | _ => .fin (.bad "no loop")

/-! soundness -/
noncomputable def MK (P : Program) (Q : Exit → Act → World → Prop) : List KI → Exit → Act → World → Prop
  | [] => Q
  | .seq b _ :: ks => Exit.then (fun a w => b.wp P (MK P Q ks) a w) (MK P Q ks)
  | .blk id :: ks => Exit.inBlock id (MK P Q ks)
  | .lop b _ :: ks => Exit.then (LoopWp P b (MK P Q ks)) (MK P Q ks)
def Gk (body : Code) : List KI → Prop
  | [] => True
  | .seq b q :: ks => nav body q = some (b, ks) ∧ Gk body ks
  | .blk _ :: ks => Gk body ks
  | .lop b q :: ks => nav body q = some (.loop b, ks) ∧ Gk body ks
theorem nav_gk {body : Code} : ∀ {p : List Nat} {c : Code} {ks : List KI}, nav body p = some (c, ks) → Gk body ks
  | [], c, ks, h => by
    unfold nav at h
    cases h; trivial
  | d :: p, c, ks, h => by
    have h0 := h
    unfold nav at h
    split at h
    case h_2 => cases h
    rename_i x hx
    obtain ⟨c0, ks0⟩ := x
    have ih := nav_gk hx
    unfold stepD at h
    split at h
    · rename_i a b e
      simp only at e
      subst e
      split at h
      · cases h
        refine ⟨?_, ih⟩
        show (match nav body p with | some x => stepD 1 p x.1 x.2 | none => none) = _
        rw [hx]; rfl
      · cases h; exact ih
    · split at h
      · cases h; exact ih
      · cases h; exact ih
    · cases h; exact ih
    · rename_i b e
      simp only at e
      subst e
      cases h
      exact ⟨hx, ih⟩
    · cases h
theorem nav_ok {body : Code} {nt : Nat} (hok : codeOk nt body = true) : ∀ {p : List Nat} {c : Code} {ks : List KI}, nav body p = some (c, ks) → codeOk nt c = true
  | [], c, ks, h => by
    unfold nav at h
    cases h; exact hok
  | d :: p, c, ks, h => by
    unfold nav at h
    split at h
    case h_2 => cases h
    rename_i x hx
    obtain ⟨c0, ks0⟩ := x
    have ih := nav_ok hok hx
    unfold stepD at h
    split at h
    · rename_i a b e
      simp only at e
      subst e
      simp only [codeOk, Bool.and_eq_true] at ih
      split at h
      · cases h; exact ih.1
      · cases h; exact ih.2
    · rename_i a b e
      simp only at e
      subst e
      simp only [codeOk, Bool.and_eq_true] at ih
      split at h
      · cases h; exact ih.1
      · cases h; exact ih.2
    · rename_i e
      simp only at e
      subst e
      simp only [codeOk] at ih
      cases h; exact ih
    · rename_i e
      simp only at e
      subst e
      simp only [codeOk] at ih
      cases h; exact ih
    · cases h
theorem unw_go {body : Code} : ∀ {ks : List KI} {r : Res} {c : Code} {p : List Nat} {ks' : List KI} {fr : Fr} {σ : St}, Gk body ks → unw ks r = .go c p ks' fr σ → nav body p = some (c, ks')
  | [], r, c, p, ks', fr, σ, g, h => by unfold unw at h; cases h
  | .seq b q :: ks, r, c, p, ks', fr, σ, g, h => by
    unfold unw at h
    split at h
    · cases h; exact g.1
    · exact unw_go g.2 h
  | .blk id :: ks, r, c, p, ks', fr, σ, g, h => by
    unfold unw at h
    split at h
    · split at h
      · exact unw_go (ks := ks) g h
      · exact unw_go (ks := ks) g h
    · exact unw_go (ks := ks) g h
  | .lop b q :: ks, r, c, p, ks', fr, σ, g, h => by
    unfold unw at h
    split at h
    · cases h
    · exact unw_go g.2 h
section
variable {P : Program} {Q : Exit → Act → World → Prop} {nt : Nat} {body : Code}
def SxOk (P : Program) (Q : Exit → Act → World → Prop) (nt : Nat) (body : Code) (m : Mp) (σ : St) (w : World) : Sx → Prop
  | .go c p ks fr' σ' => ∀ m' a' w', FrD m' nt fr' a' → Post P m σ w m' σ' w' → c.wp P (MK P Q ks) a' w'
  | .head p fr' σ' => ∀ b ks, nav body p = some (.loop b, ks) → ∀ m' a' w', FrD m' nt fr' a' → Post P m σ w m' σ' w' → LoopWp P b (MK P Q ks) a' w'
  | .fin r => r.good ∧ ∀ e a' w', QR P m σ w nt r e a' w' → Q e a' w'
theorem SxOk.shift {m m1 : Mp} {σ σ1 : St} {w w1 : World} {x : Sx} (h : SxOk P Q nt body m σ w x) (hp : Post P m σ w m1 σ1 w1) : SxOk P Q nt body m1 σ1 w1 x := by
  cases x with
  | go c p ks fr σ' => exact fun m' a' w' hf hp' => h m' a' w' hf (hp.trans hp')
  | head p fr σ' => exact fun b ks hn m' a' w' hf hp' => h b ks hn m' a' w' hf (hp.trans hp')
  | fin r => exact ⟨h.1, fun e a' w' hq => h.2 e a' w' (QR.trans hp hq)⟩
theorem unw_good {m : Mp} {σ : St} {w : World} : ∀ {ks : List KI} {r : Res}, SxOk P Q nt body m σ w (unw ks r) → r.good
  | [], r, h => by unfold unw at h; exact h.1
  | .seq b q :: ks, r, h => by
    unfold unw at h
    split at h
    · trivial
    · exact unw_good h
  | .blk id :: ks, r, h => by
    unfold unw at h
    split at h
    · trivial
    · exact unw_good h
  | .lop b q :: ks, r, h => by
    unfold unw at h
    split at h
    · trivial
    · exact unw_good h
theorem unw_sound {m : Mp} {σ : St} {w : World} : ∀ {ks : List KI} {r : Res}, Gk body ks → SxOk P Q nt body m σ w (unw ks r) → ∀ e a' w', QR P m σ w nt r e a' w' → MK P Q ks e a' w'
  | [], r, g, h => by unfold unw at h; exact h.2
  | .seq b q :: ks, r, g, h => by
    unfold unw at h
    intro e a' w' hq
    cases r with
    | nrm fr1 σ1 => cases e <;> first | (obtain ⟨m1, h1, h2⟩ := hq; exact h m1 a' w' h1 h2) | exact hq.elim
    | ret fr1 σ1 => cases e <;> first | exact hq.elim | exact unw_sound g.2 h _ a' w' hq
    | pan fr1 σ1 => cases e <;> first | exact hq.elim | exact unw_sound g.2 h _ a' w' hq
    | ext i fr1 σ1 => cases e <;> first | exact hq.elim | exact unw_sound g.2 h _ a' w' hq
    | done v σ1 => cases e <;> exact hq.elim
    | bad s => cases e <;> exact hq.elim
  | .lop b q :: ks, r, g, h => by
    unfold unw at h
    intro e a' w' hq
    cases r with
    | nrm fr1 σ1 => cases e <;> first | (obtain ⟨m1, h1, h2⟩ := hq; exact h b ks g.1 m1 a' w' h1 h2) | exact hq.elim
    | ret fr1 σ1 => cases e <;> first | exact hq.elim | exact unw_sound g.2 h _ a' w' hq
    | pan fr1 σ1 => cases e <;> first | exact hq.elim | exact unw_sound g.2 h _ a' w' hq
    | ext i fr1 σ1 => cases e <;> first | exact hq.elim | exact unw_sound g.2 h _ a' w' hq
    | done v σ1 => cases e <;> exact hq.elim
    | bad s => cases e <;> exact hq.elim
  | .blk id :: ks, r, g, h => by
    unfold unw at h
    intro e a' w' hq
    cases r with
    | nrm fr1 σ1 => cases e <;> first | exact hq.elim | exact unw_sound (ks := ks) (r := .nrm fr1 σ1) g h .normal a' w' hq
    | ret fr1 σ1 => cases e <;> first | exact hq.elim | exact unw_sound (ks := ks) (r := .ret fr1 σ1) g h .ret a' w' hq
    | pan fr1 σ1 => cases e <;> first | exact hq.elim | exact unw_sound (ks := ks) (r := .pan fr1 σ1) g h (.panic _) a' w' hq
    | done v σ1 => cases e <;> exact hq.elim
    | bad s => cases e <;> exact hq.elim
    | ext i fr1 σ1 =>
      cases e with
      | exit id' =>
        obtain ⟨rfl, m1, h1, h2⟩ := hq
        show if i = id then _ else _
        simp only at h
        cases hb : Nat.beq i id with
        | true =>
          rw [hb] at h
          rw [if_pos (Nat.eq_of_beq_eq_true hb)]
          exact unw_sound (ks := ks) (r := .nrm fr1 σ1) g h .normal a' w' ⟨m1, h1, h2⟩
        | false =>
          rw [hb] at h
          rw [if_neg (Nat.ne_of_beq_eq_false hb)]
          exact unw_sound (ks := ks) (r := .ext i fr1 σ1) g h (.exit i) a' w' ⟨rfl, m1, h1, h2⟩
      | _ => exact hq.elim
theorem sgo_sound {ih : Job → Fr → St → Res} (hs : Sound P ih) (hok : codeOk nt body = true) {D : HdP} : ∀ (n : Nat) {c : Code} {p : List Nat} {ks : List KI} {fr : Fr} {σ : St}, nav body p = some (c, ks) →
    ∀ {m : Mp} {a : Act} {w : World}, FrD m nt fr a → WR P m σ w → SxOk P Q nt body m σ w (sgo P ih D n c p ks fr σ) → c.wp P (MK P Q ks) a w
  | 0, c, p, ks, fr, σ, hn, m, a, w, hf, hw, h => h.1.elim
  | n + 1, c, p, ks, fr, σ, hn, m, a, w, hf, hw, h => by
    have h : SxOk P Q nt body m σ w (sgStep P ih D (sgo P ih D n) c p ks fr σ) := h
    have hc := nav_ok hok hn
    have hg := nav_gk hn
    have leaf : SxOk P Q nt body m σ w (cont (sgo P ih D n) (unw ks (ih (.code c) fr σ))) → c.wp P (MK P Q ks) a w := by
      intro h
      have hx : SxOk P Q nt body m σ w (unw ks (ih (.code c) fr σ)) := by
        cases hu : unw ks (ih (.code c) fr σ) with
        | head p' fr' σ' => rw [hu] at h; exact h
        | fin r => rw [hu] at h; exact h
        | go c' p' ks' fr' σ' =>
          rw [hu] at h
          intro m' a' w' hf' hp'
          exact sgo_sound hs hok n (unw_go hg hu) hf' hp'.wr (h.shift hp')
      exact wp_mono (hs.code nt c fr σ (unw_good hx) hc m a w hf hw) fun e a' w' hq => unw_sound hg hx e a' w' hq
    have dn : ∀ d, nav body (d :: p) = stepD d p c ks := fun d => by
      show (match nav body p with | some x => stepD d p x.1 x.2 | none => none) = _
      rw [hn]
    cases c with
    | seq x y => exact wp_seq (sgo_sound hs hok n (ks := .seq y (1 :: p) :: ks) (dn 0) hf hw h)
    | cond x y z =>
      simp only [sgStep] at h
      split at h
      · rename_i hv
        have hr := ev_sound hw hf.tm hv
        generalize hre : a.eval x = rv at hr
        cases hr
        exact wp_cond_true hre (sgo_sound hs hok n (dn 0) hf hw h)
      · rename_i hv
        have hr := ev_sound hw hf.tm hv
        generalize hre : a.eval x = rv at hr
        cases hr
        exact wp_cond_false hre (sgo_sound hs hok n (dn 1) hf hw h)
      · exact h.1.elim
    | block id x => exact wp_block (sgo_sound hs hok n (ks := .blk id :: ks) (dn 0) hf hw h)
    | loop x =>
      simp only [sgStep] at h
      split at h
      · exact loop_of (h x ks hn m a w hf (.refl hw))
      · exact leaf h
    | _ => exact leaf h

/-- What holds between the run's beginning and a head. -/
structure In0 (G : Nat) (w0 : World) (m : Mp) (w : World) : Prop where
  os : w.os = w0.os
  tape : w.tape = w0.tape
  output : w.output = w0.output
  size : w0.heap.size ≤ w.heap.size
  block : ∀ B, B < w0.heap.size → w.heap[B]? = w0.heap[B]?
  img : ∀ i im, m i = some im → w0.heap.size ≤ im.blk ∧ G ≤ i
theorem In0.start {G : Nat} {w0 : World} : In0 G w0 (fun _ => none) w0 := ⟨rfl, rfl, rfl, Nat.le_refl _, fun _ _ => rfl, fun _ _ h => by cases h⟩
theorem In0.post {w0 : World} {m m' : Mp} {σ σ' : St} {w w' : World} (h : In0 P.globals.size w0 m w) (hb : P.globals.size ≤ σ.next) (hp : Post P m σ w m' σ' w') : In0 P.globals.size w0 m' w' := by
  refine ⟨hp.kp.os.trans h.os, hp.kp.tape.trans h.tape, hp.kp.output.trans h.output, Nat.le_trans h.size hp.kp.size, fun B hB => ?_, fun i im hi => ?_⟩
  · rw [hp.kp.block B (Nat.lt_of_lt_of_le hB h.size) fun i im hi _ e => by have := (h.img i im hi).1; omega]
    exact h.block B hB
  · cases h0 : m i with
    | some im0 =>
      have := hp.ext.le _ _ h0
      rw [hi] at this; cases this
      exact h.img _ _ h0
    | none =>
      obtain ⟨a, b⟩ := hp.ext.new i im hi h0
      refine ⟨?_, Nat.le_trans hb a⟩
      rcases b with b | ⟨j, jm, hj, _, e⟩
      · exact Nat.le_trans h.size b
      · rw [← e]; exact (h.img _ _ hj).1
/-- What the whole run comes to. -/
def Fin0 (w0 : World) (e : Ending) (w' : World) : Prop :=
  e = .returned (.bool true) ∧ w'.os = w0.os ∧ w'.tape = w0.tape ∧ w'.output = w0.output ∧ w0.heap.size ≤ w'.heap.size ∧ ∀ B, B < w0.heap.size → w'.heap[B]? = w0.heap[B]?
/-- A head of a loop from which on all goes well. -/
def Hd (P : Program) (Q : Exit → Act → World → Prop) (nt : Nat) (body : Code) (gh : Option (World × Gl)) (w0 : World) (p : List Nat) (T : List SV) (L : LMem) : Prop :=
  ∀ b ks, nav body p = some (.loop b, ks) → ∀ m a w, FrD m nt ⟨putL T .nil 0, []⟩ a → WR P m (L.st gh) w → In0 P.globals.size w0 m w → LoopWp P b (MK P Q ks) a w
theorem recanon {fr : Fr} {a : Act} {m : Mp} {σ : St} {w w0 : World} {T : List SV} {L : LMem} {ρ0 ρ : Rn} (hG : P.globals.size ≤ L.next) (hT : T.length = nt) (hdf : fr.df = [])
    (h1 : mtC P.globals.size L.next T fr.tm 0 .nil = some ρ0) (h2 : mtBs P.globals.size L.next σ L.blks ρ0 .nil = some ρ) (hf : FrD m nt fr a) (hw : WR P m σ w) (hi : In0 P.globals.size w0 m w) :
    ∃ m0, FrD m0 nt ⟨putL T .nil 0, []⟩ a ∧ WR P m0 (L.st σ.gh) w ∧ In0 P.globals.size w0 m0 w := by
  generalize hGe : P.globals.size = G at *
  obtain ⟨a1, a2, a3⟩ := mtC_ok h1
  obtain ⟨b1, b2, b3⟩ := mtBs_ok h2
  have hD0 : InD G L.next .nil := fun a k ha => by
    unfold lk at ha
    split at ha
    · rename_i e; have : a < G := Nat.le_of_ble_eq_true e; omega
    · rw [Tr.get_nil] at ha; cases ha
  have hD := b2 (a2 hD0)
  obtain ⟨hx, hpw⟩ := b3 ρ .refl hD
  have img : ∀ b y, fnd b L.blks = some y → ∃ k, lk G ρ b = some k ∧ b < L.next ∧ XR G L.next ρ y (σ.get k) := fun b y h => by
    obtain ⟨k, e1, e2, -, e4⟩ := hx _ (fnd_mem h); exact ⟨k, e1, e2, e4⟩
  have inj : ∀ b b' y y', fnd b L.blks = some y → fnd b' L.blks = some y' → lk G ρ b = lk G ρ b' → b = b' := fun b b' y y' h1 h2 e =>
    congrArg Prod.fst (pw_inj hpw _ (fnd_mem h1) _ (fnd_mem h2) e)
  have hAget : ∀ i, (L.st σ.gh).get i = match fnd i L.blks with | some x => x.blk | none => .dead := fun i => heapOf_fnd
  have hAlive : ∀ i, (L.st σ.gh).get i ≠ .dead → ∃ y, fnd i L.blks = some y := fun i hi => by
    rw [hAget] at hi
    cases hy : fnd i L.blks with
    | none => rw [hy] at hi; exact absurd rfl hi
    | some y => exact ⟨y, rfl⟩
  have hlkg : ∀ g, g < G → lk G ρ g = some g := fun g hg => by
    have : Nat.blt g G = true := Nat.ble_eq_true_of_le hg
    simp only [lk, this]
  refine ⟨m0of G L.next ρ m, ⟨⟨fun t => ?_⟩, ?_, hf.sz⟩, ?_, ?_⟩
  · show VR _ ((putL T .nil 0).get .undef t) (a.tmps.getD t undef)
    by_cases h : t < nt
    · obtain ⟨u, hu⟩ : ∃ u, T[t]? = some u := ⟨_, List.getElem?_eq_getElem (by omega)⟩
      have := putL_in (c := .nil) (i := 0) hu
      rw [Nat.zero_add] at this
      rw [this]
      have hk := (a3 ρ b1 hD t u hu).1 m (a.tmps.getD t undef)
      rw [Nat.zero_add] at hk
      exact hk (hf.tm.tm t)
    · rw [putL_out (by omega), Tr.get_nil]
      have : a.tmps.getD t undef = undef := by
        rw [Array.getD_eq_getD_getElem?, Array.getElem?_eq_none (by rw [hf.sz]; omega)]; rfl
      rw [this]; exact .undef
  · have := hf.df
    rw [hdf] at this
    generalize a.defers = dd at this
    cases this
    exact .nil
  · refine ⟨fun i im hi => ?_, fun i im hi => ?_, fun i j im jm hi hj di dj e => ?_, fun i hi => ?_, fun g im hg hi => ?_, by rw [hGe]; exact hG, fun W0 L0 hW => ?_⟩
    · obtain ⟨h1, k, h2, h3⟩ := m0of_inv hi; exact ⟨h1, (hw.dom _ _ h3).2⟩
    · obtain ⟨h1, k, h2, h3⟩ := m0of_inv hi
      rw [hAget]
      cases hy : fnd i L.blks with
      | none => exact .dead
      | some y =>
        obtain ⟨k', e1, e2, e3⟩ := img i y hy
        rw [h2] at e1; cases e1
        exact e3.2.1 m im _ (hw.blk _ _ h3)
    · obtain ⟨y, hy⟩ := hAlive i di
      obtain ⟨z, hz⟩ := hAlive j dj
      obtain ⟨-, k, h2, h3⟩ := m0of_inv hi
      obtain ⟨-, k', h2', h3'⟩ := m0of_inv hj
      obtain ⟨_, e1, _, e3⟩ := img i y hy
      rw [h2] at e1; cases e1
      obtain ⟨_, e1', _, e3'⟩ := img j z hz
      rw [h2'] at e1'; cases e1'
      have := hw.inj k k' im jm h3 h3' e3.1 e3'.1 e
      subst this
      exact inj i j y z hy hz (h2.trans h2'.symm)
    · obtain ⟨y, hy⟩ := hAlive i hi
      obtain ⟨k, e1, e2, e3⟩ := img i y hy
      obtain ⟨im, him⟩ := hw.live k e3.1
      exact ⟨im, m0of_some e2 e1 him⟩
    · rw [hGe] at hg
      obtain ⟨_, k, h2, h3⟩ := m0of_inv hi
      rw [hlkg g hg] at h2; cases h2
      exact hw.glob _ _ (by rw [hGe]; exact hg) h3
    · obtain ⟨i1, i2, i3, i4⟩ := hw.inv W0 L0 hW
      refine ⟨i1, i2, fun i im hi => ?_, i4⟩
      obtain ⟨_, k, _, h3⟩ := m0of_inv hi
      exact i3 _ _ h3
  · refine ⟨hi.os, hi.tape, hi.output, hi.size, hi.block, fun i im hm => ?_⟩
    obtain ⟨_, k, h2, h3⟩ := m0of_inv hm
    refine ⟨(hi.img _ _ h3).1, ?_⟩
    rcases Nat.lt_or_ge i G with h | h
    · rw [hlkg i h] at h2; cases h2
      exact (hi.img _ _ h3).2
    · exact h
/-- Where a piece of the run leads. -/
theorem nx_head {w0 : World} {gh : Option (World × Gl)} {m : Mp} {σ : St} {w : World} {p1 : List Nat} {T1 : List SV} {L1 : LMem} {x : Sx} (h : atHead P.globals.size nt p1 T1 L1 x = true) (hg : σ.gh = gh) (hb : P.globals.size ≤ σ.next)
    (hi : In0 P.globals.size w0 m w) (hd : Hd P Q nt body gh w0 p1 T1 L1) : SxOk P Q nt body m σ w x := by
  unfold atHead at h
  split at h
  case h_2 => cases h
  rename_i p fr σ1
  simp only [Bool.and_eq_true] at h
  obtain ⟨⟨⟨⟨h1, h2⟩, h3⟩, h4⟩, h5⟩ := h
  obtain rfl := numsEq_sound h1
  split at h5
  case h_2 => cases h5
  rename_i ρ0 e0
  split at h5
  case h_2 => cases h5
  rename_i ρ e1
  intro b ks hn m' a' w' hf hp
  obtain ⟨m0, f0, wr0, i0⟩ := recanon (Nat.le_of_ble_eq_true h2) (Nat.eq_of_beq_eq_true h3) (List.isEmpty_iff.1 h4) e0 e1 hf hp.wr (hi.post hb hp)
  rw [hp.gh, hg] at wr0
  exact hd b ks hn m0 a' w' f0 wr0 i0
theorem nx_fin {fn : Func} {w0 : World} {m : Mp} {σ : St} {w : World} {x : Sx} (h : isFin P fn x = true) (hb : P.globals.size ≤ σ.next) (hi : In0 P.globals.size w0 m w) :
    SxOk P (bodyPostD P fn (Fin0 w0)) fn.ntmps body m σ w x := by
  have main : ∀ (fr : Fr) (σ1 : St) (m1 : Mp) (a1 : Act) (w1 : World), (fr.df.isEmpty && (match Go.YtghdjomjcododaaGreatDoorEv.results P fn fr σ1 with | .done (.bool true) _ => true | _ => false)) = true → FrD m1 fn.ntmps fr a1 → Post P m σ w m1 σ1 w1 →
      Leaves P fn a1.tmps (Fin0 w0) a1.defers .returning w1 := by
    intro fr σ1 m1 a1 w1 h hf hp
    rw [Bool.and_eq_true] at h
    obtain ⟨h0, h⟩ := h
    have hdf := hf.df
    rw [List.isEmpty_iff.1 h0] at hdf
    split at h
    case h_2 => cases h
    rename_i σ2 hl
    have hi1 := hi.post hb hp
    obtain ⟨e, v', h3, h4⟩ := results_sound hp.wr hf.tm.tm hl
    cases h4
    generalize a1.defers = dd at hdf
    cases hdf
    exact ⟨_, h3, rfl, hi1.os, hi1.tape, hi1.output, hi1.size, hi1.block⟩
  unfold isFin at h
  split at h
  · rename_i fr σ1
    refine ⟨trivial, fun e a' w' hq => ?_⟩
    cases e <;> first | exact hq.elim | skip
    obtain ⟨m1, h1, h2⟩ := hq
    exact main fr σ1 m1 a' w' h h1 h2
  · rename_i fr σ1
    refine ⟨trivial, fun e a' w' hq => ?_⟩
    cases e <;> first | exact hq.elim | skip
    obtain ⟨m1, h1, h2⟩ := hq
    exact main fr σ1 m1 a' w' h h1 h2
  · cases h
theorem seg_sound {ih : Job → Fr → St → Res} (hs : Sound P ih) (hok : codeOk nt body = true) {D : HdP} {n : Nat} {gh : Option (World × Gl)} {w0 : World} {p : List Nat} {T : List SV} {L : LMem}
    (h : ∀ m w, In0 P.globals.size w0 m w → WR P m (L.st gh) w → SxOk P Q nt body m (L.st gh) w (segFrom P ih D n body gh p T L)) : Hd P Q nt body gh w0 p T L := by
  intro b ks hn m a w hf hw hi
  have h := h m w hi hw
  unfold segFrom at h
  rw [hn] at h
  refine loop_round (sgo_sound hs hok n (ks := .lop b p :: ks) ?_ hf hw h)
  show (match nav body p with | some x => stepD 0 p x.1 x.2 | none => none) = _
  rw [hn]; rfl
/-- From a head to a head. -/
theorem seg_to {ih : Job → Fr → St → Res} (hs : Sound P ih) (hok : codeOk nt body = true) {D : HdP} {n : Nat} {gh : Option (World × Gl)} {w0 : World} {p p1 : List Nat} {T T1 : List SV} {L L1 : LMem}
    (h : atHead P.globals.size nt p1 T1 L1 (segFrom P ih D n body gh p T L) = true) (hd : Hd P Q nt body gh w0 p1 T1 L1) : Hd P Q nt body gh w0 p T L :=
  seg_sound hs hok fun m w hi hw => nx_head h rfl hw.big hi hd
/-- From a head to the end. -/
theorem seg_end {ih : Job → Fr → St → Res} (hs : Sound P ih) {fn : Func} (hok : codeOk fn.ntmps body = true) {D : HdP} {n : Nat} {gh : Option (World × Gl)} {w0 : World} {p : List Nat} {T : List SV} {L : LMem}
    (h : isFin P fn (segFrom P ih D n body gh p T L) = true) : Hd P (bodyPostD P fn (Fin0 w0)) fn.ntmps body gh w0 p T L :=
  seg_sound hs hok fun m w hi hw => nx_fin h hw.big hi
/-- The whole. -/
theorem seg_top {ih : Job → Fr → St → Res} (hs : Sound P ih) {f : FuncId} {fn : Func} (hfn : fnc P f = some fn) (hbd : fn.body = some body) (hok : codeOk fn.ntmps body = true) {D : HdP} {n : Nat} {gh : Option (World × Gl)} {w0 : World} {args : List SV} {args' : Array Value}
    {p1 : List Nat} {T1 : List SV} {L1 : LMem} (hle : args.length ≤ fn.ntmps) (ha : VRs (fun _ => none) args args'.toList) (hw : WR P (fun _ => none) ⟨P.globals.size, .nil, gh⟩ w0)
    (h : atHead P.globals.size fn.ntmps p1 T1 L1 (sgo P ih D n body [] [] ⟨putL args .nil 0, []⟩ ⟨P.globals.size, .nil, gh⟩) = true) (hd : Hd P (bodyPostD P fn (Fin0 w0)) fn.ntmps body gh w0 p1 T1 L1) :
    Calls P f args' w0 (Fin0 w0) :=
  calls_of_wp_defers ((fnc_eq P f).symm.trans hfn) hbd (sgo_sound (ks := []) hs hok n rfl (args_fr ha hle) hw (nx_head h rfl (Nat.le_refl _) .start hd))
/-- What stands in one of the temporaries, in other words. -/
theorem Hd.put {gh : Option (World × Gl)} {w0 : World} {p : List Nat} {T T' : List SV} {L : LMem} (hl : T'.length = T.length) (h : ∀ (m : Mp) (i : Nat) (v : Value) u u', T[i]? = some u → T'[i]? = some u' → VR m u v → VR m u' v)
    (hd : Hd P Q nt body gh w0 p T' L) : Hd P Q nt body gh w0 p T L := by
  intro b ks hn m a w hf hw hi
  refine hd b ks hn m a w ⟨⟨fun t => ?_⟩, hf.df, hf.sz⟩ hw hi
  have ht := hf.tm.tm t
  show VR m ((putL T' .nil 0).get .undef t) _
  have ht : VR m ((putL T .nil 0).get .undef t) (a.tmps.getD t undef) := ht
  by_cases e : t < T.length
  · obtain ⟨u, hu⟩ : ∃ u, T[t]? = some u := ⟨_, List.getElem?_eq_getElem e⟩
    obtain ⟨u', hu'⟩ : ∃ u', T'[t]? = some u' := ⟨_, List.getElem?_eq_getElem (by omega)⟩
    have e1 := putL_in (c := .nil) (i := 0) hu
    have e2 := putL_in (c := .nil) (i := 0) hu'
    rw [Nat.zero_add] at e1 e2
    rw [e1] at ht
    rw [e2]
    exact h m t _ u u' hu hu' ht
  · rw [putL_out (by omega)] at ht ⊢
    exact ht
end
end Go.YtghdjomjcododaaGreatDoorEv
