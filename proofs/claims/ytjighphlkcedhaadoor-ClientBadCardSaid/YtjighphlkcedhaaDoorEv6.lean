/- An evaluator for the program's own code: numbers, strings, equality. (text 6) -/
import Derived.Test.YtjighphlkcedhaaDoorEv5
import Derived.Laws.Entries
import Derived.Laws.StructEq
import Derived.ChangeKeysEq
import Derived.Laws.Strings
import Derived.Laws.BytesString
import Derived.Laws.Slices
import Derived.IntWalk
set_option linter.unusedVariables false
set_option linter.unusedSimpArgs false
namespace Go.YtjighphlkcedhaaDoorEv
open Go
set_option linter.unusedSectionVars false
variable [Lane]

theorem wr_eq (k : IntKind) (n : Int) : wr k n = k.wrap n := by
  unfold wr
  split
  · rename_i a
    split
    · rename_i h
      have h := Nat.le_of_ble_eq_true h
      symm
      have e : Int.ofNat a = (a : Int) := rfl
      rw [e]
      cases k <;> simp only [kmax] at h
      · exact IntWalk.i8_in _ (by omega)
      · exact IntWalk.i16_in _ (by omega)
      · exact IntWalk.i32_in _ (by omega)
      · exact IntWalk.i64_in _ (by omega)
      · exact IntWalk.u8_in _ (by omega)
      · exact IntWalk.u16_in _ (by omega)
      · exact IntWalk.u32_in _ (by omega)
      · exact IntWalk.u64_in _ (by omega)
    · rfl
  · rename_i a
    split
    · rename_i h
      have h := Nat.le_of_ble_eq_true h
      symm
      cases k <;> simp only [kneg] at h
      · exact IntWalk.i8_in _ (by omega)
      · exact IntWalk.i16_in _ (by omega)
      · exact IntWalk.i32_in _ (by omega)
      · exact IntWalk.i64_in _ (by omega)
      all_goals omega
    · rfl
theorem iEq_eq (a b : Int) : iEq a b = (a == b) := by
  unfold iEq
  split
  · rename_i a b; rw [Bool.eq_iff_iff]; simp; omega
  · rename_i a b; rw [Bool.eq_iff_iff]; simp
  · rename_i h1 h2
    symm
    rw [beq_eq_false_iff_ne]
    intro e
    subst e
    cases a with
    | ofNat a => exact h1 a a rfl rfl
    | negSucc a => exact h2 a a rfl rfl
theorem iLe_eq (a b : Int) : iLe a b = decide (a ≤ b) := by
  unfold iLe
  split
  · rename_i a b; rw [Bool.eq_iff_iff]; simp
  · rename_i a b; rw [Bool.eq_iff_iff]; simp; omega
  · rename_i a b; symm; rw [decide_eq_true_iff]; simp; omega
  · rename_i a b; symm; rw [decide_eq_false_iff_not]; simp; omega
theorem kEq_eq {k k' : IntKind} (h : kEq k k' = true) : k = k' := by
  cases k <;> cases k' <;> first | rfl | cases h
/-! lanes -/
theorem SV.same_eq {a b : SV} (h : SV.same a b = true) : a = b := by
  cases a <;> cases b <;> first
    | (cases h; done)
    | (simp only [SV.same, Bool.and_eq_true] at h; rw [kEq_eq h.1]; have := h.2; rw [iEq_eq] at this; rw [eq_of_beq this])
    | (simp only [SV.same, Bool.and_eq_true] at h; rw [Nat.eq_of_beq_eq_true h.1, Nat.eq_of_beq_eq_true h.2])
    | (simp only [SV.same] at h; rw [eq_of_beq h])
theorem lanLit {l : List SV} {u : SV} (hu : l[Lane.x]? = some u) (hl : u.lit = true) {m : Mp} {v' : Value} (h : VR m u v') : VR m (.lan l) v' := by
  cases h <;> first
    | (cases hl; done)
    | exact .lanI hu
    | exact .lanS hu ‹_› ‹_›
/-- 'v' holds of whatever 'u' holds of. -/
def Wider (v u : SV) : Prop := ∀ (m : Mp) (v' : Value), VR m u v' → VR m v v'
theorem Wider.refl (v : SV) : Wider v v := fun _ _ h => h
theorem packL_ok {l : List SV} {v u : SV} (h : packL l = some v) (hu : l[Lane.x]? = some u) : Wider v u := by
  cases l with
  | nil => cases h
  | cons a r =>
    have h : (match r.all (SV.same a) with | true => some a | false => match a.lit && r.all SV.lit with | true => some (.lan (a :: r)) | false => none) = some v := h
    split at h
    · rename_i hs
      have hav : a = v := Option.some.inj h
      have e : a = u := by
        cases hx : Lane.x with
        | zero => rw [hx] at hu; simpa using hu
        | succ n =>
          rw [hx, List.getElem?_cons_succ] at hu
          exact SV.same_eq (List.all_eq_true.1 hs u (List.mem_of_getElem? hu))
      rw [← hav, e]
      exact .refl _
    · split at h
      · rename_i hs
        cases h
        intro m v' hv
        refine lanLit hu ?_ hv
        rw [Bool.and_eq_true] at hs
        cases hx : Lane.x with
        | zero => rw [hx] at hu; simp at hu; subst hu; exact hs.1
        | succ n =>
          rw [hx, List.getElem?_cons_succ] at hu
          exact List.all_eq_true.1 hs.2 u (List.mem_of_getElem? hu)
      · cases h
noncomputable def atI (i : Nat) : SV → Option SV
  | .lan l => l[i]?
  | v => some v
/-- The values of one lane. -/
noncomputable def laneAt (i : Nat) : List SV → Option (List SV)
  | [] => some []
  | v :: r => match atI i v, laneAt i r with
    | some a, some b => some (a :: b)
    | _, _ => none
theorem headsL_ok : ∀ {l h t : List SV}, headsL l = some (h, t) → laneAt 0 l = some h ∧ ∀ i, laneAt (i + 1) l = laneAt i t
  | [], h, t, e => by cases e; exact ⟨rfl, fun _ => rfl⟩
  | v :: r, h, t, e => by
    unfold headsL at e
    split at e
    · cases e
    · rename_i h1 t1 hr
      obtain ⟨i1, i2⟩ := headsL_ok hr
      split at e
      · cases e
      · rename_i a l
        cases e
        refine ⟨by simp [laneAt, atI, i1], fun i => ?_⟩
        simp [laneAt, atI, i2 i]
      · rename_i n1 n2
        cases e
        have hn : ∀ i : Nat, atI i v = some v := by
          intro i
          cases v <;> first
            | rfl
            | (rename_i l; cases l with
                | nil => exact (n1 rfl).elim
                | cons a l => exact (n2 _ _ rfl).elim)
        refine ⟨by unfold laneAt; rw [hn, i1], fun i => ?_⟩
        show laneAt (i + 1) (v :: r) = laneAt i (v :: t1)
        unfold laneAt
        rw [hn, hn, i2 i]
theorem eachL_ok {f : List SV → Option SV} : ∀ {n : Nat} {l us : List SV}, eachL f n l = some us → ∀ i, i < n → ∃ k u, laneAt i l = some k ∧ us[i]? = some u ∧ f k = some u
  | 0, _, _, _, i, hi => by omega
  | n + 1, l, us, h, i, hi => by
    unfold eachL at h
    split at h
    · cases h
    · rename_i h1 t1 hh
      obtain ⟨i1, i2⟩ := headsL_ok hh
      split at h
      · rename_i u us' hu hus
        cases h
        cases i with
        | zero => exact ⟨_, _, i1, rfl, hu⟩
        | succ i =>
          obtain ⟨k, v, e1, e2, e3⟩ := eachL_ok hus i (by omega)
          exact ⟨k, v, by rw [i2, e1], by rw [List.getElem?_cons_succ, e2], e3⟩
      · cases h
theorem VR.lan_inv {m : Mp} {l : List SV} {v' : Value} (h : VR m (.lan l) v') : ∃ a, l[Lane.x]? = some a ∧ VR m a v' ∧ a.lit = true := by
  cases h with
  | lanI h => exact ⟨_, h, .int .., rfl⟩
  | lanS h hn hp => exact ⟨_, h, .str hn hp, rfl⟩
theorem laneAt_ok {m : Mp} : ∀ {l k : List SV} {l' : List Value}, VRs m l l' → laneAt Lane.x l = some k → VRs m k l'
  | _, _, _, .nil, h => by cases h; exact .nil
  | _, _, _, .cons (v := v) hv hs, h => by
    unfold laneAt at h
    split at h
    · rename_i a b ha hb
      cases h
      refine .cons ?_ (laneAt_ok hs hb)
      cases v <;> first
        | (cases ha; exact hv)
        | (obtain ⟨a', e1, e2, -⟩ := hv.lan_inv
           have ha := ha
           have ha : _ = some a := ha
           simp only [atI, e1] at ha
           cases ha
           exact e2)
    · cases h
theorem lanesN_ok {m : Mp} : ∀ {l : List SV} {l' : List Value}, VRs m l l' → lanesN l = 0 ∨ Lane.x < lanesN l
  | _, _, .nil => .inl rfl
  | _, _, .cons (v := v) hv hs => by
    unfold lanesN
    split
    · rename_i e; cases e
    · rename_i e
      cases e
      obtain ⟨a', e1, -, -⟩ := hv.lan_inv
      exact .inr (List.getElem?_eq_some_iff.1 e1).1
    · rename_i e
      cases e
      exact lanesN_ok hs
theorem lanes_ok {m : Mp} {f : List SV → Option SV} {l : List SV} {v : SV} {l' : List Value} (h : lanes f l = some v) (hl : VRs m l l') : ∃ k u, VRs m k l' ∧ f k = some u ∧ Wider v u ∧ laneAt Lane.x l = some k := by
  unfold lanes at h
  cases he : eachL f (lanesN l) l with
  | none => rw [he] at h; cases h
  | some us =>
    rw [he] at h
    have h : packL us = some v := h
    rcases lanesN_ok hl with h0 | h0
    · rw [h0] at he
      cases he
      cases h
    · obtain ⟨k, u, e1, e2, e3⟩ := eachL_ok he _ h0
      exact ⟨k, u, laneAt_ok hl e1, e3, packL_ok h e2, e1⟩
theorem VRs.one_inv {m : Mp} {k : List SV} {a' : Value} (h : VRs m k [a']) : ∃ a, k = [a] ∧ VR m a a' := by
  cases h with | cons h hs => cases hs; exact ⟨_, rfl, h⟩
theorem VRs.two_inv {m : Mp} {k : List SV} {a' b' : Value} (h : VRs m k [a', b']) : ∃ a b, k = [a, b] ∧ VR m a a' ∧ VR m b b' := by
  cases h with | cons h hs => obtain ⟨b, rfl, hb⟩ := hs.one_inv; exact ⟨_, _, rfl, h, hb⟩
theorem VRs.three_inv {m : Mp} {k : List SV} {a' b' c' : Value} (h : VRs m k [a', b', c']) : ∃ a b c, k = [a, b, c] ∧ VR m a a' ∧ VR m b b' ∧ VR m c c' := by
  cases h with | cons h hs => obtain ⟨b, c, rfl, hb, hc⟩ := hs.two_inv; exact ⟨_, _, _, rfl, h, hb, hc⟩
/-! numbers between two numbers -/
theorem rngL_ok : ∀ {r : List SV} {l : List (Int × Int)} {i : Nat} {u : SV}, rngL r = some l → r[i]? = some u → ∃ a, u = .int .i64 a ∧ l[i]? = some (a, a)
  | [], _, _, _, _, h => by simp at h
  | v :: r, l, i, u, h, hu => by
    unfold rngL at h
    split at h
    · rename_i e; cases e
    · rename_i a r' e
      cases e
      split at h
      · rename_i r2 hr
        cases h
        cases i with
        | zero => simp at hu; subst hu; exact ⟨a, rfl, rfl⟩
        | succ i => simpa using rngL_ok hr (by simpa using hu)
      · cases h
    · cases h
theorem rngOf_ok {m : Mp} {n : Nat} {v : SV} {v' : Value} {l : List (Int × Int)} (hv : VR m v v') (hn : Lane.x < n) (h : rngOf n v = some l) : ∃ a p, v' = .int .i64 a ∧ l[Lane.x]? = some p ∧ p.1 ≤ a ∧ a ≤ p.2 := by
  unfold rngOf at h
  split at h
  · cases h; cases hv
    exact ⟨_, _, rfl, by rw [List.getElem?_replicate, if_pos hn], Int.le_refl _, Int.le_refl _⟩
  · rename_i r
    obtain ⟨u, e1, e2, -⟩ := hv.lan_inv
    obtain ⟨a, rfl, hp⟩ := rngL_ok h e1
    cases e2
    exact ⟨_, _, rfl, hp, Int.le_refl _, Int.le_refl _⟩
  · cases h; cases hv
    rename_i lo hi a h2 h3 h1
    exact ⟨_, _, rfl, h1, h2, h3⟩
  · cases h
theorem rngN_ok {m : Mp} {x y : SV} {x' y' : Value} (hx : VR m x x') (hy : VR m y y') (h : (isRng x || isRng y) = true) : Lane.x < rngN x y := by
  cases x with
  | rng l => cases hx with | rng h1 _ _ => exact (List.getElem?_eq_some_iff.1 h1).1
  | _ =>
    cases y with
    | rng l => cases hy with | rng h1 _ _ => exact (List.getElem?_eq_some_iff.1 h1).1
    | _ => cases h
theorem zipR_ok {f : Int × Int → Int × Int → Option (Int × Int)} : ∀ {l k r : List (Int × Int)} {i : Nat} {a b : Int × Int}, zipR f l k = some r → l[i]? = some a → k[i]? = some b → ∃ c, f a b = some c ∧ r[i]? = some c
  | [], _, _, _, _, _, _, h, _ => by simp at h
  | _ :: _, [], _, _, _, _, _, _, h => by simp at h
  | x :: l, y :: k, r, i, a, b, h, ha, hb => by
    unfold zipR at h
    split at h
    · rename_i c r' hc hr
      cases h
      cases i with
      | zero => simp at ha hb; subst ha hb; exact ⟨c, hc, rfl⟩
      | succ i => simpa using zipR_ok hr (by simpa using ha) (by simpa using hb)
    · cases h
theorem zipT_ok {f : Int × Int → Int × Int → Bool} : ∀ {l k : List (Int × Int)} {i : Nat} {a b : Int × Int}, zipT f l k = true → l[i]? = some a → k[i]? = some b → f a b = true
  | [], _, _, _, _, _, h, _ => by simp at h
  | _ :: _, [], _, _, _, _, _, h => by simp at h
  | x :: l, y :: k, i, a, b, h, ha, hb => by
    unfold zipT at h
    rw [Bool.and_eq_true] at h
    cases i with
    | zero => simp at ha hb; subst ha hb; exact h.1
    | succ i => exact zipT_ok h.2 (by simpa using ha) (by simpa using hb)
theorem decR_ok {l k : List (Int × Int)} {yes no : Int × Int → Int × Int → Bool} {v : SV} {i : Nat} {a b : Int × Int} (h : decR l k yes no = some v) (ha : l[i]? = some a) (hb : k[i]? = some b) : (v = .bool true ∧ yes a b = true) ∨ (v = .bool false ∧ no a b = true) := by
  unfold decR at h
  split at h
  · rename_i hz; cases h; exact .inl ⟨rfl, zipT_ok hz ha hb⟩
  · split at h
    · rename_i hz; cases h; exact .inr ⟨rfl, zipT_ok hz ha hb⟩
    · cases h
theorem minI_eq (a b : Int) : minI a b = if b < a then b else a := by
  unfold minI
  split
  · rename_i h; rw [iLe_eq] at h; have := of_decide_eq_true h; rw [if_neg (by omega)]
  · rename_i h; rw [iLe_eq] at h; have := of_decide_eq_false h; rw [if_pos (by omega)]
theorem okI_ok {a : Int} (h : okI a = true) : -9223372036854775808 ≤ a ∧ a ≤ 9223372036854775807 := by
  unfold okI at h
  rw [Bool.and_eq_true, iLe_eq, iLe_eq] at h
  exact ⟨of_decide_eq_true h.1, of_decide_eq_true h.2⟩
theorem iBits_sound {op : BinOp} {k : IntKind} {x y : Int} {v : SV} (P : Program) (w : World) (h : iBits op k x y = some v) :
    ∃ n, v = .int k n ∧ (Op.intBits op k x y).run P w = .ok (.int k n) w := by
  have e : ∀ z : Int, (BitVec.ofInt k.bits z).toNat = (z % ((2 ^ k.bits : Nat) : Int)).toNat := fun z => BitVec.toNat_ofInt ..
  have lt : ∀ z : Int, (z % ((2 ^ k.bits : Nat) : Int)).toNat < 2 ^ k.bits := fun z => by rw [← e]; exact BitVec.isLt _
  unfold iBits at h
  split at h
  case h_5 => cases h
  all_goals
    cases h
    refine ⟨_, rfl, ?_⟩
    unfold Op.intBits
    simp only [Sem.run_pure, BitVec.toNat_and, BitVec.toNat_or, BitVec.toNat_xor, BitVec.toNat_not, e]
    rfl
theorem iBin_sound {op : BinOp} {k : IntKind} {x y : Int} {v : SV} (P : Program) (w : World) (t : TypeId) (m : Mp) (hs : op ≠ .shl) (hr : op ≠ .shr) (h : iBin op k x y = some v) :
    ∃ v', (binOp op t (.int k x) (.int k y)).run P w = .ok v' w ∧ VR m v v' := by
  have hd : ∀ {v : SV} {u : Int → Int → Int} {f : Int → Int}, True := fun {_ _ _} => trivial
  unfold iBin at h
  split at h
  · cases h; exact ⟨.int k (k.wrap (x + y)), by simp [binOp, Op.intArith], by rw [wr_eq]; exact .int ..⟩
  · cases h; exact ⟨.int k (k.wrap (x - y)), by simp [binOp, Op.intArith], by rw [wr_eq]; exact .int ..⟩
  · cases h; exact ⟨.int k (k.wrap (x * y)), by simp [binOp, Op.intArith], by rw [wr_eq]; exact .int ..⟩
  · split at h
    · cases h
    · rename_i hz; cases h
      rw [iEq_eq] at hz
      have hz : ¬ y = 0 := by simpa using hz
      exact ⟨.int k (k.wrap (x.tdiv y)), by simp [binOp, Op.intDiv, hz], by rw [wr_eq]; exact .int ..⟩
  · split at h
    · cases h
    · rename_i hz; cases h
      rw [iEq_eq] at hz
      have hz : ¬ y = 0 := by simpa using hz
      exact ⟨_, by simp [binOp, Op.intDiv, hz], .int ..⟩
  · cases h; exact ⟨.bool (x == y), by simp [binOp, Op.intCmp], by rw [iEq_eq]; exact .bool _⟩
  · cases h; exact ⟨.bool (x != y), by simp [binOp, Op.intCmp], by rw [iEq_eq]; exact .bool _⟩
  · cases h
    refine ⟨.bool (decide (x < y)), by simp [binOp, Op.intCmp], ?_⟩
    rw [iLe_eq]
    have : (!decide (y ≤ x)) = decide (x < y) := by rw [Bool.eq_iff_iff]; simp
    rw [this]; exact .bool _
  · cases h; exact ⟨.bool (decide (x ≤ y)), by simp [binOp, Op.intCmp], by rw [iLe_eq]; exact .bool _⟩
  · cases h
    refine ⟨.bool (decide (x > y)), by simp [binOp, Op.intCmp], ?_⟩
    rw [iLe_eq]
    have : (!decide (x ≤ y)) = decide (x > y) := by rw [Bool.eq_iff_iff]; simp
    rw [this]; exact .bool _
  · cases h
    refine ⟨.bool (decide (x ≥ y)), by simp [binOp, Op.intCmp], ?_⟩
    rw [iLe_eq]; exact .bool _
  · obtain ⟨n, rfl, hrun⟩ := iBits_sound P w h
    refine ⟨_, ?_, .int k n⟩
    unfold iBits at h
    cases op <;> first | (simp at h; done) | (simp [binOp]; exact hrun)
theorem iShift_sound {op : BinOp} {k yk : IntKind} {x y : Int} {v : SV} (P : Program) (w : World) (m : Mp) (h : iShift op k x y = some v) :
    ∃ v', (Op.shift op k x yk y).run P w = .ok v' w ∧ VR m v v' := by
  unfold iShift at h
  split at h
  · cases h
  · rename_i hy
    rw [iLe_eq] at hy
    have hy : ¬ y < 0 := by simpa using hy
    simp only at h
    split at h
    · cases h
      refine ⟨.int k (k.wrap (x * 2 ^ min y.toNat k.bits)), by simp [Op.shift, hy], ?_⟩
      rw [wr_eq]; push_cast; exact .int ..
    · cases h
      refine ⟨.int k (x.fdiv (2 ^ min y.toNat k.bits)), by simp [Op.shift, hy], ?_⟩
      push_cast; exact .int ..
    · cases h

/-! strings -/
theorem pk_lt : ∀ l : List UInt8, pk l < 256 ^ l.length
  | [] => by simp [pk]
  | b :: l => by
    have := pk_lt l
    have hb : b.toNat < 256 := b.toNat_lt
    simp only [pk, List.length_cons, Nat.pow_succ]
    omega
theorem pk_append : ∀ (l k : List UInt8), pk (l ++ k) = pk l + pk k * 256 ^ l.length
  | [], k => by simp [pk]
  | b :: l, k => by
    simp only [List.cons_append, pk, pk_append l k, List.length_cons, Nat.pow_succ]
    rw [Nat.mul_add, Nat.add_assoc, Nat.mul_comm 256 (pk k * _), Nat.mul_assoc]
theorem pk_inj : ∀ {l k : List UInt8}, l.length = k.length → pk l = pk k → l = k
  | [], [], _, _ => rfl
  | b :: l, c :: k, h, e => by
    have hb : b.toNat < 256 := b.toNat_lt
    have hc : c.toNat < 256 := c.toNat_lt
    simp only [pk] at e
    have h1 : b.toNat = c.toNat := by omega
    have h2 : pk l = pk k := by omega
    rw [UInt8.toNat_inj.1 h1, pk_inj (by simpa using h) h2]
theorem pk_div : ∀ (l : List UInt8) (i : Nat), pk l / 256 ^ i = pk (l.drop i)
  | l, 0 => by simp
  | [], i + 1 => by simp [pk]
  | b :: l, i + 1 => by
    have hb : b.toNat < 256 := b.toNat_lt
    rw [List.drop_succ_cons, ← pk_div l i, Nat.pow_succ, Nat.mul_comm, ← Nat.div_div_eq_div_mul]
    congr 1
    simp only [pk]; omega
theorem pk_mod : ∀ (l : List UInt8) (i : Nat), pk l % 256 ^ i = pk (l.take i)
  | l, 0 => by simp [pk, Nat.mod_one]
  | [], i + 1 => by simp [pk]
  | b :: l, i + 1 => by
    have hb : b.toNat < 256 := b.toNat_lt
    have h1 : (b.toNat + 256 * pk l) / 256 = pk l := by omega
    show (b.toNat + 256 * pk l) % 256 ^ (i + 1) = b.toNat + 256 * pk (l.take i)
    rw [← pk_mod l i, Nat.pow_succ, Nat.mul_comm (256 ^ i) 256, Nat.mod_mul, Nat.add_mul_mod_self_left, Nat.mod_eq_of_lt hb, h1]
theorem unpk_pk : ∀ (l : List UInt8), unpk l.length (pk l) = l.map UInt8.toNat
  | [] => rfl
  | b :: l => by
    have hb : b.toNat < 256 := b.toNat_lt
    simp only [List.length_cons, unpk, pk, List.map_cons]
    have h1 : (b.toNat + 256 * pk l) % 256 = b.toNat := by omega
    have h2 : (b.toNat + 256 * pk l) / 256 = pk l := by omega
    rw [h1, h2, unpk_pk l]
theorem pk_at {l : List UInt8} {i : Nat} (h : i < l.length) : pk l / 256 ^ i % 256 = l[i].toNat := by
  rw [pk_div]
  have : l.drop i = l[i] :: l.drop (i + 1) := List.drop_eq_getElem_cons h
  rw [this, pk]
  have hb := l[i].toNat_lt
  omega
theorem natsLt_eq : ∀ (l k : List UInt8), natsLt (l.map UInt8.toNat) (k.map UInt8.toNat) = Op.bytesLess l k
  | _, [] => by simp [natsLt, Op.bytesLess]
  | [], _ :: _ => rfl
  | a :: l, b :: k => by
    simp only [List.map_cons, natsLt, Op.bytesLess, natsLt_eq l k]
    congr 1
    · rw [Bool.eq_iff_iff]; simp [UInt8.lt_iff_toNat_lt, Nat.blt]; omega
    · congr 1; rw [Bool.eq_iff_iff]; simp [← UInt8.toNat_inj]
theorem str_eq {s u : ByteArray} {n p n' p' : Nat} (hn : s.size = n) (hp : pk s.data.toList = p) (hn' : u.size = n') (hp' : pk u.data.toList = p') :
    (Nat.beq n n' && Nat.beq p p') = (s.toList == u.toList) := by
  subst hn hp hn' hp'
  rw [ByteArray.toList_eq, ByteArray.toList_eq, Bool.eq_iff_iff]
  simp only [Bool.and_eq_true, Nat.beq_eq, beq_iff_eq]
  have hs : ∀ x : ByteArray, x.size = x.data.toList.length := fun x => rfl
  rw [hs, hs]
  constructor
  · rintro ⟨a, b⟩; exact pk_inj a b
  · intro e; rw [e]; exact ⟨rfl, rfl⟩
theorem str_eq' {s u : ByteArray} {n p n' p' : Nat} (hn : s.size = n) (hp : pk s.data.toList = p) (hn' : u.size = n') (hp' : pk u.data.toList = p') :
    (Nat.beq n n' && Nat.beq p p') = (s == u) := by
  rw [str_eq hn hp hn' hp', ByteArray.toList_eq, ByteArray.toList_eq, Bool.eq_iff_iff]
  have hb : (s == u) = (s.data == u.data) := rfl
  rw [hb, beq_iff_eq, beq_iff_eq, Array.toList_inj]
theorem sBin_sound {op : BinOp} {n p n' p' : Nat} {s u : ByteArray} {v : SV} (P : Program) (w : World) (m : Mp) (hn : s.size = n) (hp : pk s.data.toList = p) (hn' : u.size = n') (hp' : pk u.data.toList = p')
    (h : sBin op n p n' p' = some v) : ∃ v', (Op.stringOp op s u).run P w = .ok v' w ∧ VR m v v' := by
  have heq := str_eq hn hp hn' hp'
  have hlt : natsLt (unpk n p) (unpk n' p') = Op.bytesLess s.toList u.toList := by
    subst hn hp hn' hp'
    have hs : ∀ x : ByteArray, x.size = x.data.toList.length := fun x => rfl
    rw [hs, hs, unpk_pk, unpk_pk, natsLt_eq, ByteArray.toList_eq, ByteArray.toList_eq]
  unfold sBin at h
  simp only [heq, hlt] at h
  split at h
  · split at h
    · rename_i hle
      have hle := Nat.le_of_ble_eq_true hle
      cases h
      have hbig : ¬ (((s.size + u.size : Nat) : Int) > IntKind.i64.max) := by
        rw [IntKind.max_i64]; omega
      refine ⟨.string (s ++ u), ?_, .str ?_ ?_⟩
      · unfold Op.stringOp
        simp only
        rw [if_neg hbig]; rfl
      · rw [ByteArray.size_append, hn, hn']
      · have : (s ++ u).data.toList = s.data.toList ++ u.data.toList := by simp
        rw [this, pk_append, hp, hp', ← hn]; rfl
    · cases h
  all_goals first
    | (cases h; done)
    | (cases h; exact ⟨_, by simp only [Op.stringOp]; rfl, .bool _⟩)
theorem sAt_sound {n p i : Nat} {s : ByteArray} {v : SV} (P : Program) (w : World) (m : Mp) (hn : s.size = n) (hp : pk s.data.toList = p) {t : TypeId} (ht : P.underlying t = some .string) {k : IntKind} (h : sAt n p i = some v) :
    ∃ v', (Instr.index t (.string s) (.int k (Int.ofNat i))).run P w = .ok v' w ∧ VR m v v' := by
  unfold sAt at h
  split at h
  · rename_i hi
    have hi : i < n := Nat.le_of_ble_eq_true hi
    cases h
    have hi' : i < s.size := by omega
    have hg : s[i]? = some s[i] := ByteArray.getElem?_lt' s i hi'
    refine ⟨.int .u8 (s[i].toNat : Int), ?_, ?_⟩
    · simp [Instr.index, asIntOf, underlying, ht, hg]
    · subst hn hp
      rw [pk_at (l := s.data.toList) (i := i) hi']
      exact .int ..
  · cases h
theorem sCut_sound {n p l h : Nat} {s : ByteArray} (m : Mp) (hn : s.size = n) (hp : pk s.data.toList = p) (h1 : l ≤ h) (h2 : h ≤ n) : VR m (sCut p l h) (.string (s.extract l h)) := by
  unfold sCut
  refine .str ?_ ?_
  · rw [ByteArray.size_extract]; omega
  · subst hn hp
    have : (s.extract l h).data.toList = (s.data.toList.drop l).take (h - l) := by
      simp [ByteArray.data_extract, Array.toList_extract]
    rw [this, pk_div, pk_mod]

/-! equality -/
section
variable {P : Program} {m : Mp} {σ : St} {w : World}
theorem plain_sound (hw : WR P m σ w) {b : Nat} {im : Im} (h : plain σ b = true) (hm : m b = some im) :
    σ.get b ≠ .dead ∧ ∃ C ty, w.heap[im.blk]? = some (.cells C ty (0, 0)) := by
  unfold plain at h
  split at h
  · rename_i ty n fz c hb
    have hB := hw.blk _ _ hm
    rw [hb] at hB
    have hz : fz = 0 := Nat.eq_of_beq_eq_true h
    subst hz
    generalize ho : w.heap[im.blk]? = o at hB
    cases hB with
    | cells ht hn hf hv =>
      rename_i lo hi C
      obtain ⟨rfl, rfl⟩ : lo = 0 ∧ hi = 0 := hf
      exact ⟨(by rw [hb]; intro e; cases e), C, ty, rfl⟩
  · cases h
theorem sameAddr_plain {a b : Addr} {C C' : Array Value} {ty ty' : Nat} (hne : a.block ≠ b.block) (ha : w.heap[a.block]? = some (.cells C ty (0, 0))) (hb : w.heap[b.block]? = some (.cells C' ty' (0, 0))) :
    (sameAddr a b).run P w = .ok false w := by
  have hfa : ∀ o sp, w.frozen? ⟨a.block, o, sp⟩ = false := fun o sp => by simp [World.frozen?, ha]
  have hfb : ∀ o sp, w.frozen? ⟨b.block, o, sp⟩ = false := fun o sp => by simp [World.frozen?, hb]
  have hsa : w.shape? a.block = some (ty, C.size) := by simp [World.shape?, ha]
  have hsb : w.shape? b.block = some (ty', C'.size) := by simp [World.shape?, hb]
  have h1 : w.frozen? a = false := hfa a.off a.spot
  have h2 : w.frozen? b = false := hfb b.off b.spot
  have hv : ∀ x : Addr, (w.shape? x.block).isSome = true → (noView x).run P w = .ok () w := fun x hx => by simp [noView, viewAt, hx]
  have sa : (stringish a).run P w = .ok false w := by simp [stringish, h1, hsa, hfa]
  have sb : (stringish b).run P w = .ok false w := by simp [stringish, h2, hsb, hfb]
  simp [sameAddr, hne, h1, hv, hsa, hsb, mayBeOne, sa, sb]
theorem drop_take_extract {l : List SV} {cs : Array Value} (h : VRs m l cs.toList) (o n : Nat) : VRs m ((l.drop o).take n) (cs.extract o (o + n)).toList := by
  rw [Array.toList_extract]
  simp only [List.extract_eq_take_drop, Nat.add_sub_cancel_left]
  exact (h.drop o).take n
theorem part_sound {t : TypeId} {l : List SV} {cs : Array Value} {o n : Nat} {b : Bool} (h : VRs m l cs.toList) (ha : isAg P t = some b) (hs : sz P t = some n) :
    (b = true → ∃ v', (part t cs o).run P w = .ok v' w ∧ VR m (.agg ((l.drop o).take n)) v') ∧ (b = false → ∀ v, l[o]? = some v → ∃ v', (part t cs o).run P w = .ok v' w ∧ VR m v v') := by
  refine ⟨fun e => ?_, fun e v hv => ?_⟩
  · subst e
    exact ⟨.agg (cs.extract o (o + n)), by simp [part, isAg_run ha, sz_run hs], .agg (drop_take_extract h o n)⟩
  · subst e
    obtain ⟨v', hv', hr⟩ := h.get _ _ hv
    rw [Array.getElem?_toList] at hv'
    exact ⟨v', by simp [part, isAg_run ha, hv'], hr⟩
theorem partS_sound {t : TypeId} {l : List SV} {cs : Array Value} {o : Nat} {v : SV} (h : VRs m l cs.toList) (hp : partS P t l o = some v) :
    ∃ v', (part t cs o).run P w = .ok v' w ∧ VR m v v' := by
  unfold partS at hp
  split at hp
  · rename_i n ha hs
    cases hp
    exact (part_sound (w := w) (o := o) h ha hs).1 rfl
  · rename_i n ha hs
    exact (part_sound (w := w) (o := o) h ha hs).2 rfl v hp
  · cases hp
theorem eqF_sound {e : TypeId → SV → SV → Option Bool} {D : Nat} (he : ∀ t x y x' y' b, VR m x x' → VR m y y' → e t x y = some b → (Op.equalIn D t x' y').run P w = .ok b w)
    {a b : List SV} {xs ys : Array Value} (ha : VRs m a xs.toList) (hb : VRs m b ys.toList) : ∀ (fs : List Field) (r : Bool), eqF P e a b fs = some r → (Op.eqFields D xs ys fs).run P w = .ok r w
  | [], r, h => by cases h; rfl
  | f :: fs, r, h => by
    unfold eqF at h
    unfold Op.eqFields
    split at h
    · rename_i hn
      rw [if_neg (by simpa using hn)]
      exact eqF_sound he ha hb fs r h
    · rename_i hn
      rw [if_pos (by simpa using hn)]
      split at h
      · rename_i x y hx hy
        obtain ⟨x', h1, h2⟩ := partS_sound (w := w) ha hx
        obtain ⟨y', h3, h4⟩ := partS_sound (w := w) hb hy
        split at h
        · rename_i hr
          have := he _ _ _ _ _ _ h2 h4 hr
          simp only [Sem.run_bind, h1, h3, this, Result.andThen_ok]
          exact eqF_sound he ha hb fs r h
        · rename_i hr
          have := he _ _ _ _ _ _ h2 h4 hr
          cases h
          simp only [Sem.run_bind, h1, h3, this, Result.andThen_ok]
          rfl
        · cases h
      · cases h
theorem eqA_sound {e : SV → SV → Option Bool} {D el s : Nat} (he : ∀ x y x' y' b, VR m x x' → VR m y y' → e x y = some b → (Op.equalIn D el x' y').run P w = .ok b w)
    {a b : List SV} {xs ys : Array Value} (ha : VRs m a xs.toList) (hb : VRs m b ys.toList) : ∀ (n i : Nat) (r : Bool), eqA P e el s a b n i = some r → (Op.eqItems D el s xs ys (List.range' i n)).run P w = .ok r w
  | 0, i, r, h => by cases h; rfl
  | n + 1, i, r, h => by
    unfold eqA at h
    rw [List.range'_succ]
    unfold Op.eqItems
    split at h
    · rename_i x y hx hy
      obtain ⟨x', h1, h2⟩ := partS_sound (w := w) ha hx
      obtain ⟨y', h3, h4⟩ := partS_sound (w := w) hb hy
      split at h
      · rename_i hr
        have := he _ _ _ _ _ h2 h4 hr
        simp only [Sem.run_bind, h1, h3, this, Result.andThen_ok]
        exact eqA_sound he ha hb n (i + 1) r h
      · rename_i hr
        have := he _ _ _ _ _ h2 h4 hr
        cases h
        simp only [Sem.run_bind, h1, h3, this, Result.andThen_ok]
        rfl
      · cases h
    · cases h
theorem eqv_sound (hw : WR P m σ w) : ∀ (d : Nat) {D : Nat} {t : TypeId} {x y : SV} {x' y' : Value} {b : Bool}, d ≤ D → VR m x x' → VR m y y' → eqv P σ d t x y = some b →
    (Op.equalIn D t x' y').run P w = .ok b w
  | 0, _, _, _, _, _, _, _, _, _, _, h => by unfold eqv at h; cases h
  | d + 1, D, t, x, y, x', y', b, hD, hx, hy, h => by
    obtain ⟨D, rfl⟩ : ∃ E, D = E + 1 := ⟨D - 1, by omega⟩
    unfold eqv at h
    try simp only [und_eq, inf_eq, fnc_eq] at h
    unfold Op.equalIn
    split at h
    case h_1 hu => cases hx; cases hy; cases h; rw [Sem.run_bind, run_underlying' hu, Result.andThen_ok]; rfl
    case h_2 hu =>
      cases hx; cases hy
      split at h
      · rename_i hk; cases h; have := kEq_eq hk; subst this; rw [Sem.run_bind, run_underlying' hu, Result.andThen_ok]; simp [iEq_eq]
      · cases h
    case h_3 hu =>
      cases hx; cases hy; cases h
      rename_i hn hp _ hn' hp'
      rw [Sem.run_bind, run_underlying' hu, Result.andThen_ok]
      simp [str_eq' hn hp hn' hp']
    case h_4 hu => cases hx; cases hy; cases h; rw [Sem.run_bind, run_underlying' hu, Result.andThen_ok]; rfl
    case h_5 hu => cases hx; cases hy; cases h; rw [Sem.run_bind, run_underlying' hu, Result.andThen_ok]; rfl
    case h_6 hu => cases hx; cases hy; cases h; rw [Sem.run_bind, run_underlying' hu, Result.andThen_ok]; rfl
    case h_7 hu =>
      cases hx; cases hy
      rename_i im hma im' hmb
      rw [Sem.run_bind, run_underlying' hu, Result.andThen_ok]
      split at h
      case h_2 => cases h
      rename_i n hsz
      have hsz' := sz_run (w := w) hsz
      split at h
      · rename_i hab
        have hab := Nat.eq_of_beq_eq_true hab
        subst hab
        rw [hma] at hmb; cases hmb
        injection h with h
        subst h
        simp only [Sem.run_bind, hsz', Result.andThen_ok, sameAddr, beq_self_eq_true, if_true, Sem.run_ite]
        rw [if_pos (by simp)]
        simp only [pure_bind, Sem.run_pure]
        congr 1
        rw [Bool.eq_iff_iff]; simp
      · rename_i hab
        split at h
        · rename_i h1 h2
          injection h with h
          subst h
          obtain ⟨d1, C1, t1, e1⟩ := plain_sound hw h1 hma
          obtain ⟨d2, C2, t2, e2⟩ := plain_sound hw h2 hmb
          have hne : im.blk ≠ im'.blk := fun e => by
            have := hw.inj _ _ _ _ hma hmb d1 d2 e
            subst this
            simp at hab
          simp only [Sem.run_bind, hsz', Result.andThen_ok, Sem.run_ite]
          rw [if_pos (by simp)]
          exact sameAddr_plain (P := P) (w := w) hne e1 e2
        · cases h
    case h_8 hu => cases hx; cases hy; cases h; rw [Sem.run_bind, run_underlying' hu, Result.andThen_ok]; rfl
    case h_9 hu => cases hx; cases hy; cases h; rw [Sem.run_bind, run_underlying' hu, Result.andThen_ok]; rfl
    case h_10 hu => cases hx; cases hy; cases h; rw [Sem.run_bind, run_underlying' hu, Result.andThen_ok]; rfl
    case h_11 hu =>
      cases hx; cases hy
      rename_i hv1 _ hv2
      rw [Sem.run_bind, run_underlying' hu, Result.andThen_ok]
      split at h
      · rename_i hne
        injection h with h
        subst h
        have hne := Nat.ne_of_beq_eq_false hne
        show (if _ ≠ _ then _ else _ : Sem Bool).run P w = _
        rw [if_pos hne]; rfl
      · rename_i he
        have he := Nat.eq_of_beq_eq_true he
        subst he
        split at h
        · rename_i i hi
          split at h
          · rename_i hc
            have := eqv_sound hw d (D := D) (by omega) hv1 hv2 h
            simp [typeInfo, hi, hc, this]
          · cases h
        · cases h
    case h_12 hu => cases hx; cases hy; cases h; rw [Sem.run_bind, run_underlying' hu, Result.andThen_ok]; rfl
    case h_13 hu => cases hx; cases hy <;> (cases h; rw [Sem.run_bind, run_underlying' hu, Result.andThen_ok]; rfl)
    case h_14 hu => cases hx <;> (cases hy; cases h; rw [Sem.run_bind, run_underlying' hu, Result.andThen_ok]; rfl)
    case h_15 hu => cases hx; cases hy; cases h; rw [Sem.run_bind, run_underlying' hu, Result.andThen_ok]; rfl
    case h_16 hu => cases hx; cases hy; cases h; rw [Sem.run_bind, run_underlying' hu, Result.andThen_ok]; rfl
    case h_17 hu => cases hx; cases hy; cases h; rw [Sem.run_bind, run_underlying' hu, Result.andThen_ok]; rfl
    case h_18 hu => cases hx; cases hy; cases h; rw [Sem.run_bind, run_underlying' hu, Result.andThen_ok]; rfl
    case h_19 hu => cases hx; cases hy; cases h; rw [Sem.run_bind, run_underlying' hu, Result.andThen_ok]; rfl
    case h_20 hu => cases hx; cases hy; cases h; rw [Sem.run_bind, run_underlying' hu, Result.andThen_ok]; rfl
    case h_21 fs a b hu =>
      split at h
      · rename_i hst
        cases hx with | agg ha =>
        cases hy with | agg hb =>
        rename_i ca cb
        have hfo : P.fieldsOf t = fs := by simp [Program.fieldsOf, hu]
        have := run_equalIn_struct (P := P) w D t ca cb (by rw [hfo]; exact hu) hst
        unfold Op.equalIn at this
        refine this.trans ?_
        rw [hfo]
        exact eqF_sound (fun t x y x' y' b h1 h2 h3 => eqv_sound hw d (D := D) (by omega) h1 h2 h3) ha hb _ _ h
      · cases h
    case h_22 n el a b hu =>
      split at h
      · rename_i s hs
        cases hx with | agg ha =>
        cases hy with | agg hb =>
        rename_i ca cb
        obtain ⟨i, hi, his⟩ : ∃ i, P.info? el = some i ∧ i.size = s := by
          unfold sz at hs
          try simp only [und_eq, inf_eq, fnc_eq] at hs
          cases hi : P.info? el with
          | none => rw [hi] at hs; cases hs
          | some i => rw [hi] at hs; exact ⟨i, rfl, by simpa using hs⟩
        have := run_equalIn_array (P := P) w D ca cb hu hi
        unfold Op.equalIn at this
        refine this.trans ?_
        have hc : P.cellsOf el = s := by simp [Program.cellsOf, hi, his]
        rw [hc, List.range_eq_range']
        exact eqA_sound (fun x y x' y' b h1 h2 h3 => eqv_sound hw d (D := D) (by omega) h1 h2 h3) ha hb _ _ _ h
      · cases h
    case h_23 => cases h
theorem isC_sound {x : Operand} (h : isC x = true) : ∃ v, x = .const v := by cases x <;> first | exact ⟨_, rfl⟩ | cases h
theorem guardEq_sound {op : BinOp} {t : TypeId} {xo yo : Operand} {x y : SV} {x' y' : Value} (hx : VR m x x') (hy : VR m y y') (h : guardEq P t xo yo x y = true) :
    (eqGuard op t xo yo x' y').run P w = .ok () w := by
  cases hx with
  | bool => rw [eqGuard_at_bool]; rfl
  | int => rw [eqGuard_at_int]; rfl
  | str => rw [eqGuard_at_string]; rfl
  | nilPtr => rw [eqGuard_at_pointer]; rfl
  | ptr => rw [eqGuard_at_pointer]; rfl
  | nilSlice => rw [eqGuard_at_slice]; rfl
  | sliceEx => rw [eqGuard_at_slice]; rfl
  | sliceOp => rw [eqGuard_at_slice]; rfl
  | nilMap => rw [eqGuard_at_map]; rfl
  | map => rw [eqGuard_at_map]; rfl
  | func => rw [eqGuard_at_func]; rfl
  | nilFunc => rw [eqGuard_at_nilFunc]; rfl
  | iface => rw [eqGuard_at_iface]; rfl
  | agg ha =>
    cases hy with
    | agg hb =>
      have h : (!P.eqGuardType P.depth t) = true := h
      exact run_eqGuard_agg w op t xo yo _ _ (by simpa using h)
    | _ => simp [guardEq] at h
  | tuple => rw [eqGuard_at_tuple]; rfl
  | opq => rw [eqGuard_at_pointer]; rfl
  | lanI => rw [eqGuard_at_int]; rfl
  | lanS => rw [eqGuard_at_string]; rfl
  | resl => rw [eqGuard_at_int]; rfl
  | rng => rw [eqGuard_at_int]; rfl
  | anyI => rw [eqGuard_at_iface]; rfl
  | low => rw [eqGuard_at_int]; rfl
  | res => rw [eqGuard_at_int]; rfl
  | nilIface =>
    cases hy with
    | agg => simp [guardEq] at h
    | nilIface =>
      cases xo with
      | const c => rw [eqGuard_nil_constL]; rfl
      | _ =>
        cases yo with
        | const c => rw [eqGuard_nil_constR]; rfl
        | _ =>
          simp only [guardEq, isC, Bool.false_or, und_eq] at h
          cases hu : P.underlying t with
          | none => rw [hu] at h; cases h
          | some d =>
            rw [hu] at h
            cases d <;> first | (cases h; done) | skip
            rename_i ms
            have hg : (Op.eqGuardIn Op.maxDepth t .nilIface .nilIface).run P w = .ok false w := by
              unfold Op.maxDepth Op.eqGuardIn
              rw [Sem.run_bind, run_underlying' hu, Result.andThen_ok]
              have h : ms.isEmpty = true := h
              simp [h]
            cases op <;> first | rfl | (simp [eqGuard, hg])
    | _ => cases op <;> rfl
def SV.isRes : SV → Bool
  | .res .. => true
  | .low .. => true
  | .lan .. => true
  | .resl .. => true
  | .rng .. => true
  | _ => false
theorem eqv_noRes {P : Program} {σ : St} {d : Nat} {t : TypeId} {x y : SV} {b : Bool} (h : eqv P σ d t x y = some b) : x.isRes = false ∧ y.isRes = false := by
  cases d with
  | zero => cases h
  | succ d =>
    unfold eqv at h
    split at h <;> first | exact ⟨rfl, rfl⟩ | (cases h; done)
theorem binOp_eql {t : TypeId} {x y : SV} {x' y' : Value} (hx : VR m x x') (hy : VR m y y') (n1 : ∀ k a k' b, x = .int k a → y = .int k' b → False) (n2 : ∀ n p k q, x = .str n p → y = .str k q → False) (n3 : x.isRes = false) (n4 : y.isRes = false) :
    binOp .eql t x' y' = (do pure (.bool (← Op.equal t x' y'))) ∧ binOp .neq t x' y' = (do pure (.bool (!(← Op.equal t x' y')))) := by
  cases hx <;> first
    | (cases n3; done)
    | exact ⟨rfl, rfl⟩
    | (cases hy <;> first | (cases n4; done) | exact ⟨rfl, rfl⟩ | exact (n1 _ _ _ _ rfl rfl).elim | exact (n2 _ _ _ _ rfl rfl).elim)
/-- What is said of a number of which only the lowest bits are known holds of the number. -/
theorem lowBin_sound {op : BinOp} {x n r b : Nat} {h : x % 2 ^ n = r} {k : IntKind} {v : SV} (he : lowBin op x n r h k b = some v) :
    (op = .shr ∧ ∃ v0, iShift .shr .i64 (Int.ofNat x) (Int.ofNat b) = some v0 ∧ ∀ m v', VR m v0 v' → VR m v v') ∨
    (op ≠ .shl ∧ op ≠ .shr ∧ k = .i64 ∧ ∃ v0, iBin op .i64 (Int.ofNat x) (Int.ofNat b) = some v0 ∧ ∀ m v', VR m v0 v' → VR m v v') := by
  unfold lowBin at he
  split at he
  · refine .inl ⟨rfl, ?_⟩
    split at he
    case h_2 => cases he
    rename_i h1 h2
    cases he
    have h2 := Nat.le_of_ble_eq_true h2
    refine ⟨.int .i64 ((Int.ofNat x).fdiv ((2 ^ b : Nat) : Int)), ?_, fun m v' hv => ?_⟩
    · unfold iShift
      have e1 : iLe 0 (Int.ofNat b) = true := rfl
      rw [e1]
      have e2 : min (Int.ofNat b).toNat IntKind.i64.bits = b := by
        show min b 64 = b
        omega
      simp only [e2]
    · cases hv
      have : (Int.ofNat x).fdiv ((2 ^ b : Nat) : Int) = Int.ofNat (x / 2 ^ b) := by
        exact (Int.ofNat_fdiv x (2 ^ b)).symm
      rw [this]
      exact .low _
  · refine .inr ⟨by simp, by simp, ?_⟩
    split at he
    case h_2 => cases he
    rename_i h1 h2 h3
    cases he
    have h1 := kEq_eq h1
    have h2 := Nat.eq_of_beq_eq_true h2
    have h3 := Nat.le_of_ble_eq_true h3
    subst h1 h2
    refine ⟨rfl, .int .i64 ((Int.ofNat x).tmod (Int.ofNat 2)), rfl, fun m v' hv => ?_⟩
    cases hv
    have : (Int.ofNat x).tmod (Int.ofNat 2) = Int.ofNat (r % 2) := by
      show Int.ofNat (x % 2) = _
      rw [← h, Nat.mod_mod_of_dvd _ (by obtain ⟨k, rfl⟩ := Nat.exists_eq_add_of_le h3; rw [Nat.pow_add]; exact Nat.dvd_mul_right _ _)]
    rw [this]
    exact .int ..
  · refine .inr ⟨by simp, by simp, ?_⟩
    split at he
    case h_2 => cases he
    rename_i h1 h2
    cases he
    have h1 := kEq_eq h1
    have h2 := Nat.eq_of_beq_eq_true h2
    subst h1 h2
    exact ⟨rfl, .bool false, rfl, fun m v' hv => hv⟩
  · cases he
theorem bin_sound (hw : WR P m σ w) {op : BinOp} {t : TypeId} {xo yo : Operand} {x y v : SV} {x' y' : Value} (hx : VR m x x') (hy : VR m y y') (h : bin P σ op t xo yo x y = some v) :
    ∃ v', (do eqGuard op t xo yo x' y'; binOp op t x' y' : Sem Value).run P w = .ok v' w ∧ VR m v v' := by
  unfold bin at h
  split at h
  · rename_i a n r hlow k b
    cases hy
    cases hx
    rcases lowBin_sound h with ⟨rfl, v0, h1, h2⟩ | ⟨n1, n2, rfl, v0, h1, h2⟩
    · obtain ⟨v', h3, h4⟩ := iShift_sound (yk := k) P w m h1
      exact ⟨v', by rw [eqGuard_at_int]; exact h3, h2 m v' h4⟩
    · obtain ⟨v', h3, h4⟩ := iBin_sound P w t m n1 n2 h1
      exact ⟨v', by rw [eqGuard_at_int]; exact h3, h2 m v' h4⟩
  · cases hx; cases hy
    rename_i kx nx ky ny
    have hg : ∀ k a k' b, (eqGuard op t xo yo (.int k a) (.int k' b)).run P w = .ok () w := fun k a k' b => by rw [eqGuard_at_int]; rfl
    split at h
    · obtain ⟨v', h1, h2⟩ := iShift_sound (yk := ky) P w m h
      exact ⟨v', by rw [eqGuard_at_int]; exact h1, h2⟩
    · obtain ⟨v', h1, h2⟩ := iShift_sound (yk := ky) P w m h
      exact ⟨v', by rw [eqGuard_at_int]; exact h1, h2⟩
    · rename_i hs hr
      split at h
      · rename_i hk
        have hk := kEq_eq hk
        subst hk
        obtain ⟨v', h1, h2⟩ := iBin_sound P w t m (fun e => hs e) (fun e => hr e) h
        exact ⟨v', by rw [eqGuard_at_int]; exact h1, h2⟩
      · cases h
  · cases hx; cases hy
    rename_i hn hp _ hn' hp'
    obtain ⟨v', h1, h2⟩ := sBin_sound P w m hn hp hn' hp' h
    refine ⟨v', ?_, h2⟩
    rw [eqGuard_at_string]
    have : ∀ a b, binOp op t (.string a) (.string b) = Op.stringOp op a b := fun a b => by simp only [binOp]
    exact (congrArg (fun s => Sem.run P s w) (this _ _)).trans h1
  · rename_i n1 n2
    split at h
    · cases h
    · rename_i hgd
      have hg := guardEq_sound (P := P) (w := w) (op := op) hx hy hgd
      split at h
      · cases he : eqv P σ 8 t x y with
        | none => rw [he] at h; cases h
        | some b =>
          obtain ⟨n3, n4⟩ := eqv_noRes he
          obtain ⟨b1, b2⟩ := binOp_eql (t := t) hx hy n1 n2 n3 n4
          rw [he] at h; cases h
          have := eqv_sound hw 8 (D := Op.maxDepth) (by unfold Op.maxDepth; omega) hx hy he
          refine ⟨.bool b, ?_, .bool b⟩
          rw [Sem.run_bind, hg, Result.andThen_ok, b1]
          simp [Op.equal, this]
      · cases he : eqv P σ 8 t x y with
        | none => rw [he] at h; cases h
        | some b =>
          obtain ⟨n3, n4⟩ := eqv_noRes he
          obtain ⟨b1, b2⟩ := binOp_eql (t := t) hx hy n1 n2 n3 n4
          rw [he] at h; cases h
          have := eqv_sound hw 8 (D := Op.maxDepth) (by unfold Op.maxDepth; omega) hx hy he
          refine ⟨.bool (!b), ?_, .bool _⟩
          rw [Sem.run_bind, hg, Result.andThen_ok, b2]
          simp [Op.equal, this]
      · cases h
theorem un_sound {op : UnOp} {x v : SV} {x' : Value} (hx : VR m x x') (h : un op x = some v) : ∃ v', (Op.unary op x').run P w = .ok v' w ∧ VR m v v' := by
  unfold un at h
  split at h
  · cases hx; cases h
    exact ⟨_, rfl, by rw [wr_eq]; exact .int ..⟩
  · cases hx
    obtain ⟨n, rfl, hrun⟩ := iBits_sound P w h
    exact ⟨_, hrun, .int ..⟩
  · cases hx; cases h
    exact ⟨_, rfl, .bool _⟩
  · cases h
theorem wr64 {n : Int} (h1 : -9223372036854775808 ≤ n) (h2 : n ≤ 9223372036854775807) : wr .i64 n = n := by
  rw [wr_eq]; exact IntWalk.i64_in _ (by omega)
theorem rngBin_sound {op : BinOp} {t : TypeId} {xo yo : Operand} {x y v : SV} {x' y' : Value} (hx : VR m x x') (hy : VR m y y') (h : rngBin op x y = some v) :
    ∃ v', (do eqGuard op t xo yo x' y'; binOp op t x' y' : Sem Value).run P w = .ok v' w ∧ VR m v v' := by
  unfold rngBin at h
  split at h
  case h_1 => cases h
  rename_i hr
  have hn := rngN_ok hx hy hr
  split at h
  case h_2 => cases h
  rename_i l k hl hk
  obtain ⟨a, p, rfl, lp, p1, p2⟩ := rngOf_ok hx hn hl
  obtain ⟨b, q, rfl, kq, q1, q2⟩ := rngOf_ok hy hn hk
  have fin : ∀ (u : SV), op ≠ .shl → op ≠ .shr → iBin op .i64 a b = some u → (∀ v', VR m u v' → VR m v v') → ∃ v', (do eqGuard op t xo yo (.int .i64 a) (.int .i64 b); binOp op t (.int .i64 a) (.int .i64 b) : Sem Value).run P w = .ok v' w ∧ VR m v v' := by
    intro u n1 n2 hu hv
    obtain ⟨v', h1, h2⟩ := iBin_sound P w t m n1 n2 hu
    exact ⟨v', by rw [eqGuard_at_int]; exact h1, hv _ h2⟩
  split at h
  · cases hz : zipR addR l k with
    | none => rw [hz] at h; cases h
    | some r =>
      rw [hz] at h; cases h
      obtain ⟨c, hc, hrc⟩ := zipR_ok hz lp kq
      unfold addR at hc
      split at hc
      case h_2 => cases hc
      rename_i o1 o2
      cases hc
      have o1 := okI_ok o1
      have o2 := okI_ok o2
      refine fin _ (by simp) (by simp) rfl fun v' hv => ?_
      rw [wr64 (by omega) (by omega)] at hv
      cases hv
      exact .rng hrc (by show p.1 + q.1 ≤ _; omega) (by show _ ≤ p.2 + q.2; omega)
  · cases hz : zipR subR l k with
    | none => rw [hz] at h; cases h
    | some r =>
      rw [hz] at h; cases h
      obtain ⟨c, hc, hrc⟩ := zipR_ok hz lp kq
      unfold subR at hc
      split at hc
      case h_2 => cases hc
      rename_i o1 o2
      cases hc
      have o1 := okI_ok o1
      have o2 := okI_ok o2
      refine fin _ (by simp) (by simp) rfl fun v' hv => ?_
      rw [wr64 (by omega) (by omega)] at hv
      cases hv
      exact .rng hrc (by show p.1 - q.2 ≤ _; omega) (by show _ ≤ p.2 - q.1; omega)
  · refine fin _ (by simp) (by simp) rfl fun v' hv => ?_
    cases hv
    rcases decR_ok h lp kq with ⟨rfl, e⟩ | ⟨rfl, e⟩
    · simp only [ltT, Bool.not_eq_true', iLe_eq, decide_eq_false_iff_not] at e
      have : (!iLe b a) = true := by rw [iLe_eq]; simp; omega
      rw [this]; exact .bool _
    · simp only [geT, iLe_eq, decide_eq_true_eq] at e
      have : (!iLe b a) = false := by rw [iLe_eq]; simp; omega
      rw [this]; exact .bool _
  · refine fin _ (by simp) (by simp) rfl fun v' hv => ?_
    cases hv
    rcases decR_ok h lp kq with ⟨rfl, e⟩ | ⟨rfl, e⟩
    · simp only [geT, iLe_eq, decide_eq_true_eq] at e
      have : (iLe b a) = true := by rw [iLe_eq]; simp; omega
      rw [this]; exact .bool _
    · simp only [ltT, Bool.not_eq_true', iLe_eq, decide_eq_false_iff_not] at e
      have : (iLe b a) = false := by rw [iLe_eq]; simp; omega
      rw [this]; exact .bool _
  · refine fin _ (by simp) (by simp) rfl fun v' hv => ?_
    cases hv
    rcases decR_ok h kq lp with ⟨rfl, e⟩ | ⟨rfl, e⟩
    · simp only [ltT, Bool.not_eq_true', iLe_eq, decide_eq_false_iff_not] at e
      have : (!iLe a b) = true := by rw [iLe_eq]; simp; omega
      rw [this]; exact .bool _
    · simp only [geT, iLe_eq, decide_eq_true_eq] at e
      have : (!iLe a b) = false := by rw [iLe_eq]; simp; omega
      rw [this]; exact .bool _
  · refine fin _ (by simp) (by simp) rfl fun v' hv => ?_
    cases hv
    rcases decR_ok h kq lp with ⟨rfl, e⟩ | ⟨rfl, e⟩
    · simp only [geT, iLe_eq, decide_eq_true_eq] at e
      have : (iLe a b) = true := by rw [iLe_eq]; simp; omega
      rw [this]; exact .bool _
    · simp only [ltT, Bool.not_eq_true', iLe_eq, decide_eq_false_iff_not] at e
      have : (iLe a b) = false := by rw [iLe_eq]; simp; omega
      rw [this]; exact .bool _
  · cases h
theorem binL_sound (hw : WR P m σ w) {op : BinOp} {t : TypeId} {xo yo : Operand} {x y v : SV} {x' y' : Value} (hx : VR m x x') (hy : VR m y y') (h : binL P σ op t xo yo x y = some v) :
    ∃ v', (do eqGuard op t xo yo x' y'; binOp op t x' y' : Sem Value).run P w = .ok v' w ∧ VR m v v' := by
  unfold binL at h
  split at h
  · rename_i hb
    cases h
    exact bin_sound hw hx hy hb
  · rename_i hq; clear hq
    split at h
    · rename_i a b
      cases hx with | agg hx =>
      cases hy with | agg hy =>
      obtain ⟨k, u, hk, hf, hwd, -⟩ := lanes_ok h (hx.append hy)
      have e1 := hk.take a.length
      have e2 := hk.drop a.length
      have hl : a.length = _ := hx.length
      rw [hl, List.take_left] at e1
      rw [hl, List.drop_left] at e2
      rw [← hl] at e1 e2
      obtain ⟨v', h1, h2⟩ := bin_sound hw (.agg e1) (.agg e2) (show bin P σ op t xo yo (.agg (k.take a.length)) (.agg (k.drop a.length)) = some u from hf)
      exact ⟨v', h1, hwd _ _ h2⟩
    · split at h
      · rename_i hb
        cases h
        exact rngBin_sound hx hy hb
      · obtain ⟨k, u, hk, hf, hwd, -⟩ := lanes_ok h (.cons hx (.cons hy .nil))
        obtain ⟨a, b, rfl, ha, hb⟩ := hk.two_inv
        obtain ⟨v', h1, h2⟩ := bin_sound hw ha hb (show bin P σ op t xo yo a b = some u from hf)
        exact ⟨v', h1, hwd _ _ h2⟩
theorem unL_sound {op : UnOp} {x v : SV} {x' : Value} (hx : VR m x x') (h : unL op x = some v) : ∃ v', (Op.unary op x').run P w = .ok v' w ∧ VR m v v' := by
  unfold unL at h
  split at h
  · rename_i hb
    cases h
    exact un_sound hx hb
  · obtain ⟨k, u, hk, hf, hwd, -⟩ := lanes_ok h (.cons hx .nil)
    obtain ⟨a, rfl, ha⟩ := hk.one_inv
    obtain ⟨v', h1, h2⟩ := un_sound (P := P) (w := w) ha (show un op a = some u from hf)
    exact ⟨v', h1, hwd _ _ h2⟩
end
end Go.YtjighphlkcedhaaDoorEv
