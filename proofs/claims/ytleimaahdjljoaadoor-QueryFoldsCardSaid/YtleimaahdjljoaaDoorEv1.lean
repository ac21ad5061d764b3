/- An evaluator for the program's own code, over a memory of its own: values, trees, memory. (text 1) -/
import Derived.Recover
import Derived.Orders
set_option linter.unusedVariables false
namespace Go.YtleimaahdjljoaaDoorEv
open Go

/-- A tree of values by number. -/
inductive Tr (α : Type) where
  | nil
  | node (v : α) (l r : Tr α)
noncomputable def Tr.get {α : Type} (d : α) (t : Tr α) : Nat → α :=
  Tr.rec (motive := fun _ => Nat → α) (fun _ => d)
    (fun v _ _ gl gr n => Bool.rec (Bool.rec (gr ((n.div 2).pred)) (gl (n.div 2)) ((n.land 1).beq 1)) v (n.beq 0)) t
noncomputable def Tr.one {α : Type} (d v : α) (k : Nat) : Nat → Tr α :=
  Nat.rec (motive := fun _ => Nat → Tr α) (fun _ => .nil)
    (fun _ ih n => Bool.rec (Bool.rec (.node d .nil (ih ((n.div 2).pred))) (.node d (ih (n.div 2)) .nil) ((n.land 1).beq 1)) (.node v .nil .nil) (n.beq 0)) k
noncomputable def Tr.set {α : Type} (d v : α) (t : Tr α) : Nat → Tr α :=
  Tr.rec (motive := fun _ => Nat → Tr α) (fun n => Tr.one d v (n + 1) n)
    (fun u l r sl sr n => Bool.rec (Bool.rec (.node u l (sr ((n.div 2).pred))) (.node u (sl (n.div 2)) r) ((n.land 1).beq 1)) (.node v l r) (n.beq 0)) t

section
variable {α : Type} {d v u : α}
theorem Tr.cases_num (n : Nat) : n = 0 ∨ (∃ k, n = 2 * k + 1 ∧ n.beq 0 = false ∧ (n.land 1).beq 1 = true ∧ n.div 2 = k) ∨
    (∃ k, n = 2 * k + 2 ∧ n.beq 0 = false ∧ (n.land 1).beq 1 = false ∧ (n.div 2).pred = k) := by
  have hl : n.land 1 = n % 2 := Nat.and_one_is_mod n
  have hd : n.div 2 = n / 2 := rfl
  rcases Nat.eq_zero_or_pos n with h | h
  · exact .inl h
  · rcases Nat.mod_two_eq_zero_or_one n with h2 | h2
    · refine .inr (.inr ⟨n / 2 - 1, by omega, ?_, ?_, ?_⟩)
      · exact Bool.eq_false_iff.2 fun e => by have := Nat.eq_of_beq_eq_true e; omega
      · rw [hl, h2]; rfl
      · rw [hd]; rfl
    · refine .inr (.inl ⟨n / 2, by omega, ?_, ?_, ?_⟩)
      · exact Bool.eq_false_iff.2 fun e => by have := Nat.eq_of_beq_eq_true e; omega
      · rw [hl, h2]; rfl
      · exact hd
theorem odd_sel {β : Type} {a b c : β} {p q : Bool} (hp : p = false) (hq : q = true) : (Bool.rec (motive := fun _ => β) (Bool.rec (motive := fun _ => β) c b q) a p) = b := by
  subst hp; subst hq; rfl
theorem even_sel {β : Type} {a b c : β} {p q : Bool} (hp : p = false) (hq : q = false) : (Bool.rec (motive := fun _ => β) (Bool.rec (motive := fun _ => β) c b q) a p) = c := by
  subst hp; subst hq; rfl
theorem Tr.get_nil (n : Nat) : (Tr.nil : Tr α).get d n = d := rfl
theorem Tr.get_zero (l r : Tr α) : (Tr.node v l r).get d 0 = v := rfl
theorem Tr.get_odd (l r : Tr α) (k : Nat) : (Tr.node v l r).get d (2 * k + 1) = l.get d k := by
  rcases Tr.cases_num (2 * k + 1) with h | ⟨j, h, h0, h1, h2⟩ | ⟨j, h, _⟩
  · omega
  · have : j = k := by omega
    subst this
    refine (odd_sel (a := v) h0 h1).trans ?_
    rw [h2]; rfl
  · omega
theorem Tr.get_even (l r : Tr α) (k : Nat) : (Tr.node v l r).get d (2 * k + 2) = r.get d k := by
  rcases Tr.cases_num (2 * k + 2) with h | ⟨j, h, _⟩ | ⟨j, h, h0, h1, h2⟩
  · omega
  · omega
  · have : j = k := by omega
    subst this
    refine (even_sel (a := v) h0 h1).trans ?_
    rw [h2]; rfl
theorem Tr.one_zero (f : Nat) : Tr.one d v (f + 1) 0 = .node v .nil .nil := rfl
theorem Tr.one_odd (f k : Nat) : Tr.one d v (f + 1) (2 * k + 1) = .node d (Tr.one d v f k) .nil := by
  rcases Tr.cases_num (2 * k + 1) with h | ⟨j, h, h0, h1, h2⟩ | ⟨j, h, _⟩
  · omega
  · have : j = k := by omega
    subst this
    refine (odd_sel (a := .node v .nil .nil) h0 h1).trans ?_
    rw [h2]; rfl
  · omega
theorem Tr.one_even (f k : Nat) : Tr.one d v (f + 1) (2 * k + 2) = .node d .nil (Tr.one d v f k) := by
  rcases Tr.cases_num (2 * k + 2) with h | ⟨j, h, _⟩ | ⟨j, h, h0, h1, h2⟩
  · omega
  · omega
  · have : j = k := by omega
    subst this
    refine (even_sel (a := .node v .nil .nil) h0 h1).trans ?_
    rw [h2]; rfl
theorem Tr.set_nil (n : Nat) : (Tr.nil : Tr α).set d v n = Tr.one d v (n + 1) n := rfl
theorem Tr.set_zero (l r : Tr α) : (Tr.node u l r).set d v 0 = .node v l r := rfl
theorem Tr.set_odd (l r : Tr α) (k : Nat) : (Tr.node u l r).set d v (2 * k + 1) = .node u (l.set d v k) r := by
  rcases Tr.cases_num (2 * k + 1) with h | ⟨j, h, h0, h1, h2⟩ | ⟨j, h, _⟩
  · omega
  · have : j = k := by omega
    subst this
    refine (odd_sel (a := .node v l r) h0 h1).trans ?_
    rw [h2]; rfl
  · omega
theorem Tr.set_even (l r : Tr α) (k : Nat) : (Tr.node u l r).set d v (2 * k + 2) = .node u l (r.set d v k) := by
  rcases Tr.cases_num (2 * k + 2) with h | ⟨j, h, _⟩ | ⟨j, h, h0, h1, h2⟩
  · omega
  · omega
  · have : j = k := by omega
    subst this
    refine (even_sel (a := .node v l r) h0 h1).trans ?_
    rw [h2]; rfl
theorem Tr.get_one (f n : Nat) (h : n < f) (i : Nat) : (Tr.one d v f n).get d i = if i = n then v else d := by
  induction f generalizing n i with
  | zero => omega
  | succ f ih =>
    rcases Tr.cases_num n with rfl | ⟨k, rfl, _⟩ | ⟨k, rfl, _⟩
    · rw [Tr.one_zero]
      rcases Tr.cases_num i with rfl | ⟨j, rfl, _⟩ | ⟨j, rfl, _⟩
      · rfl
      · rw [Tr.get_odd, Tr.get_nil, if_neg (by omega)]
      · rw [Tr.get_even, Tr.get_nil, if_neg (by omega)]
    · rw [Tr.one_odd]
      rcases Tr.cases_num i with rfl | ⟨j, rfl, _⟩ | ⟨j, rfl, _⟩
      · rw [Tr.get_zero, if_neg (by omega)]
      · rw [Tr.get_odd, ih k (by omega)]
        by_cases e : j = k
        · rw [if_pos e, if_pos (by omega)]
        · rw [if_neg e, if_neg (by omega)]
      · rw [Tr.get_even, Tr.get_nil, if_neg (by omega)]
    · rw [Tr.one_even]
      rcases Tr.cases_num i with rfl | ⟨j, rfl, _⟩ | ⟨j, rfl, _⟩
      · rw [Tr.get_zero, if_neg (by omega)]
      · rw [Tr.get_odd, Tr.get_nil, if_neg (by omega)]
      · rw [Tr.get_even, ih k (by omega)]
        by_cases e : j = k
        · rw [if_pos e, if_pos (by omega)]
        · rw [if_neg e, if_neg (by omega)]
theorem Tr.get_set (t : Tr α) : ∀ (n i : Nat), (t.set d v n).get d i = if i = n then v else t.get d i := by
  induction t with
  | nil =>
    intro n i
    rw [Tr.set_nil, Tr.get_one _ _ (by omega)]; rfl
  | node u l r ihl ihr =>
    intro n i
    rcases Tr.cases_num n with rfl | ⟨k, rfl, _⟩ | ⟨k, rfl, _⟩
    · rw [Tr.set_zero]
      rcases Tr.cases_num i with rfl | ⟨j, rfl, _⟩ | ⟨j, rfl, _⟩
      · rfl
      · rw [Tr.get_odd, Tr.get_odd, if_neg (by omega)]
      · rw [Tr.get_even, Tr.get_even, if_neg (by omega)]
    · rw [Tr.set_odd]
      rcases Tr.cases_num i with rfl | ⟨j, rfl, _⟩ | ⟨j, rfl, _⟩
      · rw [Tr.get_zero, Tr.get_zero, if_neg (by omega)]
      · rw [Tr.get_odd, Tr.get_odd, ihl]
        by_cases e : j = k
        · rw [if_pos e, if_pos (by omega)]
        · rw [if_neg e, if_neg (by omega)]
      · rw [Tr.get_even, Tr.get_even, if_neg (by omega)]
    · rw [Tr.set_even]
      rcases Tr.cases_num i with rfl | ⟨j, rfl, _⟩ | ⟨j, rfl, _⟩
      · rw [Tr.get_zero, Tr.get_zero, if_neg (by omega)]
      · rw [Tr.get_odd, Tr.get_odd, if_neg (by omega)]
      · rw [Tr.get_even, Tr.get_even, ihr]
        by_cases e : j = k
        · rw [if_pos e, if_pos (by omega)]
        · rw [if_neg e, if_neg (by omega)]
end

/-- Values: addresses are numbers of this memory's own blocks; a string is its length and its bytes in one number; how far a slice may grow is a number, or open: to its block's end, wherever that is. -/
inductive Cap where
  | ex (c : Nat)
  | op (sz : Nat)
inductive SV where
  | bool (b : Bool)
  | int (k : IntKind) (n : Int)
  | str (len bits : Nat)
  | nilPtr
  | ptr (b off : Nat)
  | nilSlice
  | slice (b off len : Nat) (cap : Cap)
  | nilMap
  | map (b : Nat)
  | func (fn : Fn) (first captured : List SV)
  | nilFunc
  | iface (t : TypeId) (v : SV)
  | nilIface
  | agg (l : List SV)
  | tuple (l : List SV)
abbrev SV.undef : SV := .tuple []
def SV.cells : SV → List SV
  | .agg l => l
  | v => [v]
def SV.one : SV → Bool
  | .agg _ => false
  | .tuple _ => false
  | _ => true

/-- A row of bytes in one number. -/
def pk : List UInt8 → Nat
  | [] => 0
  | b :: l => b.toNat + 256 * pk l
def pkNat : List Nat → Nat
  | [] => 0
  | b :: l => b + 256 * pkNat l
def unpk : Nat → Nat → List Nat
  | 0, _ => []
  | n + 1, b => b % 256 :: unpk n (b / 256)

/-- Blocks. 'fz': 0: nothing in it is shared with a string; 1: only the mark behind its end; 2: it may not be written. -/
inductive Blk where
  | dead
  | cells (ty : TypeId) (n fz : Nat) (c : Tr SV)
  | map (es : List (SV × SV × Nat)) (clock : Nat)
  | siter (len bits pos : Nat)
structure St where
  next : Nat
  heap : Tr Blk
noncomputable def St.get (σ : St) (b : Nat) : Blk := σ.heap.get .dead b
noncomputable def St.put (σ : St) (b : Nat) (x : Blk) : St := ⟨σ.next, σ.heap.set .dead x b⟩
noncomputable def St.new (σ : St) (x : Blk) : St := ⟨σ.next + 1, σ.heap.set .dead x σ.next⟩

structure SDef where
  fn : Fn
  captured : List SV
  args : List SV
structure Fr where
  tm : Tr SV
  df : List SDef

/-- A value that the program's text bears. -/
def cv : Nat → Value → Option SV
  | _, .bool b => some (.bool b)
  | _, .int k n => some (.int k n)
  | _, .string s => some (.str s.size (pk s.data.toList))
  | _, .pointer none => some .nilPtr
  | _, .slice none 0 0 => some .nilSlice
  | _, .map none => some .nilMap
  | _, .nilFunc => some .nilFunc
  | _, .nilIface => some .nilIface
  | _, .tuple cs => if cs.toList.isEmpty then some .undef else none
  | _, .func (.func f) a b => if a.toList.isEmpty && b.toList.isEmpty then some (.func (.func f) [] []) else none
  | n + 1, .agg cs => (cs.toList.mapM (cv n)).map .agg
  | _, _ => none
end Go.YtleimaahdjljoaaDoorEv
