/- An evaluator for the program's own code, over a memory of its own: values, trees, memory. (text 1) -/
import Derived.Recover
import Derived.Orders
set_option linter.unusedVariables false
namespace Go.YtjighphlkcedhaaDoorEv
open Go

/-- A tree of values by number. -/
inductive Tr (α : Type) where
  | nil
  | node (v : α) (l r : Tr α)
/-- The way to a number's place. -/
inductive Pa where
  | e
  | o (p : Pa)
  | i (p : Pa)
noncomputable def paF (k : Nat) : Nat → Pa :=
  Nat.rec (motive := fun _ => Nat → Pa) (fun _ => .e)
    (fun _ ih n => Bool.rec (Bool.rec (.i (ih ((n.div 2).pred))) (.o (ih (n.div 2))) ((n.land 1).beq 1)) .e (n.beq 0)) k
noncomputable def paOf (n : Nat) : Pa := paF n n
noncomputable def Tr.getP {α : Type} (d : α) (t : Tr α) : Pa → α :=
  Tr.rec (motive := fun _ => Pa → α) (fun _ => d)
    (fun v _ _ gl gr p => Pa.rec (motive := fun _ => α) v (fun q _ => gl q) (fun q _ => gr q) p) t
noncomputable def Tr.oneP {α : Type} (d v : α) (p : Pa) : Tr α :=
  Pa.rec (motive := fun _ => Tr α) (.node v .nil .nil) (fun _ ih => .node d ih .nil) (fun _ ih => .node d .nil ih) p
noncomputable def Tr.setP {α : Type} (d v : α) (t : Tr α) : Pa → Tr α :=
  Tr.rec (motive := fun _ => Pa → Tr α) (fun p => Tr.oneP d v p)
    (fun u l r sl sr p => Pa.rec (motive := fun _ => Tr α) (.node v l r) (fun q _ => .node u (sl q) r) (fun q _ => .node u l (sr q)) p) t
/-- The number is brought to its value first, so that each number's way is made once. -/
noncomputable def Tr.get {α : Type} (d : α) (t : Tr α) (n : Nat) : α :=
  Nat.rec (motive := fun _ => α) (t.getP d .e) (fun m _ => t.getP d (paOf (Nat.succ m))) n
noncomputable def Tr.set {α : Type} (d v : α) (t : Tr α) (n : Nat) : Tr α :=
  Nat.rec (motive := fun _ => Tr α) (t.setP d v .e) (fun m _ => t.setP d v (paOf (Nat.succ m))) n

section
variable {α : Type} {d v u : α}
theorem num_cases (n : Nat) : n = 0 ∨ (∃ k, n = 2 * k + 1 ∧ n.beq 0 = false ∧ (n.land 1).beq 1 = true ∧ n.div 2 = k) ∨
    (∃ k, n = 2 * k + 2 ∧ n.beq 0 = false ∧ (n.land 1).beq 1 = false ∧ (n.div 2).pred = k) := by
  have hl : n.land 1 = n % 2 := Nat.and_one_is_mod n
  have hd : n.div 2 = n / 2 := rfl
  rcases Nat.eq_zero_or_pos n with h | h
  · exact .inl h
  · rcases Nat.mod_two_eq_zero_or_one n with h2 | h2
    · refine .inr (.inr ⟨n / 2 - 1, by omega, ?_, ?_, ?_⟩)
      · exact Bool.eq_false_iff.2 fun e => by have := Nat.eq_of_beq_eq_true e; omega
      · rw [hl, h2]; rfl
      · rw [hd]; rfl
    · refine .inr (.inl ⟨n / 2, by omega, ?_, ?_, ?_⟩)
      · exact Bool.eq_false_iff.2 fun e => by have := Nat.eq_of_beq_eq_true e; omega
      · rw [hl, h2]; rfl
      · exact hd
theorem odd_sel {β : Type} {a b c : β} {p q : Bool} (hp : p = false) (hq : q = true) : (Bool.rec (motive := fun _ => β) (Bool.rec (motive := fun _ => β) c b q) a p) = b := by
  subst hp; subst hq; rfl
theorem even_sel {β : Type} {a b c : β} {p q : Bool} (hp : p = false) (hq : q = false) : (Bool.rec (motive := fun _ => β) (Bool.rec (motive := fun _ => β) c b q) a p) = c := by
  subst hp; subst hq; rfl
def Pa.val : Pa → Nat
  | .e => 0
  | .o p => 2 * p.val + 1
  | .i p => 2 * p.val + 2
theorem paF_val (f : Nat) : ∀ n, n ≤ f → (paF f n).val = n := by
  induction f with
  | zero => intro n hn; have : n = 0 := by omega
            subst this; rfl
  | succ f ih =>
    intro n hn
    rcases num_cases n with rfl | ⟨k, hk, h0, h1, h2⟩ | ⟨k, hk, h0, h1, h2⟩
    · rfl
    · have e : paF (f + 1) n = .o (paF f (n.div 2)) := odd_sel (a := Pa.e) h0 h1
      rw [e, h2]
      show 2 * (paF f k).val + 1 = n
      rw [ih k (by omega), hk]
    · have e : paF (f + 1) n = .i (paF f ((n.div 2).pred)) := even_sel (a := Pa.e) h0 h1
      rw [e, h2]
      show 2 * (paF f k).val + 2 = n
      rw [ih k (by omega), hk]
theorem paOf_inj {n m : Nat} (h : paOf n = paOf m) : n = m := by
  have := congrArg Pa.val h
  rwa [paOf, paOf, paF_val n n (Nat.le_refl n), paF_val m m (Nat.le_refl m)] at this
theorem Tr.get_eq (t : Tr α) (n : Nat) : t.get d n = t.getP d (paOf n) := by cases n <;> rfl
theorem Tr.set_eq (t : Tr α) (n : Nat) : t.set d v n = t.setP d v (paOf n) := by cases n <;> rfl
theorem Tr.getP_nil (p : Pa) : (Tr.nil : Tr α).getP d p = d := rfl
theorem Tr.oneP_same (p : Pa) : (Tr.oneP d v p).getP d p = v := by
  induction p with
  | e => rfl
  | o p ih => exact ih
  | i p ih => exact ih
theorem Tr.oneP_ne (p : Pa) : ∀ q, q ≠ p → (Tr.oneP d v p).getP d q = d := by
  induction p with
  | e => intro q h; cases q with
    | e => exact absurd rfl h
    | o q => rfl
    | i q => rfl
  | o p ih => intro q h; cases q with
    | e => rfl
    | o q => exact ih q fun e => h (by rw [e])
    | i q => rfl
  | i p ih => intro q h; cases q with
    | e => rfl
    | o q => rfl
    | i q => exact ih q fun e => h (by rw [e])
theorem Tr.setP_same (t : Tr α) : ∀ p : Pa, (t.setP d v p).getP d p = v := by
  induction t with
  | nil => intro p; exact Tr.oneP_same p
  | node u l r ihl ihr => intro p; cases p with
    | e => rfl
    | o p => exact ihl p
    | i p => exact ihr p
theorem Tr.setP_ne (t : Tr α) : ∀ (p q : Pa), q ≠ p → (t.setP d v p).getP d q = t.getP d q := by
  induction t with
  | nil => intro p q h; exact Tr.oneP_ne p q h
  | node u l r ihl ihr => intro p q h; cases p with
    | e => cases q with
      | e => exact absurd rfl h
      | o q => rfl
      | i q => rfl
    | o p => cases q with
      | e => rfl
      | o q => exact ihl p q fun e => h (by rw [e])
      | i q => rfl
    | i p => cases q with
      | e => rfl
      | o q => rfl
      | i q => exact ihr p q fun e => h (by rw [e])
theorem Tr.get_nil (n : Nat) : (Tr.nil : Tr α).get d n = d := by cases n <;> rfl
theorem Tr.get_set (t : Tr α) (n i : Nat) : (t.set d v n).get d i = if i = n then v else t.get d i := by
  rw [Tr.get_eq, Tr.get_eq, Tr.set_eq]
  by_cases e : i = n
  · subst e; rw [if_pos rfl, Tr.setP_same]
  · rw [if_neg e, Tr.setP_ne _ _ _ fun h => e (paOf_inj h)]
end

/-- Values: addresses are numbers of this memory's own blocks; a string is its length and its bytes in one number; how far a slice may grow is a number, or open: to its block's end, wherever that is. -/
inductive Cap where
  | ex (c : Nat)
  | op (sz : Nat)
inductive SV where
  | bool (b : Bool)
  | int (k : IntKind) (n : Int)
  | str (len bits : Nat)
  | nilPtr
  | ptr (b off : Nat)
  | nilSlice
  | slice (b off len : Nat) (cap : Cap)
  | nilMap
  | map (b : Nat)
  | func (fn : Fn) (first captured : List SV)
  | nilFunc
  | iface (t : TypeId) (v : SV)
  | nilIface
  | agg (l : List SV)
  | tuple (l : List SV)
  | opq (a : Addr)
  | low (x n r : Nat) (h : x % 2 ^ n = r)   -- the int x, not below 0, of which only the lowest n bits are known
  | anyI   -- some interface's value, not nil, of which nothing else is known
  | unk   -- what stands in one cell of the memory, whatever it is: it can be written over, not read
  | res (x m r : Int) (h : ((x.tmod m).natAbs : Int) = r)   -- the int x, of which only a residue is known
  | lan (l : List SV)   -- one of these, the lane's: numbers, strings, bools
  | resl (m : Int) (l : List SV)   -- an int of which only a residue is known: the lane's
  | rng (l : List (Int × Int))   -- an int between two numbers: the lane's
/-- Which of a row of values it is: the same one in all of a run. -/
class Lane where
  x : Nat
abbrev SV.undef : SV := .tuple []
def SV.cells : SV → List SV
  | .agg l => l
  | v => [v]
def SV.one : SV → Bool
  | .agg _ => false
  | .tuple _ => false
  | _ => true

/-- A row of bytes in one number. -/
def pk : List UInt8 → Nat
  | [] => 0
  | b :: l => b.toNat + 256 * pk l
def pkNat : List Nat → Nat
  | [] => 0
  | b :: l => b + 256 * pkNat l
def unpk : Nat → Nat → List Nat
  | 0, _ => []
  | n + 1, b => b % 256 :: unpk n (b / 256)

/-- Blocks. 'fz': 0: nothing in it is shared with a string; 1: only the mark behind its end; 2: it may not be written. -/
inductive Blk where
  | dead
  | cells (ty : TypeId) (n fz : Nat) (c : Tr SV)
  | map (es : List (SV × SV × Nat)) (clock : Nat)
  | siter (len bits pos : Nat)
  | lsit (l : List SV) (n pos : Nat)   -- the same over the lanes' strings, all of one length
  | miter (mp since : Nat) (seen : List Nat) (last : Nat)
  | mnil
/-- 'gh': the world in which it all began, or none: what lies there below is as it was, and of the variables' shape; with it variables that hold an interface's value, not nil ('ifs'), and what some variables' cells hold ('tabs'). -/
structure Gl where
  ifs : List Nat
  tabs : List (Nat × List SV)
structure St where
  next : Nat
  heap : Tr Blk
  gh : Option (World × Gl)
noncomputable def St.get (σ : St) (b : Nat) : Blk := σ.heap.get .dead b
noncomputable def St.put (σ : St) (b : Nat) (x : Blk) : St := ⟨σ.next, σ.heap.set .dead x b, σ.gh⟩
noncomputable def St.new (σ : St) (x : Blk) : St := ⟨σ.next + 1, σ.heap.set .dead x σ.next, σ.gh⟩

structure SDef where
  fn : Fn
  captured : List SV
  args : List SV
structure Fr where
  tm : Tr SV
  df : List SDef

/-- A value that the program's text bears. -/
def cv : Nat → Value → Option SV
  | _, .bool b => some (.bool b)
  | _, .int k n => some (.int k n)
  | _, .string s => some (.str s.size (pk s.data.toList))
  | _, .pointer none => some .nilPtr
  | _, .slice none 0 0 => some .nilSlice
  | _, .map none => some .nilMap
  | _, .nilFunc => some .nilFunc
  | _, .nilIface => some .nilIface
  | _, .tuple cs => if cs.toList.isEmpty then some .undef else none
  | _, .func (.func f) a b => if a.toList.isEmpty && b.toList.isEmpty then some (.func (.func f) [] []) else none
  | n + 1, .agg cs => (cs.toList.mapM (cv n)).map .agg
  | _, _ => none
end Go.YtjighphlkcedhaaDoorEv
