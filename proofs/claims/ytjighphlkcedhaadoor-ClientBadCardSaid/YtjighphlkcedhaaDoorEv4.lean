/- An evaluator for the program's own code: how its memory stands to the machine's. (text 4) -/
import Derived.Test.YtjighphlkcedhaaDoorEv3
import Derived.Laws.Sem
import Derived.Laws.World
import Derived.Laws.Cells
import Derived.Laws.Append
import Derived.Laws.IdiomCopy
set_option linter.unusedVariables false
namespace Go.YtjighphlkcedhaaDoorEv
open Go
set_option linter.unusedSectionVars false
variable [Lane]

structure Im where
  blk : Nat
  base : Nat
  tot : Nat
abbrev Mp := Nat → Option Im
mutual
inductive VR (m : Mp) : SV → Value → Prop
  | bool (b : Bool) : VR m (.bool b) (.bool b)
  | int (k : IntKind) (n : Int) : VR m (.int k n) (.int k n)
  | str {s : ByteArray} {n p : Nat} (hn : s.size = n) (hp : pk s.data.toList = p) : VR m (.str n p) (.string s)
  | nilPtr : VR m .nilPtr (.pointer none)
  | ptr {b off : Nat} {im : Im} (h : m b = some im) : VR m (.ptr b off) (.pointer (some ⟨im.blk, im.base + off, none⟩))
  | nilSlice : VR m .nilSlice (.slice none 0 0)
  | sliceEx {b off len c : Nat} {im : Im} {a : Addr} (h : m b = some im) (ha : a.block = im.blk) (hs : a.spot = none) (hc : c ≠ 0 → a.off = im.base + off)
      (hl : len ≤ c) : VR m (.slice b off len (.ex c)) (.slice (some a) len c)
  | sliceOp {b off len sz c : Nat} {im : Im} {a : Addr} (h : m b = some im) (ha : a.block = im.blk) (hs : a.spot = none) (hc : c ≠ 0 → a.off = im.base + off)
      (hl : len ≤ c) (ht : im.base + off + c * sz = im.tot) (hz : 0 < sz) : VR m (.slice b off len (.op sz)) (.slice (some a) len c)
  | nilMap : VR m .nilMap (.map none)
  | map {b : Nat} {im : Im} (h : m b = some im) : VR m (.map b) (.map (some im.blk))
  | func {fn : Fn} {f c : List SV} {f' c' : Array Value} (hf : VRs m f f'.toList) (hc : VRs m c c'.toList) : VR m (.func fn f c) (.func fn f' c')
  | nilFunc : VR m .nilFunc .nilFunc
  | iface {t : TypeId} {v : SV} {v' : Value} (h : VR m v v') : VR m (.iface t v) (.iface t v')
  | nilIface : VR m .nilIface .nilIface
  | agg {l : List SV} {cs : Array Value} (h : VRs m l cs.toList) : VR m (.agg l) (.agg cs)
  | tuple {l : List SV} {cs : Array Value} (h : VRs m l cs.toList) : VR m (.tuple l) (.tuple cs)
  | opq (a : Addr) : VR m (.opq a) (.pointer (some a))
  | low {x n r : Nat} (h : x % 2 ^ n = r) : VR m (.low x n r h) (.int .i64 (Int.ofNat x))
  | anyI {t : TypeId} {v' : Value} : VR m .anyI (.iface t v')
  | res {x n r : Int} (h : ((x.tmod n).natAbs : Int) = r) : VR m (.res x n r h) (.int .i64 x)
  | lanI {l : List SV} {k : IntKind} {n : Int} (h : l[Lane.x]? = some (.int k n)) : VR m (.lan l) (.int k n)
  | lanS {l : List SV} {s : ByteArray} {n p : Nat} (h : l[Lane.x]? = some (.str n p)) (hn : s.size = n) (hp : pk s.data.toList = p) : VR m (.lan l) (.string s)
  | resl {l : List SV} {x n : Int} (h : l[Lane.x]? = some (.int .i64 ((x.tmod n).natAbs : Int))) : VR m (.resl n l) (.int .i64 x)
  | rng {l : List (Int × Int)} {lo hi n : Int} (h : l[Lane.x]? = some (lo, hi)) (h1 : lo ≤ n) (h2 : n ≤ hi) : VR m (.rng l) (.int .i64 n)
inductive VRs (m : Mp) : List SV → List Value → Prop
  | nil : VRs m [] []
  | cons {v : SV} {v' : Value} {l : List SV} {l' : List Value} (h : VR m v v') (hs : VRs m l l') : VRs m (v :: l) (v' :: l')
end
def Mle (m m' : Mp) : Prop := ∀ i im, m i = some im → m' i = some im
mutual
theorem VR.mono {m m' : Mp} (h : Mle m m') : ∀ {v : SV} {v' : Value}, VR m v v' → VR m' v v'
  | _, _, .bool b => .bool b
  | _, _, .int k n => .int k n
  | _, _, .str hn hp => .str hn hp
  | _, _, .nilPtr => .nilPtr
  | _, _, .ptr hb => .ptr (h _ _ hb)
  | _, _, .nilSlice => .nilSlice
  | _, _, .sliceEx hb ha hs hc hl => .sliceEx (h _ _ hb) ha hs hc hl
  | _, _, .sliceOp hb ha hs hc hl ht hz => .sliceOp (h _ _ hb) ha hs hc hl ht hz
  | _, _, .nilMap => .nilMap
  | _, _, .map hb => .map (h _ _ hb)
  | _, _, .func hf hc => .func (VRs.mono h hf) (VRs.mono h hc)
  | _, _, .nilFunc => .nilFunc
  | _, _, .iface hv => .iface (VR.mono h hv)
  | _, _, .nilIface => .nilIface
  | _, _, .agg hl => .agg (VRs.mono h hl)
  | _, _, .tuple hl => .tuple (VRs.mono h hl)
  | _, _, .opq a => .opq a
  | _, _, .anyI => .anyI
  | _, _, .low h => .low h
  | _, _, .res h => .res h
  | _, _, .lanI h => .lanI h
  | _, _, .lanS h hn hp => .lanS h hn hp
  | _, _, .resl h => .resl h
  | _, _, .rng h a b => .rng h a b
theorem VRs.mono {m m' : Mp} (h : Mle m m') : ∀ {l : List SV} {l' : List Value}, VRs m l l' → VRs m' l l'
  | _, _, .nil => .nil
  | _, _, .cons hv hs => .cons (VR.mono h hv) (VRs.mono h hs)
end
theorem VR.undef {m : Mp} : VR m .undef Go.undef := .tuple .nil

section lists
variable {m : Mp}
theorem VRs.length : ∀ {l : List SV} {l' : List Value}, VRs m l l' → l.length = l'.length
  | _, _, .nil => rfl
  | _, _, .cons _ hs => by simp [hs.length]
theorem VRs.append : ∀ {l k : List SV} {l' k' : List Value}, VRs m l l' → VRs m k k' → VRs m (l ++ k) (l' ++ k')
  | _, _, _, _, .nil, h => h
  | _, _, _, _, .cons hv hs, h => .cons hv (hs.append h)
theorem VRs.get : ∀ {l : List SV} {l' : List Value}, VRs m l l' → ∀ (i : Nat) (v : SV), l[i]? = some v → ∃ v', l'[i]? = some v' ∧ VR m v v'
  | _, _, .nil, i, v, h => by simp at h
  | _, _, .cons hv hs, 0, v, h => by simp at h; subst h; exact ⟨_, rfl, hv⟩
  | _, _, .cons hv hs, i + 1, v, h => by simp at h; simpa using hs.get i v h
theorem VRs.get' : ∀ {l : List SV} {l' : List Value}, VRs m l l' → ∀ (i : Nat) (v' : Value), l'[i]? = some v' → ∃ v, l[i]? = some v ∧ VR m v v'
  | _, _, .nil, i, v, h => by simp at h
  | _, _, .cons hv hs, 0, v, h => by simp at h; subst h; exact ⟨_, rfl, hv⟩
  | _, _, .cons hv hs, i + 1, v, h => by simp at h; simpa using hs.get' i v h
theorem VRs.drop : ∀ {l : List SV} {l' : List Value}, VRs m l l' → ∀ n, VRs m (l.drop n) (l'.drop n)
  | _, _, h, 0 => by simpa using h
  | _, _, .nil, n + 1 => by simpa using VRs.nil
  | _, _, .cons hv hs, n + 1 => by simpa using hs.drop n
theorem VRs.take : ∀ {l : List SV} {l' : List Value}, VRs m l l' → ∀ n, VRs m (l.take n) (l'.take n)
  | _, _, h, 0 => by simpa using VRs.nil
  | _, _, .nil, n + 1 => by simpa using VRs.nil
  | _, _, .cons hv hs, n + 1 => by simpa using VRs.cons hv (hs.take n)
theorem VRs.of_get {l : List SV} : ∀ {l' : List Value}, l.length = l'.length → (∀ (i : Nat) v v', l[i]? = some v → l'[i]? = some v' → VR m v v') → VRs m l l' := by
  induction l with
  | nil => intro l' h _; cases l' with | nil => exact .nil | cons _ _ => simp at h
  | cons v l ih =>
    intro l' h hg
    cases l' with
    | nil => simp at h
    | cons v' l' => exact .cons (hg 0 _ _ rfl rfl) (ih (by simpa using h) fun i a b ha hb => hg (i + 1) a b (by simpa using ha) (by simpa using hb))
end lists
theorem VR.cells {m : Mp} : ∀ {v : SV} {v' : Value}, VR m v v' → VRs m v.cells v'.cells.toList
  | _, _, .agg hl => hl
  | _, _, .bool b => .cons (.bool b) .nil
  | _, _, .int k n => .cons (.int k n) .nil
  | _, _, .str hn hp => .cons (.str hn hp) .nil
  | _, _, .nilPtr => .cons .nilPtr .nil
  | _, _, .ptr hb => .cons (.ptr hb) .nil
  | _, _, .nilSlice => .cons .nilSlice .nil
  | _, _, .sliceEx hb ha hs hc hl => .cons (.sliceEx hb ha hs hc hl) .nil
  | _, _, .sliceOp hb ha hs hc hl ht hz => .cons (.sliceOp hb ha hs hc hl ht hz) .nil
  | _, _, .nilMap => .cons .nilMap .nil
  | _, _, .map hb => .cons (.map hb) .nil
  | _, _, .func hf hc => .cons (.func hf hc) .nil
  | _, _, .nilFunc => .cons .nilFunc .nil
  | _, _, .iface hv => .cons (.iface hv) .nil
  | _, _, .nilIface => .cons .nilIface .nil
  | _, _, .tuple hl => .cons (.tuple hl) .nil
  | _, _, .opq a => .cons (.opq a) .nil
  | _, _, .anyI => .cons .anyI .nil
  | _, _, .low h => .cons (.low h) .nil
  | _, _, .res h => .cons (.res h) .nil
  | _, _, .lanI h => .cons (.lanI h) .nil
  | _, _, .lanS h hn hp => .cons (.lanS h hn hp) .nil
  | _, _, .resl h => .cons (.resl h) .nil
  | _, _, .rng h a b => .cons (.rng h a b) .nil
theorem VR.one {m : Mp} {v : SV} {v' : Value} (h : VR m v v') (h1 : v.one = true) : v'.oneCell' = true := by
  cases h <;> first | rfl | (simp [SV.one] at h1)

/-! memory -/
/-- What may be frozen of a row of so many cells. -/
def FZ (fz : Nat) (lo hi n : Nat) : Prop :=
  match fz with
  | 0 => lo = 0 ∧ hi = 0
  | 1 => n ≤ lo ∨ hi ≤ lo
  | _ => True
/-- What stands in a cell: what is known of it, or nothing. -/
def CR (m : Mp) (x : SV) (v : Value) : Prop := VR m x v ∨ x = .unk
def O1 (x : SV) (v : Value) : Prop := v.oneCell' = true ∨ x = .unk
theorem CR.mono {m m' : Mp} (h : Mle m m') {x : SV} {v : Value} (c : CR m x v) : CR m' x v := c.imp (VR.mono h) id
inductive BR (m : Mp) (im : Im) : Blk → Option Obj → Prop
  | dead {o : Option Obj} : BR m im .dead o
  | cells {ty n fz lo hi : Nat} {c : Tr SV} {C : Array Value} (ht : C.size = im.tot) (hn : im.base + n ≤ C.size) (hf : FZ fz lo hi C.size)
      (hv : ∀ k, k < n → ∃ v, C[im.base + k]? = some v ∧ CR m (c.get .undef k) v ∧ O1 (c.get .undef k) v) :
      BR m im (.cells ty n fz c) (some (.cells C ty (lo, hi)))
  | map {es : List (SV × SV × Nat)} {ES : Array MapEntry} {clk : Nat} (hl : es.length = ES.size)
      (he : ∀ (i : Nat) x y, es[i]? = some x → ES[i]? = some y → VR m x.1 y.key ∧ VR m x.2.1 y.val ∧ x.2.2 = y.born) :
      BR m im (.map es clk) (some (.map ES clk))
  | siter {s : ByteArray} {n p pos : Nat} (hb : im.base = 0) (hn : s.size = n) (hp : pk s.data.toList = p) : BR m im (.siter n p pos) (some (.stringIter s pos))
  | lsit {s : ByteArray} {l : List SV} {n pos : Nat} (hb : im.base = 0) (hs : VR m (.lan l) (.string s)) (hn : s.size = n) : BR m im (.lsit l n pos) (some (.stringIter s pos))
  | miter {mb since last : Nat} {seen : List Nat} {S : Array Nat} {jm : Im} (hb : im.base = 0) (hm : m mb = some jm) (hs : S.toList = seen) : BR m im (.miter mb since seen last) (some (.mapIter (some jm.blk) since S last))
  | mnil (hb : im.base = 0) : BR m im .mnil (some (.mapIter none 0 #[] 0))
/-- What may be written. -/
def Blk.wr : Blk → Bool
  | .dead => false
  | .cells _ _ fz _ => Nat.ble fz 1
  | _ => true
theorem Blk.wr_live {x : Blk} (h : x.wr = true) : x ≠ .dead := by intro e; rw [e] at h; cases h
theorem Blk.wr_cells {ty n fz : Nat} {c : Tr SV} (h : fz ≤ 1) : (Blk.cells ty n fz c).wr = true := Nat.ble_eq_true_of_le h
structure WR (P : Program) (m : Mp) (σ : St) (w : World) : Prop where
  dom : ∀ i im, m i = some im → i < σ.next ∧ im.blk < w.heap.size
  blk : ∀ i im, m i = some im → BR m im (σ.get i) w.heap[im.blk]?
  inj : ∀ i j im jm, m i = some im → m j = some jm → σ.get i ≠ .dead → σ.get j ≠ .dead → im.blk = jm.blk → i = j
  live : ∀ i, σ.get i ≠ .dead → ∃ im, m i = some im
  glob : ∀ g im, g < P.globals.size → m g = some im → im.blk = g ∧ im.base = 0
  big : P.globals.size ≤ σ.next
  inv : ∀ W0 L, σ.gh = some (W0, L) → (W0.ShapedOpen P ∧ (∀ g ∈ L.ifs, ∃ te pe, W0.cell? ⟨g, 0, none⟩ = some (.iface te pe)) ∧ ∀ g l, (g, l) ∈ L.tabs → ∀ i v, l[i]? = some v → ∃ v', W0.cell? ⟨g, i, none⟩ = some v' ∧ VR (fun _ => none) v v') ∧ W0.heap.size ≤ w.heap.size ∧ (∀ i im, m i = some im → (σ.get i).wr = true → W0.heap.size ≤ im.blk) ∧ ∀ B, B < W0.heap.size → w.heap[B]? = W0.heap[B]?
/-- What is outside of the image, and what may not be written, stays. -/
structure Kp (m : Mp) (σ : St) (w w' : World) : Prop where
  os : w'.os = w.os
  tape : w'.tape = w.tape
  output : w'.output = w.output
  size : w.heap.size ≤ w'.heap.size
  block : ∀ B, B < w.heap.size → (∀ i im, m i = some im → (σ.get i).wr = true → im.blk ≠ B) → w'.heap[B]? = w.heap[B]?
structure Ext (m m' : Mp) (σ : St) (w : World) : Prop where
  le : Mle m m'
  new : ∀ i im, m' i = some im → m i = none → σ.next ≤ i ∧ (w.heap.size ≤ im.blk ∨ ∃ j jm, m j = some jm ∧ (σ.get j).wr = true ∧ jm.blk = im.blk)
structure Post (P : Program) (m : Mp) (σ : St) (w : World) (m' : Mp) (σ' : St) (w' : World) : Prop where
  ext : Ext m m' σ w
  wr : WR P m' σ' w'
  next : σ.next ≤ σ'.next
  kp : Kp m σ w w'
  gh : σ'.gh = σ.gh
  live : ∀ i im, m i = some im → (σ'.get i).wr = true → (σ.get i).wr = true
theorem Kp.refl (m : Mp) (σ : St) (w : World) : Kp m σ w w := ⟨rfl, rfl, rfl, Nat.le_refl _, fun _ _ _ => rfl⟩
theorem Ext.refl (m : Mp) (σ : St) (w : World) : Ext m m σ w := ⟨fun _ _ h => h, fun i im h h0 => by rw [h] at h0; cases h0⟩
theorem Post.refl {P : Program} {m : Mp} {σ : St} {w : World} (h : WR P m σ w) : Post P m σ w m σ w := ⟨.refl .., h, Nat.le_refl _, .refl .., rfl, fun _ _ _ h => h⟩
theorem Post.trans {P : Program} {m m1 m2 : Mp} {σ σ1 σ2 : St} {w w1 w2 : World} (h : Post P m σ w m1 σ1 w1) (k : Post P m1 σ1 w1 m2 σ2 w2) : Post P m σ w m2 σ2 w2 := by
  refine ⟨⟨fun i im hi => k.ext.le _ _ (h.ext.le _ _ hi), ?_⟩, k.wr, Nat.le_trans h.next k.next, ⟨k.kp.os.trans h.kp.os, k.kp.tape.trans h.kp.tape, k.kp.output.trans h.kp.output, Nat.le_trans h.kp.size k.kp.size, ?_⟩, k.gh.trans h.gh, fun i im hi d => h.live i im hi (k.live i im (h.ext.le _ _ hi) d)⟩
  · intro i im hi h0
    cases h1 : m1 i with
    | some im1 =>
      have := k.ext.le _ _ h1
      rw [hi] at this; cases this
      exact h.ext.new i im h1 h0
    | none =>
      obtain ⟨hn, hb⟩ := k.ext.new i im hi h1
      refine ⟨Nat.le_trans h.next hn, ?_⟩
      rcases hb with hb | ⟨j, jm, hj, hjd, hjb⟩
      · exact .inl (Nat.le_trans h.kp.size hb)
      · cases hj0 : m j with
        | some jm0 =>
          have := h.ext.le _ _ hj0
          rw [hj] at this; cases this
          exact .inr ⟨j, jm, hj0, h.live _ _ hj0 hjd, hjb⟩
        | none =>
          rcases (h.ext.new j jm hj hj0).2 with hb | ⟨j', jm', hj', hjd', hjb'⟩
          · exact .inl (hjb ▸ hb)
          · exact .inr ⟨j', jm', hj', hjd', hjb'.trans hjb⟩
  · intro B hB hno
    rw [k.kp.block B (Nat.lt_of_lt_of_le hB h.kp.size) ?_, h.kp.block B hB hno]
    intro i im hi di hb
    cases h0 : m i with
    | some im0 =>
      have := h.ext.le _ _ h0
      rw [hi] at this; cases this
      exact hno i im h0 (h.live _ _ h0 di) hb
    | none =>
      rcases (h.ext.new i im hi h0).2 with hb' | ⟨j, jm, hj, hjd, hjb⟩
      · omega
      · exact hno j jm hj hjd (hjb.trans hb)
/-- A draw. -/
theorem WR.drew {P : Program} {m : Mp} {σ : St} {w : World} (h : WR P m σ w) : WR P m σ w.drew := ⟨h.dom, h.blk, h.inj, h.live, h.glob, h.big, h.inv⟩
theorem Post.drew {P : Program} {m : Mp} {σ : St} {w : World} (h : WR P m σ w) : Post P m σ w m σ w.drew := ⟨.refl .., h.drew, Nat.le_refl _, ⟨rfl, rfl, rfl, Nat.le_refl _, fun _ _ _ => rfl⟩, rfl, fun _ _ _ h => h⟩

theorem BR.mono {m m' : Mp} (h : Mle m m') {im : Im} {b : Blk} {o : Option Obj} (k : BR m im b o) : BR m' im b o := by
  cases k with
  | dead => exact .dead
  | cells ht hn hf hv => exact .cells ht hn hf fun k hk => let ⟨v, a, b, c⟩ := hv k hk; ⟨v, a, b.mono h, c⟩
  | map hl he => exact .map hl fun i x y hx hy => let ⟨a, b, c⟩ := he i x y hx hy; ⟨a.mono h, b.mono h, c⟩
  | siter hb hn hp => exact .siter hb hn hp
  | lsit hb hs hn => exact .lsit hb (hs.mono h) hn
  | miter hb hm hs => exact .miter hb (h _ _ hm) hs
  | mnil hb => exact .mnil hb
def upd (m : Mp) (i : Nat) (im : Im) : Mp := fun j => if j = i then some im else m j
theorem upd_same (m : Mp) (i : Nat) (im : Im) : upd m i im i = some im := if_pos rfl
theorem upd_other {m : Mp} {i j : Nat} (im : Im) (h : j ≠ i) : upd m i im j = m j := if_neg h
theorem St.get_put (σ : St) (b i : Nat) (x : Blk) : (σ.put b x).get i = if i = b then x else σ.get i := Tr.get_set _ _ _
theorem St.get_new (σ : St) (i : Nat) (x : Blk) : (σ.new x).get i = if i = σ.next then x else σ.get i := Tr.get_set _ _ _
theorem WR.none_next {P : Program} {m : Mp} {σ : St} {w : World} (h : WR P m σ w) : m σ.next = none := by
  cases e : m σ.next with
  | none => rfl
  | some im => have := (h.dom _ _ e).1; omega
theorem WR.le_upd {P : Program} {m : Mp} {σ : St} {w : World} (h : WR P m σ w) (im : Im) : Mle m (upd m σ.next im) := by
  intro i im0 hi
  rw [upd_other _ (by intro e; subst e; rw [h.none_next] at hi; cases hi)]
  exact hi
theorem heap_alloc_new (w : World) (o : Obj) : (w.alloc o).heap[w.heap.size]? = some o := by
  show (w.heap.push o)[w.heap.size]? = some o
  simp
theorem heap_alloc_old (w : World) (o : Obj) {B : Nat} (h : B < w.heap.size) : (w.alloc o).heap[B]? = w.heap[B]? := by
  show (w.heap.push o)[B]? = w.heap[B]?
  rw [Array.getElem?_push, if_neg (by omega)]
/-- A new block here and there. -/
theorem Post.new {P : Program} {m : Mp} {σ : St} {w : World} (h : WR P m σ w) (x : Blk) (o : Obj) (tot : Nat)
    (hb : BR m ⟨w.heap.size, 0, tot⟩ x (some o)) :
    Post P m σ w (upd m σ.next ⟨w.heap.size, 0, tot⟩) (σ.new x) (w.alloc o) := by
  have hle := h.le_upd ⟨w.heap.size, 0, tot⟩
  have hold : ∀ i im, m i = some im → i ≠ σ.next := fun i im hi e => by have := (h.dom _ _ hi).1; omega
  refine ⟨⟨hle, fun i im hi h0 => ?_⟩, ⟨fun i im hi => ?_, fun i im hi => ?_, fun i j im jm hi hj di dj e => ?_, fun i hi => ?_, fun g im hg hi => ?_, ?_, fun W0 L hW => ?_⟩, by simp [St.new], ⟨rfl, rfl, rfl, by simp, fun B hB _ => ?_⟩, rfl, fun i im hi d => by rwa [St.get_new, if_neg (hold i im hi)] at d⟩
  · by_cases e : i = σ.next
    · subst e; rw [upd_same] at hi; cases hi; exact ⟨Nat.le_refl _, .inl (Nat.le_refl _)⟩
    · rw [upd_other _ e, h0] at hi; cases hi
  · by_cases e : i = σ.next
    · subst e; rw [upd_same] at hi; cases hi; exact ⟨by simp [St.new], by simp⟩
    · rw [upd_other _ e] at hi; have := h.dom _ _ hi; exact ⟨by simp [St.new]; omega, by simp; omega⟩
  · by_cases e : i = σ.next
    · subst e; rw [upd_same] at hi; cases hi
      rw [St.get_new, if_pos rfl]
      have : (w.alloc o).heap[w.heap.size]? = some o := heap_alloc_new w o
      rw [this]; exact hb.mono hle
    · rw [upd_other _ e] at hi
      rw [St.get_new, if_neg e]
      have hlt := (h.dom _ _ hi).2
      have : (w.alloc o).heap[im.blk]? = w.heap[im.blk]? := heap_alloc_old w o hlt
      rw [this]; exact (h.blk _ _ hi).mono hle
  · by_cases ei : i = σ.next <;> by_cases ej : j = σ.next
    · rw [ei, ej]
    · subst ei; rw [upd_same] at hi; cases hi; rw [upd_other _ ej] at hj
      have := (h.dom _ _ hj).2; simp at e; omega
    · subst ej; rw [upd_same] at hj; cases hj; rw [upd_other _ ei] at hi
      have := (h.dom _ _ hi).2; simp at e; omega
    · rw [upd_other _ ei] at hi; rw [upd_other _ ej] at hj
      rw [St.get_new, if_neg ei] at di; rw [St.get_new, if_neg ej] at dj
      exact h.inj _ _ _ _ hi hj di dj e
  · by_cases e : i = σ.next
    · subst e; exact ⟨_, upd_same ..⟩
    · rw [St.get_new, if_neg e] at hi
      obtain ⟨im, him⟩ := h.live _ hi
      exact ⟨im, by rw [upd_other _ e]; exact him⟩
  · have hb := h.big
    rw [upd_other _ (by omega)] at hi
    exact h.glob _ _ hg hi
  · have := h.big; simp [St.new]; omega
  · obtain ⟨i1, i2, i3, i4⟩ := h.inv W0 L hW
    refine ⟨i1, by simp; omega, fun i im hi di => ?_, fun B hB => (heap_alloc_old w o (by omega)).trans (i4 B hB)⟩
    by_cases e : i = σ.next
    · subst e; rw [upd_same] at hi; cases hi; exact i2
    · rw [upd_other _ e] at hi; rw [St.get_new, if_neg e] at di; exact i3 _ _ hi di
  · exact heap_alloc_old w o hB
/-- A block written here and there. -/
theorem Post.put {P : Program} {m : Mp} {σ : St} {w : World} (h : WR P m σ w) {b : Nat} {im : Im} (hm : m b = some im) (hd : (σ.get b).wr = true) (x : Blk) (w' : World)
    (hos : w'.os = w.os) (ht : w'.tape = w.tape) (ho : w'.output = w.output) (hs : w'.heap.size = w.heap.size)
    (hk : ∀ B, B ≠ im.blk → w'.heap[B]? = w.heap[B]?) (hb : BR m im x w'.heap[im.blk]?) : Post P m σ w m (σ.put b x) w' := by
  refine ⟨.refl .., ⟨fun i jm hi => ?_, fun i jm hi => ?_, fun i j jm km hi hj di dj e => ?_, fun i hi => ?_, h.glob, h.big, fun W0 L hW => (let ⟨i1, i2, i3, i4⟩ := h.inv W0 L hW; ⟨i1, by omega, fun i jm hi di => i3 _ _ hi (by
    rw [St.get_put] at di
    by_cases e : i = b
    · subst e; exact hd
    · rwa [if_neg e] at di), fun B hB => (hk B fun e => by have := i3 _ _ hm hd; omega).trans (i4 B hB)⟩)⟩, Nat.le_refl _, ⟨hos, ht, ho, by omega, fun B hB hno => hk B (Ne.symm (hno _ _ hm hd))⟩, rfl, fun i _ _ di => by
    rw [St.get_put] at di
    by_cases e : i = b
    · subst e; exact hd
    · rwa [if_neg e] at di⟩
  · have := h.dom _ _ hi; exact ⟨this.1, by omega⟩
  · rw [St.get_put]
    by_cases e : i = b
    · subst e; rw [hm] at hi; cases hi; rw [if_pos rfl]; exact hb
    · rw [if_neg e]
      by_cases hd' : σ.get i = .dead
      · rw [hd']; exact .dead
      · have hne : jm.blk ≠ im.blk := fun e' => e (h.inj _ _ _ _ hi hm hd' (Blk.wr_live hd) e')
        rw [hk _ hne]; exact h.blk _ _ hi
  · have hd' : ∀ i, (σ.put b x).get i ≠ .dead → σ.get i ≠ .dead := by
      intro i hi
      rw [St.get_put] at hi
      by_cases e : i = b
      · subst e; exact Blk.wr_live hd
      · rw [if_neg e] at hi; exact hi
    exact h.inj _ _ _ _ hi hj (hd' _ di) (hd' _ dj) e
  · rw [St.get_put] at hi
    by_cases e : i = b
    · subst e; exact ⟨im, hm⟩
    · rw [if_neg e] at hi; exact h.live _ hi
end Go.YtjighphlkcedhaaDoorEv
