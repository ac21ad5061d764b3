/- An evaluator for the program's own code: an argument's bytes that lie in the first world, mapped from the start as what may not be written. -/
import Derived.Test.YtjighphlkcedhaaDoorEv21
import Derived.Deep.Slices
set_option linter.unusedVariables false
namespace Go.YtjighphlkcedhaaDoorEv
open Go Go.RowKit
set_option linter.unusedSectionVars false
variable [Lane]
noncomputable def byteRow (x : Nat → Int) : Nat → Nat → List SV
  | 0, _ => []
  | n + 1, i => .int .u8 (x i) :: byteRow x n (i + 1)
theorem byteRow_get (x : Nat → Int) : ∀ n i k, k < n → (byteRow x n i)[k]? = some (.int .u8 (x (i + k)))
  | n + 1, i, 0, _ => rfl
  | n + 1, i, k + 1, h => by
    have := byteRow_get x n (i + 1) k (by omega)
    rw [show i + (k + 1) = i + 1 + k by omega]
    simpa [byteRow] using this
theorem byteRow_len (x : Nat → Int) : ∀ n i, (byteRow x n i).length = n
  | 0, _ => rfl
  | n + 1, i => by simp [byteRow, byteRow_len x n (i + 1)]
noncomputable def byteMem (G ty n : Nat) (x : Nat → Int) : St := ⟨G + 1, Tr.set .dead (.cells ty n 2 (fromL (byteRow x n 0))) .nil G, none⟩
theorem byteMem_get (G ty n : Nat) (x : Nat → Int) (i : Nat) : (byteMem G ty n x).get i = if i = G then .cells ty n 2 (fromL (byteRow x n 0)) else .dead := by
  show (Tr.set Blk.dead (Blk.cells ty n 2 (fromL (byteRow x n 0))) .nil G).get Blk.dead i = _
  rw [Tr.get_set, Tr.get_nil]
theorem byteMem_wr {P : Program} {W : World} {B base ty tot n : Nat} {x : Nat → Int} (hsh : W.shape? B = some (ty, tot)) (hr : ∀ i, i < n → W.cell? ⟨B, base + i, none⟩ = some (.int .u8 (x i))) (hb : base + n ≤ tot) :
    WR P (upd (fun _ => none) P.globals.size ⟨B, base, tot⟩) (byteMem P.globals.size ty n x) W := by
  obtain ⟨C, lo, hi, ho, hC⟩ : ∃ C lo hi, W.heap[B]? = some (.cells C ty (lo, hi)) ∧ C.size = tot := by
    unfold World.shape? at hsh
    split at hsh
    · rename_i c e f h
      simp only [Option.some.injEq, Prod.mk.injEq] at hsh
      obtain ⟨rfl, rfl⟩ := hsh
      exact ⟨c, f.1, f.2, h, rfl⟩
    · cases hsh
  have only : ∀ i im, upd (fun _ => none) P.globals.size (⟨B, base, tot⟩ : Im) i = some im → i = P.globals.size ∧ im = ⟨B, base, tot⟩ := fun i im h => by
    by_cases e : i = P.globals.size
    · subst e; rw [upd_same] at h; cases h; exact ⟨rfl, rfl⟩
    · rw [upd_other _ e] at h; cases h
  have hlt : B < W.heap.size := by
    rcases Nat.lt_or_ge B W.heap.size with h | h
    · exact h
    · rw [Array.getElem?_eq_none h] at ho; cases ho
  refine ⟨fun i im h => ?_, fun i im h => ?_, fun i j im jm h1 h2 _ _ _ => ?_, fun i hi => ?_, fun g im hg h => ?_, Nat.le_succ _, fun _ _ h => by cases h⟩
  · obtain ⟨rfl, rfl⟩ := only i im h; exact ⟨Nat.lt_succ_self _, hlt⟩
  · obtain ⟨rfl, rfl⟩ := only i im h
    rw [byteMem_get, if_pos rfl, ho]
    refine .cells hC (by rw [hC]; exact hb) trivial fun k hk => ⟨.int .u8 (x k), ?_, ?_, .inl rfl⟩
    · have := hr k hk
      rwa [cell_of ho] at this
    · rw [fromL_get (byteRow_get x n 0 k hk), Nat.zero_add]; exact .inl (.int ..)
  · rw [(only i im h1).1, (only j jm h2).1]
  · rw [byteMem_get] at hi
    by_cases e : i = P.globals.size
    · subst e; exact ⟨_, upd_same ..⟩
    · rw [if_neg e] at hi; exact absurd rfl hi
  · have := (only g im h).1; omega
theorem byteMem_keeps {P : Program} {B base ty tot n : Nat} {x : Nat → Int} {k : Nat} : ∀ i im, upd (fun _ => none) P.globals.size (⟨B, base, tot⟩ : Im) i = some im → ((byteMem P.globals.size ty n x).get i).wr = true → im.blk ≠ k := fun i im h hw => by
  by_cases e : i = P.globals.size
  · rw [byteMem_get, if_pos e] at hw; cases hw
  · rw [upd_other _ e] at h; cases h
/-- What an argument of type []byte is, as far as this is looked at. -/
def BArg (W : World) (v : Value) : Prop :=
  v = .slice none 0 0 ∨ ∃ (a : Addr) (len cap ty tot : Nat) (x : Nat → Int), v = .slice (some a) len cap ∧ len ≤ cap ∧ a.spot = none ∧ W.shape? a.block = some (ty, tot) ∧ (∀ i, i < cap → W.cell? ⟨a.block, a.off + i, none⟩ = some (.int .u8 (x i)))
omit [Lane] in
theorem bArg_of {P : Program} {W : World} {H : Type} {enc : TypeId × Value → H} {base fuel : Nat} {held : Bool} {t e : TypeId} {v : Value} {y : DataW H × List MemPlace} (ht : P.underlying t = some (.slice e)) (he : P.underlying e = some (.int .u8)) (hc1 : P.cellsOf e = 1)
    (h : DataW.trod enc P W base (fun _ => true) held fuel t [v] = some y) {base2 : Nat} (hok : Value.okWide P W .any base2 t v) : BArg W v := by
  rcases Go.Deep.open_slice ht h with h0 | ⟨a, len, cap, m, n, D, Pl, hcs, hb, hl, hm, hmm, hx, hi⟩
  · exact .inl (by simpa using h0.1)
  · simp only [List.cons.injEq, and_true] at hcs
    subst hcs
    obtain ⟨hs, ty, tot, hsh⟩ : a.spot = none ∧ ∃ ty tot, W.shape? a.block = some (ty, tot) := by
      unfold Value.okWide at hok
      rw [ht] at hok
      simp only at hok
      unfold Cell.okWide at hok
      rw [ht] at hok
      simp only at hok
      unfold Cell.ok at hok
      rw [ht] at hok
      simp only at hok
      obtain ⟨_, _, _, h1, row, cells, h2, _⟩ := hok
      exact ⟨h1, row, cells, h2⟩
    have hcell : ∀ i, i < cap → ∃ x : Int, W.cell? ⟨a.block, a.off + i, none⟩ = some (.int .u8 x) := fun i hlt => by
      obtain ⟨cs', hc, ht'⟩ := hi i (by rw [hmm]; simpa using hlt)
      rw [hc1] at hc
      obtain ⟨z, rfl, _⟩ := DataW.trod_int he ht'
      obtain ⟨_, hcl, hat⟩ := World.cells?_some hc
      have := hat 0 (by omega)
      refine ⟨z, ?_⟩
      have e1 : (⟨a.block, a.off + i, none⟩ : Addr) = a.add (i * 1) := by cases a; simp at hs; subst hs; simp [Addr.add]
      rw [e1]
      simpa [Addr.add] using this
    exact .inr ⟨a, len, cap, ty, tot, fun i => if hlt : i < cap then Classical.choose (hcell i hlt) else 0, rfl, hl, hs, hsh, fun i hlt => by
      show W.cell? _ = some (.int .u8 (if hlt : i < cap then Classical.choose (hcell i hlt) else 0))
      rw [dif_pos hlt]; exact Classical.choose_spec (hcell i hlt)⟩
end Go.YtjighphlkcedhaaDoorEv
